/- The law FnDebts, walked. -/
import Derived.Test.YtocedhbefdaefaaR4
import Derived.Test.YtocedhbefdaefaaP0
import Derived.Test.YtocedhbefdaefaaW6
namespace Go.Proofs.Ytocedhbefdaefaa
open Go Go.RowKit

theorem if01 {b : Bool} (h : (if b = true then 0 else 1 : Int) = 0) : b = true := by cases b <;> simp_all

theorem sumI_two {α : Type} {f g p q : α → Int} : ∀ {xs : List α}, (∀ e ∈ xs, f e - g e = p e - q e) → sumI f xs - sumI g xs = sumI p xs - sumI q xs
  | [], _ => by simp [sumI]
  | x :: xs, h => by
    have h1 := h x (by simp)
    have h2 := sumI_two (f := f) (g := g) (p := p) (q := q) (xs := xs) fun e he => h e (by simp [he])
    simp only [sumI]; omega
theorem sumI_zero {α : Type} : ∀ (xs : List α), sumI (fun _ => 0) xs = 0
  | [] => rfl
  | x :: xs => by simp only [sumI]; rw [sumI_zero xs]; rfl

theorem bq {p q : Prop} [Decidable p] [Decidable q] (h : p ↔ q) (c : (decide p == decide q) = false) : False := by
  by_cases hq : q
  · rw [decide_eq_true hq, decide_eq_true (h.2 hq)] at c; cases c
  · rw [decide_eq_false hq, decide_eq_false (fun hp => hq (h.1 hp))] at c; cases c
def slE (n : Str) (e : Ent) : Int := if e.2.1 = 0 ∧ e.2.2.1 = n then e.2.2.2 else 0
theorem slE_def (n : Str) (e : Ent) : slE n e = if e.2.1 = 0 ∧ e.2.2.1 = n then e.2.2.2 else 0 := rfl
theorem sl_nn {n : Str} : ∀ {xs : List Ent}, (∀ e ∈ xs, entB e = true) → 0 ≤ sumI (slE n) xs
  | [], _ => by simp [sumI]
  | e :: es, h => by
    have h1 := ent_bd (h e (by simp)); have h2 := slE_def n e; have h3 := sl_nn (n := n) (xs := es) fun y hy => h y (by simp [hy])
    simp only [sumI]; split at h2 <;> omega
theorem pd_nn {n : Str} : ∀ {xs : List Ent}, (∀ e ∈ xs, entB e = true) → 0 ≤ sumI (pdE n) xs
  | [], _ => by simp [sumI]
  | e :: es, h => by
    have h1 := ent_bd (h e (by simp)); have h2 := pdE_def n e; have h3 := pd_nn (n := n) (xs := es) fun y hy => h y (by simp [hy])
    simp only [sumI]; split at h2 <;> omega
theorem ow_two (n : Str) (xs : List Ent) : owS n xs = sumI (slE n) xs - sumI (pdE n) xs := by
  have := sumI_two (f := owE n) (g := fun _ => 0) (p := slE n) (q := pdE n) (xs := xs) fun e _ => by
    have h1 := owE_def n e; have h2 := slE_def n e; have h3 := pdE_def n e
    by_cases c1 : e.2.2.1 = n
    · rw [if_pos c1] at h1
      by_cases c2 : e.2.1 = 0
      · rw [if_pos c2] at h1; rw [if_pos ⟨c2, c1⟩] at h2; rw [if_neg (by omega)] at h3; omega
      · rw [if_neg c2] at h1; rw [if_neg (by omega)] at h2
        by_cases c3 : e.2.1 = 1
        · rw [if_pos c3] at h1; rw [if_pos ⟨c3, c1⟩] at h3; omega
        · rw [if_neg c3] at h1; rw [if_neg (by omega)] at h3; omega
    · rw [if_neg c1] at h1; rw [if_neg (fun q => c1 q.2)] at h2; rw [if_neg (fun q => c1 q.2)] at h3; omega
  rw [sumI_zero] at this; unfold owS; omega
theorem od_iff {n : Str} : ∀ {es : List Ent} {p : Int}, (∀ e ∈ es, entB e = true) → 0 ≤ p → ((odGo n es p).isSome = true ↔ p < sumI (slE n) es)
  | [], p, _, h0 => by simp [odGo, sumI]; omega
  | e :: es, p, h, h0 => by
    have hr : ∀ y ∈ es, entB y = true := fun y hy => h y (by simp [hy])
    have h2 := slE_def n e; have h3 := sl_nn (n := n) hr
    rw [odGo]; simp only [sumI]
    split
    · rename_i hc
      rw [if_pos hc] at h2
      split
      · simp; omega
      · rw [od_iff hr (by omega)]; omega
    · rename_i hc
      rw [if_neg hc] at h2
      rw [od_iff hr h0]; omega
theorem od_all {xs : List Ent} {n : Str} (h : dbB xs = true) (h2 : wordB n = true) : 0 ≤ owS n xs ∧ owS n xs ≤ 600000000 ∧ (odB xs n = 0 ↔ 0 < owS n xs) := by
  have hE := dbB_ent h
  have h3 := od_iff (n := n) hE (pd_nn (n := n) hE)
  have h4 := ow_two n xs
  have h5 := owS_bd (n := n) hE; have h6 := dbB_len h
  refine ⟨owS_nonneg h n, by omega, ?_⟩
  unfold odB odS; rw [h, h2]; simp only [Bool.and_true, if_true]
  rw [show (0 < owS n xs) ↔ sumI (pdE n) xs < sumI (slE n) xs by omega, ← h3]
  cases (odGo n xs (sumI (pdE n) xs)).isSome <;> simp
theorem dbt_all {xs : List Ent} (h : dbB xs = true) {i : Nat} {x : Str} (hx : (dbtN xs)[i]? = some x) : wordB x = true ∧ x.length ≤ 16 ∧ 0 < owS x xs := by
  have hm := List.mem_of_getElem? hx
  unfold dbtN at hm
  rw [nmGo_mem] at hm
  rcases hm with hm | ⟨e, h1, h2, h3, h4⟩
  · cases hm
  · have he := dbB_ent h e h1
    have h5 := owS_nonneg h x
    have hw : wordB x = true := by
      unfold entB at he
      rw [if_neg (by omega)] at he
      simp only [Bool.and_eq_true] at he
      rw [← h3]; exact he.2.1
    exact ⟨hw, (wordB_len hw).2, by omega⟩
theorem pay_sum {xs : List Ent} {d : Int} {z : Str} : ∀ {ns : List Str}, UpS ns → owS z (ns.map (payE xs d)) = if z ∈ ns then 0 - owS z xs else 0
  | [], _ => by simp [sumI]
  | n :: ns, h => by
    have h' := List.pairwise_cons.1 h
    have ih := pay_sum (xs := xs) (d := d) (z := z) h'.2
    have e0 : owS z ((n :: ns).map (payE xs d)) = owE z (payE xs d n) + owS z (ns.map (payE xs d)) := rfl
    rw [e0, ih]
    by_cases c : n = z
    · subst c
      rw [if_neg (fun q => str_irr n (h'.1 n q)), if_pos (by simp)]
      have : owE n (payE xs d n) = 0 - owS n xs := by unfold owE payE; simp
      omega
    · have : owE z (payE xs d n) = 0 := by unfold owE payE; simp [c]
      rw [this, Int.zero_add]
      by_cases c2 : z ∈ ns
      · rw [if_pos c2, if_pos (by simp [c2])]
      · rw [if_neg c2, if_neg (by simp [c2]; exact fun q => c q.symm)]
/-- Who has paid all owes nothing. -/
theorem pay_none {xs : List Ent} {d : Int} : dbtN (payO xs d) = [] := by
  rw [List.eq_nil_iff_forall_not_mem]
  intro z hz
  unfold dbtN at hz
  rw [nmGo_mem] at hz
  rcases hz with hz | ⟨e, h1, h2, h3, h4⟩
  · cases hz
  · have hs : owS z (payO xs d) = owS z xs + owS z ((dbtN xs).map (payE xs d)) := by unfold payO owS; rw [sumI_append]
    have hu : UpS (dbtN xs) := nmGo_up xs xs [] List.Pairwise.nil
    rw [pay_sum hu] at hs
    have he : e ∈ xs := by
      unfold payO at h1
      rcases List.mem_append.1 h1 with q | q
      · exact q
      · obtain ⟨n, _, rfl⟩ := List.mem_map.1 q
        exact absurd h2 (show ¬ (1 : Int) = 0 by decide)
    by_cases c : owS z xs = 0
    · split at hs <;> omega
    · rw [if_pos (by unfold dbtN; rw [nmGo_mem]; exact .inr ⟨e, he, h2, h3, c⟩)] at hs
      omega
theorem pay_all0 {xs : List Ent} {d : Int} (h : payC xs d = 0) : dbB xs = true ∧ payL xs d = payO xs d ∧ dbB (payO xs d) = true ∧ (payO xs d).length ≤ 60 ∧ (payO xs d).length = xs.length + (dbtN xs).length ∧ dbtN (payO xs d) = [] := by
  have h1 : codeD xs d = 0 := by
    unfold payC at h; split at h
    · assumption
    · exact h
  have h2 : ¬ 60 < (payO xs d).length := by
    intro q; unfold payC at h; rw [if_pos h1, if_pos q] at h; cases h
  have h3 : dbB (payO xs d) = true := by
    unfold payC at h; rw [if_pos h1, if_neg h2] at h
    split at h
    · assumption
    · cases h
  refine ⟨(codeD_ok h1).1, by unfold payL; rw [if_pos h1, if_neg h2, if_pos h3], h3, by omega, payO_len xs d, pay_none⟩
theorem pay_all {xs : List Ent} {d : Int} (h : payC xs d = 0) : dbB (payL xs d) = true ∧ (payL xs d).length = xs.length + (if dbB xs then dbtN xs else []).length ∧ (if dbB (payL xs d) then dbtN (payL xs d) else []).length = 0 ∧ (payL xs d).length ≤ 60 := by
  obtain ⟨h1, h2, h3, h4, h5, h6⟩ := pay_all0 h
  rw [h2, if_pos h1, if_pos h3, h6]; exact ⟨h3, h5, rfl, h4⟩
theorem dbt_el {xs : List Ent} (h : dbB xs = true) {i : Nat} {x : Str} (hx : (if dbB xs then dbtN xs else [])[i]? = some x) : (dbB xs && wordB x) = true ∧ 0 < owS x xs ∧ owS x xs ≤ 600000000 := by
  rw [if_pos h] at hx
  have h1 := dbt_all h hx
  have h5 := owS_bd (n := x) (dbB_ent h); have h6 := dbB_len h
  exact ⟨by rw [h, h1.1]; rfl, h1.2.2, by omega⟩
theorem dbt_c {xs : List Ent} (h : dbB xs = true) {i : Nat} {x : Str} {y : Int} (hx : (if dbB xs then dbtN xs else [])[i]? = some x) (hy : (if dbB xs then dbtC xs else [])[i]? = some y) : owS x xs = y := by
  rw [if_pos h] at hx hy; exact dbtC_get hx hy
theorem dbt_if (xs : List Ent) : (if dbB xs then dbtN xs else []).length ≤ xs.length := by
  split
  · exact dbtN_len xs
  · exact Nat.zero_le _
theorem dbt_l (xs : List Ent) : (if dbB xs then dbtN xs else []).length = (if dbB xs then dbtC xs else []).length := by split <;> simp [dbtC]
theorem ow_if {xs : List Ent} {n : Str} (h : (if (dbB xs && wordB n) = true then 0 else 1 : Int) = 0) : (dbB xs && wordB n) = true ∧ 0 ≤ owS n xs ∧ owS n xs ≤ 600000000 ∧ (odB xs n = 0 ↔ 0 < owS n xs) := by
  have h0 := if01 h
  have h1 := h0; simp only [Bool.and_eq_true] at h1
  exact ⟨h0, od_all h1.1 h1.2⟩

set_option maxHeartbeats 8000000 in
set_option maxRecDepth 16000 in
theorem c_laws_FnDebts (w0 : World) (v_code : Value) (code : List UInt8) {S_code : Nat → Prop} (h_code : Rds shU8 S_code w0 v_code code) :
  Calls Try.prog 14 #[v_code] w0 (Ret w0 (fun v _ => v = .bool (true))) := by
 refine enter (N := 212) Try.func14 rfl rfl rfl ?_
 intro a0 ha0
 have hx0 := Ext.rfl' w0
 have hl_code := h_code.length_le
 refine wp_seq ?_
 refine wp_region_lit ?_
 refine wl_val ha0 rfl rfl rfl (op_assign ha0 rfl rfl) ?_
 intro a1 ha1; clear ha0 a0
 refine wpList_nil ?_
 refine then_n ?_
 refine wp_seq ?_
 refine wp_seq ?_
 refine wp_region_lit ?_
 refine wl_val ha1 rfl rfl rfl (op_move ha1 rfl rfl) ?_
 intro a2 ha2; clear ha1 a1
 refine wl_callR ha2 rfl rfl rfl (op_call ha2 rfl cb48 rfl) (c_laws_big _ v_code code (h_code.ext pos_shU8 hx0)) ?_
 rintro v3 w4 he5 rfl a6 ha6; clear ha2 a2
 have hx7 := hx0.trans' he5
 have hzhx7 := he5.size
 refine wpList_nil ?_
 refine then_n ?_
 rcases Bool.eq_false_or_eq_true (decide (4096 < code.length)) with c8 | c8
 ·
  rw [c8] at ha6
  refine cond_t ha6 rfl ?_
  refine wp_seq ?_
  refine wp_region_lit ?_
  refine wl_val ha6 rfl rfl rfl (op_assign ha6 rfl rfl) ?_
  intro a9 ha9; clear ha6 a6
  refine wpList_nil ?_
  refine then_n ?_
  refine wp_ret ?_
  refine then_r ?_
  refine ret1 ha9 rfl rfl ?_
  clear ha9 a9
  exact ret_mk hx7 (congrArg Value.bool (by first | rfl | (simp at c8; done) | (rw [hwv] at *; omega) | (rw [hcv] at *; omega) | (rw [hp1]; done) | (simp [hp1]; done) | omega))
 ·
  rw [c8] at ha6
  refine cond_f ha6 rfl ?_
  refine wp_skip ?_
  refine then_n ?_
  refine wp_seq ?_
  refine wp_region_lit ?_
  refine wl_val ha6 rfl rfl rfl (op_move ha6 rfl rfl) ?_
  intro a10 ha10; clear ha6 a6
  refine wl_callR ha10 rfl rfl rfl (op_call ha10 rfl cb53 rfl) (c_spec_DrawPayAll _ v_code code (h_code.ext pos_shU8 hx7)) ?_
  rintro v11 w12 he13 ⟨q14, q15, hq16, hq17, ⟨v18, rfl, ho19⟩⟩ a20 ha20; clear ha10 a10
  have hx21 := hx7.trans' he13
  have hzhx21 := he13.size
  refine wl_val ha20 rfl rfl rfl (op_move ha20 rfl rfl) ?_
  intro a22 ha22; clear ha20 a20
  refine wl_val ha22 rfl rfl rfl (op_extract ha22 rfl rfl rfl) ?_
  intro a23 ha23; clear ha22 a22
  refine wl_val ha23 rfl rfl rfl (op_extract ha23 rfl rfl rfl) ?_
  intro a24 ha24; clear ha23 a23
  refine wl_val ha24 rfl rfl rfl (op_assign ha24 rfl rfl) ?_
  intro a25 ha25; clear ha24 a24
  refine wl_val ha25 rfl rfl rfl (op_assign ha25 rfl rfl) ?_
  intro a26 ha26; clear ha25 a25
  refine wpList_nil ?_
  refine then_n ?_
  refine wp_seq ?_
  refine wp_region_lit ?_
  refine wl_val ha26 rfl rfl rfl (op_move ha26 rfl rfl) ?_
  intro a27 ha27; clear ha26 a26
  refine wl_val ha27 rfl rfl rfl (op_move ha27 rfl rfl) ?_
  intro a28 ha28; clear ha27 a27
  refine wl_callR ha28 rfl rfl rfl (op_call ha28 rfl cb42 rfl) (c_impl_PayAll _ v18 ((q14)) (q15 : Int) (ho19.rds pos_shEnt) (by first | assumption | omega | (simp; done) | (simp; omega)) (by first | assumption | omega | (simp; done) | (simp; omega))) ?_
  rintro v29 w30 he31 ⟨v32, rfl, ho33⟩ a34 ha34; clear ha28 a28
  have hx35 := hx21.trans' he31
  have hzhx35 := he31.size
  replace ho19 := ho19.ext he31
  refine wl_val ha34 rfl rfl rfl (op_move ha34 rfl rfl) ?_
  intro a36 ha36; clear ha34 a34
  refine wl_val ha36 rfl rfl rfl (op_extract ha36 rfl rfl rfl) ?_
  intro a37 ha37; clear ha36 a36
  refine wl_val ha37 rfl rfl rfl (op_extract ha37 rfl rfl rfl) ?_
  intro a38 ha38; clear ha37 a37
  refine wl_val ha38 rfl rfl rfl (op_assign ha38 rfl rfl) ?_
  intro a39 ha39; clear ha38 a38
  refine wl_val ha39 rfl rfl rfl (op_assign ha39 rfl rfl) ?_
  intro a40 ha40; clear ha39 a39
  refine wpList_nil ?_
  refine then_n ?_
  refine wp_seq ?_
  refine wp_region_lit ?_
  refine wl_val ha40 rfl rfl rfl (op_move ha40 rfl rfl) ?_
  intro a41 ha41; clear ha40 a40
  refine wl_val ha41 rfl rfl rfl (op_move ha41 rfl rfl) ?_
  intro a42 ha42; clear ha41 a41
  refine wl_callR ha42 rfl rfl rfl (op_call ha42 rfl cb41 rfl) (c_spec_PayAll _ v18 ((q14)) (q15 : Int) (ho19.rds pos_shEnt) (by first | assumption | omega | (simp; done) | (simp; omega)) (by first | assumption | omega | (simp; done) | (simp; omega))) ?_
  rintro v43 w44 he45 ⟨v46, rfl, ho47⟩ a48 ha48; clear ha42 a42
  have hx49 := hx35.trans' he45
  have hzhx49 := he45.size
  replace ho19 := ho19.ext he45
  replace ho33 := ho33.ext he45
  refine wl_val ha48 rfl rfl rfl (op_move ha48 rfl rfl) ?_
  intro a50 ha50; clear ha48 a48
  refine wl_val ha50 rfl rfl rfl (op_extract ha50 rfl rfl rfl) ?_
  intro a51 ha51; clear ha50 a50
  refine wl_val ha51 rfl rfl rfl (op_extract ha51 rfl rfl rfl) ?_
  intro a52 ha52; clear ha51 a51
  refine wl_val ha52 rfl rfl rfl (op_assign ha52 rfl rfl) ?_
  intro a53 ha53; clear ha52 a52
  refine wl_val ha53 rfl rfl rfl (op_assign ha53 rfl rfl) ?_
  intro a54 ha54; clear ha53 a53
  refine wpList_nil ?_
  refine then_n ?_
  refine wp_seq ?_
  refine wp_region_lit ?_
  refine wl_val ha54 rfl rfl rfl (op_move ha54 rfl rfl) ?_
  intro a55 ha55; clear ha54 a54
  refine wl_callR ha55 rfl rfl rfl (op_call ha55 rfl cb44 rfl) (c_impl_Debtors _ v18 ((q14)) (ho19.rds pos_shEnt) (by first | assumption | omega | (simp; done) | (simp; omega))) ?_
  rintro v56 w57 he58 ⟨v59, v61, rfl, ho60, ho62⟩ a63 ha63; clear ha55 a55
  have hx64 := hx49.trans' he58
  have hzhx64 := he58.size
  replace ho19 := ho19.ext he58
  replace ho33 := ho33.ext he58
  replace ho47 := ho47.ext he58
  refine wl_val ha63 rfl rfl rfl (op_move ha63 rfl rfl) ?_
  intro a65 ha65; clear ha63 a63
  refine wl_val ha65 rfl rfl rfl (op_extract ha65 rfl rfl rfl) ?_
  intro a66 ha66; clear ha65 a65
  refine wl_val ha66 rfl rfl rfl (op_extract ha66 rfl rfl rfl) ?_
  intro a67 ha67; clear ha66 a66
  refine wl_val ha67 rfl rfl rfl (op_extract ha67 rfl rfl rfl) ?_
  intro a68 ha68; clear ha67 a67
  refine wl_val ha68 rfl rfl rfl (op_assign ha68 rfl rfl) ?_
  intro a69 ha69; clear ha68 a68
  refine wl_val ha69 rfl rfl rfl (op_assign ha69 rfl rfl) ?_
  intro a70 ha70; clear ha69 a69
  refine wl_val ha70 rfl rfl rfl (op_assign ha70 rfl rfl) ?_
  intro a71 ha71; clear ha70 a70
  refine wpList_nil ?_
  refine then_n ?_
  refine wp_seq ?_
  refine wp_region_lit ?_
  refine wl_val ha71 rfl rfl rfl (op_move ha71 rfl rfl) ?_
  intro a72 ha72; clear ha71 a71
  refine wl_callR ha72 rfl rfl rfl (op_call ha72 rfl cb43 rfl) (c_spec_Debtors _ v18 ((q14)) (ho19.rds pos_shEnt) (by first | assumption | omega | (simp; done) | (simp; omega))) ?_
  rintro v73 w74 he75 ⟨v76, v78, rfl, ho77, ho79⟩ a80 ha80; clear ha72 a72
  have hx81 := hx64.trans' he75
  have hzhx81 := he75.size
  replace ho19 := ho19.ext he75
  replace ho33 := ho33.ext he75
  replace ho47 := ho47.ext he75
  replace ho60 := ho60.ext he75
  replace ho62 := ho62.ext he75
  refine wl_val ha80 rfl rfl rfl (op_move ha80 rfl rfl) ?_
  intro a82 ha82; clear ha80 a80
  refine wl_val ha82 rfl rfl rfl (op_extract ha82 rfl rfl rfl) ?_
  intro a83 ha83; clear ha82 a82
  refine wl_val ha83 rfl rfl rfl (op_extract ha83 rfl rfl rfl) ?_
  intro a84 ha84; clear ha83 a83
  refine wl_val ha84 rfl rfl rfl (op_extract ha84 rfl rfl rfl) ?_
  intro a85 ha85; clear ha84 a84
  refine wl_val ha85 rfl rfl rfl (op_assign ha85 rfl rfl) ?_
  intro a86 ha86; clear ha85 a85
  refine wl_val ha86 rfl rfl rfl (op_assign ha86 rfl rfl) ?_
  intro a87 ha87; clear ha86 a86
  refine wl_val ha87 rfl rfl rfl (op_assign ha87 rfl rfl) ?_
  intro a88 ha88; clear ha87 a87
  refine wpList_nil ?_
  refine then_n ?_
  refine wp_seq ?_
  refine wp_region_lit ?_
  refine wl_val ha88 rfl rfl rfl (op_move ha88 rfl rfl) ?_
  intro a89 ha89; clear ha88 a88
  refine wl_callR ha89 rfl rfl rfl (op_call ha89 rfl cb54 rfl) (c_spec_DrawOldestDebt _ v_code code (h_code.ext pos_shU8 hx81)) ?_
  rintro v90 w91 he92 ⟨q93, q94, hq95, hq96, ⟨v97, rfl, ho98⟩⟩ a99 ha99; clear ha89 a89
  have hx100 := hx81.trans' he92
  have hzhx100 := he92.size
  replace ho19 := ho19.ext he92
  replace ho33 := ho33.ext he92
  replace ho47 := ho47.ext he92
  replace ho60 := ho60.ext he92
  replace ho62 := ho62.ext he92
  replace ho77 := ho77.ext he92
  replace ho79 := ho79.ext he92
  refine wl_val ha99 rfl rfl rfl (op_move ha99 rfl rfl) ?_
  intro a101 ha101; clear ha99 a99
  refine wl_val ha101 rfl rfl rfl (op_extract ha101 rfl rfl rfl) ?_
  intro a102 ha102; clear ha101 a101
  refine wl_val ha102 rfl rfl rfl (op_extract ha102 rfl rfl rfl) ?_
  intro a103 ha103; clear ha102 a102
  refine wl_val ha103 rfl rfl rfl (op_assign ha103 rfl rfl) ?_
  intro a104 ha104; clear ha103 a103
  refine wl_val ha104 rfl rfl rfl (op_assign ha104 rfl rfl) ?_
  intro a105 ha105; clear ha104 a104
  refine wpList_nil ?_
  refine then_n ?_
  refine wp_seq ?_
  refine wp_region_lit ?_
  refine wl_val ha105 rfl rfl rfl (op_move ha105 rfl rfl) ?_
  intro a106 ha106; clear ha105 a105
  refine wl_val ha106 rfl rfl rfl (op_move ha106 rfl rfl) ?_
  intro a107 ha107; clear ha106 a106
  refine wl_callR ha107 rfl rfl rfl (op_call ha107 rfl cb23 rfl) (c_impl_OldestDebt _ v97 ((q93)) ((q94)) (ho98.rds pos_shEnt) (by first | assumption | omega | (simp; done) | (simp; omega)) (by first | assumption | omega | (simp; done) | (simp; omega))) ?_
  rintro v108 w109 he110 rfl a111 ha111; clear ha107 a107
  have hx112 := hx100.trans' he110
  have hzhx112 := he110.size
  replace ho19 := ho19.ext he110
  replace ho33 := ho33.ext he110
  replace ho47 := ho47.ext he110
  replace ho60 := ho60.ext he110
  replace ho62 := ho62.ext he110
  replace ho77 := ho77.ext he110
  replace ho79 := ho79.ext he110
  replace ho98 := ho98.ext he110
  refine wl_val ha111 rfl rfl rfl (op_move ha111 rfl rfl) ?_
  intro a113 ha113; clear ha111 a111
  refine wl_val ha113 rfl rfl rfl (op_extract ha113 rfl rfl rfl) ?_
  intro a114 ha114; clear ha113 a113
  refine wl_val ha114 rfl rfl rfl (op_extract ha114 rfl rfl rfl) ?_
  intro a115 ha115; clear ha114 a114
  refine wl_val ha115 rfl rfl rfl (op_assign ha115 rfl rfl) ?_
  intro a116 ha116; clear ha115 a115
  refine wl_val ha116 rfl rfl rfl (op_assign ha116 rfl rfl) ?_
  intro a117 ha117; clear ha116 a116
  refine wpList_nil ?_
  refine then_n ?_
  refine wp_seq ?_
  refine wp_region_lit ?_
  refine wl_val ha117 rfl rfl rfl (op_move ha117 rfl rfl) ?_
  intro a118 ha118; clear ha117 a117
  refine wl_val ha118 rfl rfl rfl (op_move ha118 rfl rfl) ?_
  intro a119 ha119; clear ha118 a118
  refine wl_callR ha119 rfl rfl rfl (op_call ha119 rfl cb22 rfl) (c_spec_OldestDebt _ v97 ((q93)) ((q94)) (ho98.rds pos_shEnt) (by first | assumption | omega | (simp; done) | (simp; omega)) (by first | assumption | omega | (simp; done) | (simp; omega))) ?_
  rintro v120 w121 he122 rfl a123 ha123; clear ha119 a119
  have hx124 := hx112.trans' he122
  have hzhx124 := he122.size
  replace ho19 := ho19.ext he122
  replace ho33 := ho33.ext he122
  replace ho47 := ho47.ext he122
  replace ho60 := ho60.ext he122
  replace ho62 := ho62.ext he122
  replace ho77 := ho77.ext he122
  replace ho79 := ho79.ext he122
  replace ho98 := ho98.ext he122
  refine wl_val ha123 rfl rfl rfl (op_move ha123 rfl rfl) ?_
  intro a125 ha125; clear ha123 a123
  refine wl_val ha125 rfl rfl rfl (op_extract ha125 rfl rfl rfl) ?_
  intro a126 ha126; clear ha125 a125
  refine wl_val ha126 rfl rfl rfl (op_extract ha126 rfl rfl rfl) ?_
  intro a127 ha127; clear ha126 a126
  refine wl_val ha127 rfl rfl rfl (op_assign ha127 rfl rfl) ?_
  intro a128 ha128; clear ha127 a127
  refine wl_val ha128 rfl rfl rfl (op_assign ha128 rfl rfl) ?_
  intro a129 ha129; clear ha128 a128
  refine wpList_nil ?_
  refine then_n ?_
  refine wp_seq ?_
  refine wp_region_lit ?_
  refine wl_val ha129 rfl rfl rfl (op_move ha129 rfl rfl) ?_
  intro a130 ha130; clear ha129 a129
  refine wl_val ha130 rfl rfl rfl (op_move ha130 rfl rfl) ?_
  intro a131 ha131; clear ha130 a130
  refine wl_callR ha131 rfl rfl rfl (op_call ha131 rfl cb21 rfl) (c_impl_OwesOf _ v97 ((q93)) ((q94)) (ho98.rds pos_shEnt) (by first | assumption | omega | (simp; done) | (simp; omega)) (by first | assumption | omega | (simp; done) | (simp; omega))) ?_
  rintro v132 w133 he134 rfl a135 ha135; clear ha131 a131
  have hx136 := hx124.trans' he134
  have hzhx136 := he134.size
  replace ho19 := ho19.ext he134
  replace ho33 := ho33.ext he134
  replace ho47 := ho47.ext he134
  replace ho60 := ho60.ext he134
  replace ho62 := ho62.ext he134
  replace ho77 := ho77.ext he134
  replace ho79 := ho79.ext he134
  replace ho98 := ho98.ext he134
  refine wl_val ha135 rfl rfl rfl (op_move ha135 rfl rfl) ?_
  intro a137 ha137; clear ha135 a135
  refine wl_val ha137 rfl rfl rfl (op_extract ha137 rfl rfl rfl) ?_
  intro a138 ha138; clear ha137 a137
  refine wl_val ha138 rfl rfl rfl (op_extract ha138 rfl rfl rfl) ?_
  intro a139 ha139; clear ha138 a138
  refine wl_val ha139 rfl rfl rfl (op_assign ha139 rfl rfl) ?_
  intro a140 ha140; clear ha139 a139
  refine wl_val ha140 rfl rfl rfl (op_assign ha140 rfl rfl) ?_
  intro a141 ha141; clear ha140 a140
  refine wpList_nil ?_
  refine then_n ?_
  refine wp_seq ?_
  refine wp_region_lit ?_
  refine wl_val ha141 rfl rfl rfl (op_move ha141 rfl rfl) ?_
  intro a142 ha142; clear ha141 a141
  refine wl_val ha142 rfl rfl rfl (op_move ha142 rfl rfl) ?_
  intro a143 ha143; clear ha142 a142
  refine wl_callR ha143 rfl rfl rfl (op_call ha143 rfl cb20 rfl) (c_spec_OwesOf _ v97 ((q93)) ((q94)) (ho98.rds pos_shEnt) (by first | assumption | omega | (simp; done) | (simp; omega)) (by first | assumption | omega | (simp; done) | (simp; omega))) ?_
  rintro v144 w145 he146 rfl a147 ha147; clear ha143 a143
  have hx148 := hx136.trans' he146
  have hzhx148 := he146.size
  replace ho19 := ho19.ext he146
  replace ho33 := ho33.ext he146
  replace ho47 := ho47.ext he146
  replace ho60 := ho60.ext he146
  replace ho62 := ho62.ext he146
  replace ho77 := ho77.ext he146
  replace ho79 := ho79.ext he146
  replace ho98 := ho98.ext he146
  refine wl_val ha147 rfl rfl rfl (op_move ha147 rfl rfl) ?_
  intro a149 ha149; clear ha147 a147
  refine wl_val ha149 rfl rfl rfl (op_extract ha149 rfl rfl rfl) ?_
  intro a150 ha150; clear ha149 a149
  refine wl_val ha150 rfl rfl rfl (op_extract ha150 rfl rfl rfl) ?_
  intro a151 ha151; clear ha150 a150
  refine wl_val ha151 rfl rfl rfl (op_assign ha151 rfl rfl) ?_
  intro a152 ha152; clear ha151 a151
  refine wl_val ha152 rfl rfl rfl (op_assign ha152 rfl rfl) ?_
  intro a153 ha153; clear ha152 a152
  refine wpList_nil ?_
  refine then_n ?_
  refine wp_seq ?_
  refine wp_seq ?_
  clear ho98
  refine wp_region_lit ?_
  refine wl_val ha153 rfl rfl rfl (op_move ha153 rfl rfl) ?_
  intro a154 ha154; clear ha153 a153
  refine wl_val ha154 rfl rfl rfl (op_move ha154 rfl rfl) ?_
  intro a155 ha155; clear ha154 a154
  refine wl_val ha155 rfl rfl rfl ((op_neq ha155 rfl rfl rfl).to (congrArg Value.bool decide_not)) ?_
  intro a156 ha156; clear ha155 a155
  refine wl_val ha156 rfl rfl rfl (op_move ha156 rfl rfl) ?_
  intro a157 ha157; clear ha156 a156
  by_cases c158 : (payC ((q14)) (q15 : Int) : Int) = (payC ((q14)) (q15 : Int) : Int)
  ·
   rw [decide_eq_true c158] at ha157
   refine wl_val ha157 rfl rfl rfl (op_move ha157 rfl rfl) ?_
   intro a159 ha159; clear ha157 a157
   refine wl_val ha159 rfl rfl rfl (op_move ha159 rfl rfl) ?_
   intro a160 ha160; clear ha159 a159
   refine wl_callR ha160 rfl rfl rfl (op_call ha160 rfl cb52 rfl) (c_laws_likeEntries _ v32 ((payL ((q14)) (q15 : Int))) v46 ((payL ((q14)) (q15 : Int))) (ho33.rds pos_shEnt) (ho47.rds pos_shEnt)) ?_
   rintro v161 w162 he163 rfl a164 ha164; clear ha160 a160
   have hx165 := hx148.trans' he163
   have hzhx165 := he163.size
   replace ho19 := ho19.ext he163
   replace ho33 := ho33.ext he163
   replace ho47 := ho47.ext he163
   replace ho60 := ho60.ext he163
   replace ho62 := ho62.ext he163
   replace ho77 := ho77.ext he163
   replace ho79 := ho79.ext he163
   refine wl_val ha164 rfl rfl rfl (op_not ha164 rfl rfl) ?_
   intro a166 ha166; clear ha164 a164
   refine wl_val ha166 rfl rfl rfl (op_pick_f ha166 rfl rfl rfl) ?_
   intro a167 ha167; clear ha166 a166
   refine wl_val ha167 rfl rfl rfl (op_move ha167 rfl rfl) ?_
   intro a168 ha168; clear ha167 a167
   rcases Bool.eq_false_or_eq_true (eqL ((payL ((q14)) (q15 : Int))) ((payL ((q14)) (q15 : Int)))) with c169 | c169
   ·
    rw [c169] at ha168
    refine wl_val ha168 rfl rfl rfl (op_move ha168 rfl rfl) ?_
    intro a170 ha170; clear ha168 a168
    refine wl_val ha170 rfl rfl rfl (op_move ha170 rfl rfl) ?_
    intro a171 ha171; clear ha170 a170
    refine wl_val ha171 rfl rfl rfl ((op_neq ha171 rfl rfl rfl).to (congrArg Value.bool decide_not)) ?_
    intro a172 ha172; clear ha171 a171
    refine wl_val ha172 rfl rfl rfl (op_pick_f ha172 rfl rfl rfl) ?_
    intro a173 ha173; clear ha172 a172
    refine wl_val ha173 rfl rfl rfl (op_move ha173 rfl rfl) ?_
    intro a174 ha174; clear ha173 a173
    by_cases c175 : (if dbB ((q14)) then 0 else 1 : Int) = (if dbB ((q14)) then 0 else 1 : Int)
    ·
     rw [decide_eq_true c175] at ha174
     refine wl_val ha174 rfl rfl rfl (op_move ha174 rfl rfl) ?_
     intro a176 ha176; clear ha174 a174
     refine wl_val ha176 rfl rfl rfl (op_move ha176 rfl rfl) ?_
     intro a177 ha177; clear ha176 a176
     refine wl_callR ha177 rfl rfl rfl (op_call ha177 rfl cb55 rfl) (c_laws_likeTexts _ v59 ((if dbB ((q14)) then dbtN ((q14)) else [])) v76 ((if dbB ((q14)) then dbtN ((q14)) else [])) (ho60.rds pos_shStr) (ho77.rds pos_shStr)) ?_
     rintro v178 w179 he180 rfl a181 ha181; clear ha177 a177
     have hx182 := hx165.trans' he180
     have hzhx182 := he180.size
     replace ho19 := ho19.ext he180
     replace ho33 := ho33.ext he180
     replace ho47 := ho47.ext he180
     replace ho60 := ho60.ext he180
     replace ho62 := ho62.ext he180
     replace ho77 := ho77.ext he180
     replace ho79 := ho79.ext he180
     refine wl_val ha181 rfl rfl rfl (op_not ha181 rfl rfl) ?_
     intro a183 ha183; clear ha181 a181
     refine wl_val ha183 rfl rfl rfl (op_pick_f ha183 rfl rfl rfl) ?_
     intro a184 ha184; clear ha183 a183
     refine wl_val ha184 rfl rfl rfl (op_move ha184 rfl rfl) ?_
     intro a185 ha185; clear ha184 a184
     rcases Bool.eq_false_or_eq_true (eqL ((if dbB ((q14)) then dbtN ((q14)) else [])) ((if dbB ((q14)) then dbtN ((q14)) else []))) with c186 | c186
     ·
      rw [c186] at ha185
      refine wl_val ha185 rfl rfl rfl (op_move ha185 rfl rfl) ?_
      intro a187 ha187; clear ha185 a185
      refine wl_val ha187 rfl rfl rfl (op_move ha187 rfl rfl) ?_
      intro a188 ha188; clear ha187 a187
      refine wl_callR ha188 rfl rfl rfl (op_call ha188 rfl cb51 rfl) (c_laws_likeInts _ v61 ((if dbB ((q14)) then dbtC ((q14)) else [])) v78 ((if dbB ((q14)) then dbtC ((q14)) else [])) (ho62.rds pos_shI64) (ho79.rds pos_shI64)) ?_
      rintro v189 w190 he191 rfl a192 ha192; clear ha188 a188
      have hx193 := hx182.trans' he191
      have hzhx193 := he191.size
      replace ho19 := ho19.ext he191
      replace ho33 := ho33.ext he191
      replace ho47 := ho47.ext he191
      replace ho60 := ho60.ext he191
      replace ho62 := ho62.ext he191
      replace ho77 := ho77.ext he191
      replace ho79 := ho79.ext he191
      refine wl_val ha192 rfl rfl rfl (op_not ha192 rfl rfl) ?_
      intro a194 ha194; clear ha192 a192
      refine wl_val ha194 rfl rfl rfl (op_pick_f ha194 rfl rfl rfl) ?_
      intro a195 ha195; clear ha194 a194
      refine wl_val ha195 rfl rfl rfl (op_move ha195 rfl rfl) ?_
      intro a196 ha196; clear ha195 a195
      rcases Bool.eq_false_or_eq_true (eqL ((if dbB ((q14)) then dbtC ((q14)) else [])) ((if dbB ((q14)) then dbtC ((q14)) else []))) with c197 | c197
      ·
       rw [c197] at ha196
       refine wl_val ha196 rfl rfl rfl (op_move ha196 rfl rfl) ?_
       intro a198 ha198; clear ha196 a196
       refine wl_val ha198 rfl rfl rfl (op_move ha198 rfl rfl) ?_
       intro a199 ha199; clear ha198 a198
       refine wl_val ha199 rfl rfl rfl ((op_neq ha199 rfl rfl rfl).to (congrArg Value.bool decide_not)) ?_
       intro a200 ha200; clear ha199 a199
       refine wl_val ha200 rfl rfl rfl (op_pick_f ha200 rfl rfl rfl) ?_
       intro a201 ha201; clear ha200 a200
       refine wl_val ha201 rfl rfl rfl (op_move ha201 rfl rfl) ?_
       intro a202 ha202; clear ha201 a201
       by_cases c203 : (odB ((q93)) ((q94)) : Int) = (odB ((q93)) ((q94)) : Int)
       ·
        rw [decide_eq_true c203] at ha202
        refine wl_val ha202 rfl rfl rfl (op_move ha202 rfl rfl) ?_
        intro a204 ha204; clear ha202 a202
        refine wl_val ha204 rfl rfl rfl (op_move ha204 rfl rfl) ?_
        intro a205 ha205; clear ha204 a204
        refine wl_val ha205 rfl rfl rfl ((op_neq ha205 rfl rfl rfl).to (congrArg Value.bool decide_not)) ?_
        intro a206 ha206; clear ha205 a205
        refine wl_val ha206 rfl rfl rfl (op_pick_f ha206 rfl rfl rfl) ?_
        intro a207 ha207; clear ha206 a206
        refine wl_val ha207 rfl rfl rfl (op_move ha207 rfl rfl) ?_
        intro a208 ha208; clear ha207 a207
        by_cases c209 : (odA ((q93)) ((q94)) : Int) = (odA ((q93)) ((q94)) : Int)
        ·
         rw [decide_eq_true c209] at ha208
         refine wl_val ha208 rfl rfl rfl (op_move ha208 rfl rfl) ?_
         intro a210 ha210; clear ha208 a208
         refine wl_val ha210 rfl rfl rfl (op_move ha210 rfl rfl) ?_
         intro a211 ha211; clear ha210 a210
         refine wl_val ha211 rfl rfl rfl ((op_neq ha211 rfl rfl rfl).to (congrArg Value.bool decide_not)) ?_
         intro a212 ha212; clear ha211 a211
         refine wl_val ha212 rfl rfl rfl (op_pick_f ha212 rfl rfl rfl) ?_
         intro a213 ha213; clear ha212 a212
         refine wl_val ha213 rfl rfl rfl (op_move ha213 rfl rfl) ?_
         intro a214 ha214; clear ha213 a213
         by_cases c215 : (if dbB ((q93)) && wordB ((q94)) then 0 else 1 : Int) = (if dbB ((q93)) && wordB ((q94)) then 0 else 1 : Int)
         ·
          rw [decide_eq_true c215] at ha214
          refine wl_val ha214 rfl rfl rfl (op_move ha214 rfl rfl) ?_
          intro a216 ha216; clear ha214 a214
          refine wl_val ha216 rfl rfl rfl (op_move ha216 rfl rfl) ?_
          intro a217 ha217; clear ha216 a216
          refine wl_val ha217 rfl rfl rfl ((op_neq ha217 rfl rfl rfl).to (congrArg Value.bool decide_not)) ?_
          intro a218 ha218; clear ha217 a217
          refine wl_val ha218 rfl rfl rfl (op_pick_f ha218 rfl rfl rfl) ?_
          intro a219 ha219; clear ha218 a218
          refine wpList_nil ?_
          refine then_n ?_
          by_cases c220 : (if dbB ((q93)) && wordB ((q94)) then owS ((q94)) ((q93)) else 0 : Int) = (if dbB ((q93)) && wordB ((q94)) then owS ((q94)) ((q93)) else 0 : Int)
          ·
           rw [decide_eq_true c220] at ha219
           refine cond_f ha219 rfl ?_
           refine wp_skip ?_
           refine then_n ?_
           refine seq_mid (fun fr wl => Sl 212 fr [(3, v18), (5, v32), (6, .int .i64 (payC ((q14)) (q15 : Int) : Int)), (9, v59), (11, .int .i64 (if dbB ((q14)) then 0 else 1 : Int)), (13, v78)] ∧ Ext w0 wl ∧ Own shEnt 41 w4.heap.size w4.heap.size w12.heap.size wl v18 ((q14)) ∧ Own shEnt 41 w12.heap.size w12.heap.size w30.heap.size wl v32 ((payL ((q14)) (q15 : Int))) ∧ Own shStr 9 w44.heap.size w44.heap.size w57.heap.size wl v59 ((if dbB ((q14)) then dbtN ((q14)) else [])) ∧ Own shI64 2 w57.heap.size w57.heap.size w74.heap.size wl v78 ((if dbB ((q14)) then dbtC ((q14)) else [])) ∧ w190.heap.size ≤ wl.heap.size) ?_ ?_
           ·
            refine wp_seq ?_
            clear ho47 ho62 ho77
            refine wp_region_lit ?_
            refine wl_val ha219 rfl rfl rfl (op_move ha219 rfl rfl) ?_
            intro a227 ha227; clear ha219 a219
            refine wl_val ha227 rfl rfl rfl (op_eql ha227 rfl rfl rfl) ?_
            intro a228 ha228; clear ha227 a227
            refine wl_val ha228 rfl rfl rfl (op_move ha228 rfl rfl) ?_
            intro a229 ha229; clear ha228 a228
            by_cases c230 : (if dbB ((q93)) && wordB ((q94)) then 0 else 1 : Int) = (0 : Int)
            ·
             rw [decide_eq_true c230] at ha229
             obtain ⟨ho1, ho2, ho3, ho4⟩ := ow_if c230
             have hwv : (if dbB q93 && wordB q94 then owS q94 q93 else 0) = owS q94 q93 := if_pos ho1
             refine wl_val ha229 rfl rfl rfl (op_move ha229 rfl rfl) ?_
             intro a231 ha231; clear ha229 a229
             refine wl_val ha231 rfl rfl rfl (op_lss ha231 rfl rfl rfl) ?_
             intro a232 ha232; clear ha231 a231
             refine wl_val ha232 rfl rfl rfl (op_move ha232 rfl rfl) ?_
             intro a233 ha233; clear ha232 a232
             by_cases c234 : (if dbB ((q93)) && wordB ((q94)) then owS ((q94)) ((q93)) else 0 : Int) < (0 : Int)
             ·
              rw [decide_eq_true c234] at ha233
              refine wl_skip ha233 rfl rfl rfl ?_
              intro a235 ha235; clear ha233 a233
              refine wl_skip ha235 rfl rfl rfl ?_
              intro a236 ha236; clear ha235 a235
              refine wl_skip ha236 rfl rfl rfl ?_
              intro a237 ha237; clear ha236 a236
              refine wl_skip ha237 rfl rfl rfl ?_
              intro a238 ha238; clear ha237 a237
              refine wl_skip ha238 rfl rfl rfl ?_
              intro a239 ha239; clear ha238 a238
              refine wl_val ha239 rfl rfl rfl (op_pick_t ha239 rfl rfl rfl) ?_
              intro a240 ha240; clear ha239 a239
              refine wl_val ha240 rfl rfl rfl (op_pick_t ha240 rfl rfl rfl) ?_
              intro a241 ha241; clear ha240 a240
              refine wpList_nil ?_
              refine then_n ?_
              refine cond_t ha241 rfl ?_
              refine wp_seq ?_
              clear ho19 ho33 ho60 ho79
              refine wp_region_lit ?_
              refine wl_val ha241 rfl rfl rfl (op_assign ha241 rfl rfl) ?_
              intro a242 ha242; clear ha241 a241
              refine wpList_nil ?_
              refine then_n ?_
              refine wp_ret ?_
              refine ret1 ha242 rfl rfl ?_
              clear ha242 a242
              exact ret_mk hx193 (congrArg Value.bool (by first | rfl | (simp at c8; done) | (rw [hwv] at *; omega) | (rw [hcv] at *; omega) | (rw [hp1]; done) | (simp [hp1]; done) | (exact absurd hcc c8) | (exact absurd (hcv.trans hdc) c8) | (exact absurd (if_pos hp1) c8) | (exact absurd hp3 c8) | omega))
             ·
              rw [decide_eq_false c234] at ha233
              refine wl_val ha233 rfl rfl rfl (op_move ha233 rfl rfl) ?_
              intro a243 ha243; clear ha233 a233
              refine wl_val ha243 rfl rfl rfl (op_eql ha243 rfl rfl rfl) ?_
              intro a244 ha244; clear ha243 a243
              refine wl_val ha244 rfl rfl rfl (op_move ha244 rfl rfl) ?_
              intro a245 ha245; clear ha244 a244
              refine wl_val ha245 rfl rfl rfl (op_gtr ha245 rfl rfl rfl) ?_
              intro a246 ha246; clear ha245 a245
              refine wl_val ha246 rfl rfl rfl (op_bneq ha246 rfl Try.underlying4 rfl rfl) ?_
              intro a247 ha247; clear ha246 a246
              refine wl_val ha247 rfl rfl rfl (op_pick_f ha247 rfl rfl rfl) ?_
              intro a248 ha248; clear ha247 a247
              refine wl_val ha248 rfl rfl rfl (op_pick_t ha248 rfl rfl rfl) ?_
              intro a249 ha249; clear ha248 a248
              refine wpList_nil ?_
              refine then_n ?_
              rcases Bool.eq_false_or_eq_true ((decide ((odB ((q93)) ((q94)) : Int) = (0 : Int)) == decide ((0 : Int) < (if dbB ((q93)) && wordB ((q94)) then owS ((q94)) ((q93)) else 0 : Int)))) with c250 | c250
              ·
               rw [c250] at ha249
               refine cond_f ha249 rfl ?_
               refine wp_skip ?_
               refine then_n ?_
               refine ⟨(Sl.cons_ ha249 rfl rfl (Sl.cons_ ha249 rfl rfl (Sl.cons_ ha249 rfl rfl (Sl.cons_ ha249 rfl rfl (Sl.cons_ ha249 rfl rfl (Sl.cons_ ha249 rfl rfl (Sl.nil_ ha249))))))), hx193, ho19, ho33, ho60, ho79, (by omega)⟩
              ·
               rw [c250] at ha249
               refine cond_t ha249 rfl ?_
               refine wp_seq ?_
               clear ho19 ho33 ho60 ho79
               refine wp_region_lit ?_
               refine wl_val ha249 rfl rfl rfl (op_assign ha249 rfl rfl) ?_
               intro a251 ha251; clear ha249 a249
               refine wpList_nil ?_
               refine then_n ?_
               refine wp_ret ?_
               refine ret1 ha251 rfl rfl ?_
               clear ha251 a251
               exact ret_mk hx193 (congrArg Value.bool (by first | rfl | (exact absurd rfl c250) | (simp at c250; done) | (simp at c8; done) | (rw [hwv] at *; omega) | (rw [hcv] at *; omega) | (rw [hp1]; done) | (simp [hp1]; done) | (exact absurd hcc c250) | (exact absurd (hcv.trans hdc) c250) | (exact absurd (if_pos hp1) c250) | (exact absurd hp3 c250) | (rw [hwv] at c250; exact (bq ho4 c250).elim) | (exact absurd hcc c234) | (exact absurd (hcv.trans hdc) c234) | (exact absurd (if_pos hp1) c234) | (exact absurd hp3 c234) | (exact absurd hcc c8) | (exact absurd (hcv.trans hdc) c8) | (exact absurd (if_pos hp1) c8) | (exact absurd hp3 c8) | omega))
            ·
             rw [decide_eq_false c230] at ha229
             refine wl_skip ha229 rfl rfl rfl ?_
             intro a252 ha252; clear ha229 a229
             refine wl_skip ha252 rfl rfl rfl ?_
             intro a253 ha253; clear ha252 a252
             refine wl_skip ha253 rfl rfl rfl ?_
             intro a254 ha254; clear ha253 a253
             refine wl_skip ha254 rfl rfl rfl ?_
             intro a255 ha255; clear ha254 a254
             refine wl_skip ha255 rfl rfl rfl ?_
             intro a256 ha256; clear ha255 a255
             refine wl_skip ha256 rfl rfl rfl ?_
             intro a257 ha257; clear ha256 a256
             refine wl_skip ha257 rfl rfl rfl ?_
             intro a258 ha258; clear ha257 a257
             refine wl_skip ha258 rfl rfl rfl ?_
             intro a259 ha259; clear ha258 a258
             refine wl_skip ha259 rfl rfl rfl ?_
             intro a260 ha260; clear ha259 a259
             refine wl_val ha260 rfl rfl rfl (op_pick_f ha260 rfl rfl rfl) ?_
             intro a261 ha261; clear ha260 a260
             refine wpList_nil ?_
             refine then_n ?_
             refine cond_f ha261 rfl ?_
             refine wp_skip ?_
             refine then_n ?_
             refine ⟨(Sl.cons_ ha261 rfl rfl (Sl.cons_ ha261 rfl rfl (Sl.cons_ ha261 rfl rfl (Sl.cons_ ha261 rfl rfl (Sl.cons_ ha261 rfl rfl (Sl.cons_ ha261 rfl rfl (Sl.nil_ ha261))))))), hx193, ho19, ho33, ho60, ho79, (by omega)⟩
           ·
            clear ha219 a219
            rintro a262 w221 ⟨ha262, hx222, hf223, hf224, hf225, hf226, hzl263⟩
            have hzhx222 := hx222.size
            refine wp_seq ?_
            refine wp_seq ?_
            refine wp_region_lit ?_
            refine wl_val ha262 rfl rfl rfl (op_assign ha262 rfl rfl) ?_
            intro a264 ha264; clear ha262 a262
            refine wpList_nil ?_
            refine then_n ?_
            refine wp_block ?_
            refine loop_inv (X := Nat) (fun (i : Nat) fr wl => Sl 212 fr [(3, v18), (5, v32), (6, .int .i64 (payC ((q14)) (q15 : Int) : Int)), (9, v59), (11, .int .i64 (if dbB ((q14)) then 0 else 1 : Int)), (13, v78), (25, .int .i64 ((i : Nat) : Int))] ∧ Ext w0 wl ∧ Own shEnt 41 w4.heap.size w4.heap.size w12.heap.size wl v18 ((q14)) ∧ Own shEnt 41 w12.heap.size w12.heap.size w30.heap.size wl v32 ((payL ((q14)) (q15 : Int))) ∧ Own shStr 9 w44.heap.size w44.heap.size w57.heap.size wl v59 ((if dbB ((q14)) then dbtN ((q14)) else [])) ∧ Own shI64 2 w57.heap.size w57.heap.size w74.heap.size wl v78 ((if dbB ((q14)) then dbtC ((q14)) else [])) ∧ w221.heap.size ≤ wl.heap.size ∧ (i ≤ (if dbB ((q14)) then dbtN ((q14)) else []).length) ∧ ((if dbB ((q14)) then dbtN ((q14)) else []).length = (if dbB ((q14)) then dbtC ((q14)) else []).length) ∧ ((if dbB ((q14)) then dbtN ((q14)) else []).length ≤ 61)) (fun (i : Nat) => (if dbB ((q14)) then dbtN ((q14)) else []).length - i) (0) ?_ ?_
            ·
             exact ⟨(Sl.cons_ ha264 rfl rfl (Sl.cons_ ha264 rfl rfl (Sl.cons_ ha264 rfl rfl (Sl.cons_ ha264 rfl rfl (Sl.cons_ ha264 rfl rfl (Sl.cons_ ha264 rfl rfl (Sl.cons_ ha264 rfl (int_eq (by omega)) (Sl.nil_ ha264)))))))), hx222, hf223, hf224, hf225, hf226, (by omega), (by omega), (by exact dbt_l _), (by exact Nat.le_trans (dbt_if _) (by omega))⟩
            ·
             clear ha264 a264
             rintro i a271 w265 ⟨ha271, hx266, hf267, hf268, hf269, hf270, hzl272, hi, hdl, hD⟩
             have hzhx266 := hx266.size
             refine wp_seq ?_
             refine wp_seq ?_
             refine wp_region_lit ?_
             refine wl_val ha271 rfl rfl rfl (op_move ha271 rfl rfl) ?_
             intro a273 ha273; clear ha271 a271
             refine wl_val ha273 rfl rfl rfl (op_eql ha273 rfl rfl rfl) ?_
             intro a274 ha274; clear ha273 a273
             refine wl_val ha274 rfl rfl rfl (op_move ha274 rfl rfl) ?_
             intro a275 ha275; clear ha274 a274
             by_cases c276 : (if dbB ((q14)) then 0 else 1 : Int) = (0 : Int)
             ·
              rw [decide_eq_true c276] at ha275
              have hw0 := if01 c276
              refine wl_val ha275 rfl rfl rfl (op_move ha275 rfl rfl) ?_
              intro a277 ha277; clear ha275 a275
              refine wl_val ha277 rfl rfl rfl (op_move ha277 rfl rfl) ?_
              intro a278 ha278; clear ha277 a277
              refine wl_val ha278 rfl rfl rfl (op_len_sl ha278 rfl Try.underlying52 rfl (hf269.rds pos_shStr)) ?_
              intro a279 ha279; clear ha278 a278
              refine wl_val ha279 rfl rfl rfl (op_lss ha279 rfl rfl rfl) ?_
              intro a280 ha280; clear ha279 a279
              refine wl_val ha280 rfl rfl rfl (op_pick_t ha280 rfl rfl rfl) ?_
              intro a281 ha281; clear ha280 a280
              refine wpList_nil ?_
              refine then_n ?_
              by_cases c282 : ((i : Nat) : Int) < ((((if dbB ((q14)) then dbtN ((q14)) else [])).length : Nat) : Int)
              ·
               rw [decide_eq_true c282] at ha281
               refine cond_t ha281 rfl ?_
               refine wp_skip ?_
               refine then_n ?_
               refine wp_seq ?_
               refine wp_block ?_
               refine wp_seq ?_
               refine wp_region_lit ?_
               refine wl_val ha281 rfl rfl rfl (op_move ha281 rfl rfl) ?_
               intro a283 ha283; clear ha281 a281
               refine wl_val ha283 rfl rfl rfl (op_move ha283 rfl rfl) ?_
               intro a284 ha284; clear ha283 a283
               refine wl_val ha284 rfl rfl rfl (op_move ha284 rfl rfl) ?_
               intro a285 ha285; clear ha284 a284
               obtain ⟨x286, hx286⟩ := get_ex (xs := (if dbB ((q14)) then dbtN ((q14)) else [])) (j := i) (by omega)
               obtain ⟨p287, c288, hi289, hc290, hr291, hs292⟩ := Rds.at_ (hf269.rds pos_shStr) hx286
               obtain ⟨rfl, b293⟩ := inv_shStr hr291
               obtain ⟨_, _⟩ : _ ∧ _ := hs292
               have hdx := dbt_el hw0 hx286
               have hcv : (if dbB q14 && wordB x286 then owS x286 q14 else 0) = owS x286 q14 := if_pos hdx.1
               have hcc : (if dbB q14 && wordB x286 then 0 else 1 : Int) = 0 := if_pos hdx.1
               refine wl_val ha285 rfl rfl rfl (op_indexAddr ha285 rfl Try.underlying52 ti9 rfl rfl (by omega) hi289) ?_
               intro a294 ha294; clear ha285 a285
               refine wl_val ha294 rfl rfl rfl (op_loadH ha294 rfl Try.underlying9 rfl rfl hc290 rfl) ?_
               intro a295 ha295; clear ha294 a294
               refine wl_callR ha295 rfl rfl rfl (op_call ha295 rfl cb21 rfl) (c_impl_OwesOf _ v18 ((q14)) x286 (hf267.rds pos_shEnt) (by first | assumption | omega | (simp; done) | (simp; omega)) (by first | assumption | omega | (simp; done) | (simp; omega))) ?_
               rintro v296 w297 he298 rfl a299 ha299; clear ha295 a295
               have hx300 := hx266.trans' he298
               have hzhx300 := he298.size
               replace hf267 := hf267.ext he298
               replace hf268 := hf268.ext he298
               replace hf269 := hf269.ext he298
               replace hf270 := hf270.ext he298
               replace hc290 := hc290.ext he298
               refine wl_val ha299 rfl rfl rfl (op_move ha299 rfl rfl) ?_
               intro a301 ha301; clear ha299 a299
               refine wl_val ha301 rfl rfl rfl (op_extract ha301 rfl rfl rfl) ?_
               intro a302 ha302; clear ha301 a301
               refine wl_val ha302 rfl rfl rfl (op_extract ha302 rfl rfl rfl) ?_
               intro a303 ha303; clear ha302 a302
               refine wl_val ha303 rfl rfl rfl (op_assign ha303 rfl rfl) ?_
               intro a304 ha304; clear ha303 a303
               refine wl_val ha304 rfl rfl rfl (op_assign ha304 rfl rfl) ?_
               intro a305 ha305; clear ha304 a304
               refine wpList_nil ?_
               refine then_n ?_
               refine wp_seq ?_
               clear hc290
               refine wp_region_lit ?_
               refine wl_val ha305 rfl rfl rfl (op_move ha305 rfl rfl) ?_
               intro a306 ha306; clear ha305 a305
               refine wl_val ha306 rfl rfl rfl ((op_neq ha306 rfl rfl rfl).to (congrArg Value.bool decide_not)) ?_
               intro a307 ha307; clear ha306 a306
               refine wl_val ha307 rfl rfl rfl (op_move ha307 rfl rfl) ?_
               intro a308 ha308; clear ha307 a307
               by_cases c309 : (if dbB ((q14)) && wordB x286 then 0 else 1 : Int) = (0 : Int)
               ·
                rw [decide_eq_true c309] at ha308
                refine wl_val ha308 rfl rfl rfl (op_move ha308 rfl rfl) ?_
                intro a310 ha310; clear ha308 a308
                refine wl_val ha310 rfl rfl rfl (op_move ha310 rfl rfl) ?_
                intro a311 ha311; clear ha310 a310
                refine wl_val ha311 rfl rfl rfl (op_move ha311 rfl rfl) ?_
                intro a312 ha312; clear ha311 a311
                obtain ⟨x313, hx313⟩ := get_ex (xs := (if dbB ((q14)) then dbtC ((q14)) else [])) (j := i) (by omega)
                obtain ⟨p314, c315, hi316, hc317, hr318, hs319⟩ := Rds.at_ (hf270.rds pos_shI64) hx313
                obtain ⟨rfl, b320⟩ := inv_shI64 hr318
                obtain ⟨_, _⟩ : _ ∧ _ := hs319
                have hdc := dbt_c hw0 hx286 hx313
                refine wl_val ha312 rfl rfl rfl (op_indexAddr ha312 rfl Try.underlying45 ti2 rfl rfl (by omega) hi316) ?_
                intro a321 ha321; clear ha312 a312
                refine wl_val ha321 rfl rfl rfl (op_loadH ha321 rfl Try.underlying2 rfl rfl hc317 rfl) ?_
                intro a322 ha322; clear ha321 a321
                refine wl_val ha322 rfl rfl rfl ((op_neq ha322 rfl rfl rfl).to (congrArg Value.bool decide_not)) ?_
                intro a323 ha323; clear ha322 a322
                refine wl_val ha323 rfl rfl rfl (op_pick_f ha323 rfl rfl rfl) ?_
                intro a324 ha324; clear ha323 a323
                refine wl_val ha324 rfl rfl rfl (op_move ha324 rfl rfl) ?_
                intro a325 ha325; clear ha324 a324
                by_cases c326 : (if dbB ((q14)) && wordB x286 then owS x286 ((q14)) else 0 : Int) = x313
                ·
                 rw [decide_eq_true c326] at ha325
                 refine wl_val ha325 rfl rfl rfl (op_move ha325 rfl rfl) ?_
                 intro a327 ha327; clear ha325 a325
                 refine wl_val ha327 rfl rfl rfl (op_lss ha327 rfl rfl rfl) ?_
                 intro a328 ha328; clear ha327 a327
                 refine wl_val ha328 rfl rfl rfl (op_pick_f ha328 rfl rfl rfl) ?_
                 intro a329 ha329; clear ha328 a328
                 refine wpList_nil ?_
                 refine then_n ?_
                 by_cases c330 : (if dbB ((q14)) && wordB x286 then owS x286 ((q14)) else 0 : Int) < (1 : Int)
                 ·
                  rw [decide_eq_true c330] at ha329
                  refine cond_t ha329 rfl ?_
                  refine wp_seq ?_
                  clear hf267 hf268 hf269 hf270 hc317
                  refine wp_region_lit ?_
                  refine wl_val ha329 rfl rfl rfl (op_assign ha329 rfl rfl) ?_
                  intro a331 ha331; clear ha329 a329
                  refine wpList_nil ?_
                  refine then_n ?_
                  refine wp_ret ?_
                  refine block_r ?_
                  refine then_r ?_
                  refine then_r ?_
                  refine block_r ?_
                  refine then_r ?_
                  refine ret1 ha331 rfl rfl ?_
                  clear ha331 a331
                  exact ret_mk hx300 (congrArg Value.bool (by first | rfl | (simp at c8; done) | (rw [hwv] at *; omega) | (rw [hcv] at *; omega) | (rw [hp1]; done) | (simp [hp1]; done) | (exact absurd hcc c8) | (exact absurd (hcv.trans hdc) c8) | (exact absurd (if_pos hp1) c8) | (exact absurd hp3 c8) | omega))
                 ·
                  rw [decide_eq_false c330] at ha329
                  refine cond_f ha329 rfl ?_
                  refine wp_skip ?_
                  refine block_n ?_
                  refine then_n ?_
                  clear hc317
                  refine wp_region_lit ?_
                  refine wl_val ha329 rfl rfl rfl (op_move ha329 rfl rfl) ?_
                  intro a332 ha332; clear ha329 a329
                  refine wl_val ha332 rfl rfl rfl ((op_add ha332 rfl rfl rfl).int (IntWalk.i64_in _ (by omega))) ?_
                  intro a333 ha333; clear ha332 a332
                  refine wl_val ha333 rfl rfl rfl (op_assign ha333 rfl rfl) ?_
                  intro a334 ha334; clear ha333 a333
                  refine wpList_nil ?_
                  refine round_end (x := i) ((i + 1)) ?_ ?_
                  ·
                   refine ⟨(Sl.cons_ ha334 rfl rfl (Sl.cons_ ha334 rfl rfl (Sl.cons_ ha334 rfl rfl (Sl.cons_ ha334 rfl rfl (Sl.cons_ ha334 rfl rfl (Sl.cons_ ha334 rfl rfl (Sl.cons_ ha334 rfl (int_eq (by omega)) (Sl.nil_ ha334)))))))), hx300, hf267, hf268, hf269, hf270, (by omega), (by omega), (by exact hdl), (by exact hD)⟩
                  ·show ((if dbB ((q14)) then dbtN ((q14)) else []).length - ((i + 1)) : Nat) < (if dbB ((q14)) then dbtN ((q14)) else []).length - i; omega
                ·
                 rw [decide_eq_false c326] at ha325
                 refine wl_skip ha325 rfl rfl rfl ?_
                 intro a335 ha335; clear ha325 a325
                 refine wl_skip ha335 rfl rfl rfl ?_
                 intro a336 ha336; clear ha335 a335
                 refine wl_val ha336 rfl rfl rfl (op_pick_t ha336 rfl rfl rfl) ?_
                 intro a337 ha337; clear ha336 a336
                 refine wpList_nil ?_
                 refine then_n ?_
                 refine cond_t ha337 rfl ?_
                 refine wp_seq ?_
                 clear hf267 hf268 hf269 hf270 hc317
                 refine wp_region_lit ?_
                 refine wl_val ha337 rfl rfl rfl (op_assign ha337 rfl rfl) ?_
                 intro a338 ha338; clear ha337 a337
                 refine wpList_nil ?_
                 refine then_n ?_
                 refine wp_ret ?_
                 refine block_r ?_
                 refine then_r ?_
                 refine then_r ?_
                 refine block_r ?_
                 refine then_r ?_
                 refine ret1 ha338 rfl rfl ?_
                 clear ha338 a338
                 exact ret_mk hx300 (congrArg Value.bool (by first | rfl | (exact absurd rfl c326) | (simp at c8; done) | (rw [hwv] at *; omega) | (rw [hcv] at *; omega) | (rw [hp1]; done) | (simp [hp1]; done) | (exact absurd hcc c326) | (exact absurd (hcv.trans hdc) c326) | (exact absurd (if_pos hp1) c326) | (exact absurd hp3 c326) | (exact absurd hcc c8) | (exact absurd (hcv.trans hdc) c8) | (exact absurd (if_pos hp1) c8) | (exact absurd hp3 c8) | omega))
               ·
                rw [decide_eq_false c309] at ha308
                refine wl_skip ha308 rfl rfl rfl ?_
                intro a339 ha339; clear ha308 a308
                refine wl_skip ha339 rfl rfl rfl ?_
                intro a340 ha340; clear ha339 a339
                refine wl_skip ha340 rfl rfl rfl ?_
                intro a341 ha341; clear ha340 a340
                refine wl_skip ha341 rfl rfl rfl ?_
                intro a342 ha342; clear ha341 a341
                refine wl_skip ha342 rfl rfl rfl ?_
                intro a343 ha343; clear ha342 a342
                refine wl_skip ha343 rfl rfl rfl ?_
                intro a344 ha344; clear ha343 a343
                refine wl_val ha344 rfl rfl rfl (op_pick_t ha344 rfl rfl rfl) ?_
                intro a345 ha345; clear ha344 a344
                refine wl_val ha345 rfl rfl rfl (op_move ha345 rfl rfl) ?_
                intro a346 ha346; clear ha345 a345
                refine wl_skip ha346 rfl rfl rfl ?_
                intro a347 ha347; clear ha346 a346
                refine wl_skip ha347 rfl rfl rfl ?_
                intro a348 ha348; clear ha347 a347
                refine wl_val ha348 rfl rfl rfl (op_pick_t ha348 rfl rfl rfl) ?_
                intro a349 ha349; clear ha348 a348
                refine wpList_nil ?_
                refine then_n ?_
                refine cond_t ha349 rfl ?_
                refine wp_seq ?_
                clear hf267 hf268 hf269 hf270
                refine wp_region_lit ?_
                refine wl_val ha349 rfl rfl rfl (op_assign ha349 rfl rfl) ?_
                intro a350 ha350; clear ha349 a349
                refine wpList_nil ?_
                refine then_n ?_
                refine wp_ret ?_
                refine block_r ?_
                refine then_r ?_
                refine then_r ?_
                refine block_r ?_
                refine then_r ?_
                refine ret1 ha350 rfl rfl ?_
                clear ha350 a350
                exact ret_mk hx300 (congrArg Value.bool (by first | rfl | (exact absurd rfl c309) | (simp at c8; done) | (rw [hwv] at *; omega) | (rw [hcv] at *; omega) | (rw [hp1]; done) | (simp [hp1]; done) | (exact absurd hcc c309) | (exact absurd (hcv.trans hdc) c309) | (exact absurd (if_pos hp1) c309) | (exact absurd hp3 c309) | (exact absurd hcc c8) | (exact absurd (hcv.trans hdc) c8) | (exact absurd (if_pos hp1) c8) | (exact absurd hp3 c8) | omega))
              ·
               rw [decide_eq_false c282] at ha281
               refine cond_f ha281 rfl ?_
               refine wp_exit ?_
               refine then_e ?_
               refine then_e ?_
               refine block_hit ?_
               refine then_n ?_
               refine wp_seq ?_
               refine wp_seq ?_
               clear hf270
               refine wp_region_lit ?_
               refine wl_val ha281 rfl rfl rfl (op_move ha281 rfl rfl) ?_
               intro a351 ha351; clear ha281 a281
               refine wl_val ha351 rfl rfl rfl ((op_neq ha351 rfl rfl rfl).to (congrArg Value.bool decide_not)) ?_
               intro a352 ha352; clear ha351 a351
               refine wpList_nil ?_
               refine then_n ?_
               by_cases c353 : (payC ((q14)) (q15 : Int) : Int) = (0 : Int)
               ·
                rw [decide_eq_true c353] at ha352
                obtain ⟨hp1, hp2, hp3, hp4⟩ := pay_all c353
                refine cond_f ha352 rfl ?_
                refine wp_skip ?_
                refine then_n ?_
                refine wp_seq ?_
                refine wp_region_lit ?_
                refine wl_val ha352 rfl rfl rfl (op_move ha352 rfl rfl) ?_
                intro a354 ha354; clear ha352 a352
                refine wl_callR ha354 rfl rfl rfl (op_call ha354 rfl cb44 rfl) (c_impl_Debtors _ v32 ((payL ((q14)) (q15 : Int))) (hf268.rds pos_shEnt) (by first | assumption | omega | (simp; done) | (simp; omega))) ?_
                rintro v355 w356 he357 ⟨v358, v360, rfl, ho359, ho361⟩ a362 ha362; clear ha354 a354
                have hx363 := hx266.trans' he357
                have hzhx363 := he357.size
                replace hf267 := hf267.ext he357
                replace hf268 := hf268.ext he357
                replace hf269 := hf269.ext he357
                refine wl_val ha362 rfl rfl rfl (op_move ha362 rfl rfl) ?_
                intro a364 ha364; clear ha362 a362
                refine wl_val ha364 rfl rfl rfl (op_extract ha364 rfl rfl rfl) ?_
                intro a365 ha365; clear ha364 a364
                refine wl_val ha365 rfl rfl rfl (op_extract ha365 rfl rfl rfl) ?_
                intro a366 ha366; clear ha365 a365
                refine wl_val ha366 rfl rfl rfl (op_extract ha366 rfl rfl rfl) ?_
                intro a367 ha367; clear ha366 a366
                refine wl_val ha367 rfl rfl rfl (op_assign ha367 rfl rfl) ?_
                intro a368 ha368; clear ha367 a367
                refine wl_val ha368 rfl rfl rfl (op_assign ha368 rfl rfl) ?_
                intro a369 ha369; clear ha368 a368
                refine wl_val ha369 rfl rfl rfl (op_assign ha369 rfl rfl) ?_
                intro a370 ha370; clear ha369 a369
                refine wpList_nil ?_
                refine then_n ?_
                refine wp_seq ?_
                clear ho361
                refine wp_region_lit ?_
                refine wl_val ha370 rfl rfl rfl (op_move ha370 rfl rfl) ?_
                intro a371 ha371; clear ha370 a370
                refine wl_val ha371 rfl rfl rfl (op_eql ha371 rfl rfl rfl) ?_
                intro a372 ha372; clear ha371 a371
                refine wl_val ha372 rfl rfl rfl (op_move ha372 rfl rfl) ?_
                intro a373 ha373; clear ha372 a372
                by_cases c374 : (if dbB ((payL ((q14)) (q15 : Int))) then 0 else 1 : Int) = (0 : Int)
                ·
                 rw [decide_eq_true c374] at ha373
                 refine wl_val ha373 rfl rfl rfl (op_move ha373 rfl rfl) ?_
                 intro a375 ha375; clear ha373 a373
                 refine wl_val ha375 rfl rfl rfl (op_len_sl ha375 rfl Try.underlying52 rfl (ho359.rds pos_shStr)) ?_
                 intro a376 ha376; clear ha375 a375
                 refine wl_val ha376 rfl rfl rfl (op_eql ha376 rfl rfl rfl) ?_
                 intro a377 ha377; clear ha376 a376
                 refine wl_val ha377 rfl rfl rfl (op_pick_t ha377 rfl rfl rfl) ?_
                 intro a378 ha378; clear ha377 a377
                 refine wl_val ha378 rfl rfl rfl (op_move ha378 rfl rfl) ?_
                 intro a379 ha379; clear ha378 a378
                 by_cases c380 : ((((if dbB ((payL ((q14)) (q15 : Int))) then dbtN ((payL ((q14)) (q15 : Int))) else [])).length : Nat) : Int) = (0 : Int)
                 ·
                  rw [decide_eq_true c380] at ha379
                  refine wl_val ha379 rfl rfl rfl (op_move ha379 rfl rfl) ?_
                  intro a381 ha381; clear ha379 a379
                  refine wl_val ha381 rfl rfl rfl (op_len_sl ha381 rfl Try.underlying25 rfl (hf268.rds pos_shEnt)) ?_
                  intro a382 ha382; clear ha381 a381
                  refine wl_val ha382 rfl rfl rfl (op_move ha382 rfl rfl) ?_
                  intro a383 ha383; clear ha382 a382
                  refine wl_val ha383 rfl rfl rfl (op_len_sl ha383 rfl Try.underlying25 rfl (hf267.rds pos_shEnt)) ?_
                  intro a384 ha384; clear ha383 a383
                  refine wl_val ha384 rfl rfl rfl (op_move ha384 rfl rfl) ?_
                  intro a385 ha385; clear ha384 a384
                  refine wl_val ha385 rfl rfl rfl (op_len_sl ha385 rfl Try.underlying52 rfl (hf269.rds pos_shStr)) ?_
                  intro a386 ha386; clear ha385 a385
                  refine wl_val ha386 rfl rfl rfl ((op_add ha386 rfl rfl rfl).int (IntWalk.i64_in _ (by omega))) ?_
                  intro a387 ha387; clear ha386 a386
                  refine wl_val ha387 rfl rfl rfl (op_eql ha387 rfl rfl rfl) ?_
                  intro a388 ha388; clear ha387 a387
                  refine wl_val ha388 rfl rfl rfl (op_pick_t ha388 rfl rfl rfl) ?_
                  intro a389 ha389; clear ha388 a388
                  refine wl_val ha389 rfl rfl rfl (op_move ha389 rfl rfl) ?_
                  intro a390 ha390; clear ha389 a389
                  by_cases c391 : ((((payL ((q14)) (q15 : Int))).length : Nat) : Int) = (((((q14)).length : Nat) : Int) + ((((if dbB ((q14)) then dbtN ((q14)) else [])).length : Nat) : Int))
                  ·
                   rw [decide_eq_true c391] at ha390
                   refine wl_val ha390 rfl rfl rfl (op_move ha390 rfl rfl) ?_
                   intro a392 ha392; clear ha390 a390
                   refine wl_callR ha392 rfl rfl rfl (op_call ha392 rfl cb18 rfl) (c_impl_IsDayBook _ v32 ((payL ((q14)) (q15 : Int))) (hf268.rds pos_shEnt) (by first | assumption | omega | (simp; done) | (simp; omega))) ?_
                   rintro v393 w394 he395 rfl a396 ha396; clear ha392 a392
                   have hx397 := hx363.trans' he395
                   have hzhx397 := he395.size
                   replace hf267 := hf267.ext he395
                   replace hf268 := hf268.ext he395
                   replace hf269 := hf269.ext he395
                   replace ho359 := ho359.ext he395
                   refine wl_val ha396 rfl rfl rfl (op_pick_t ha396 rfl rfl rfl) ?_
                   intro a398 ha398; clear ha396 a396
                   refine wl_val ha398 rfl rfl rfl (op_assign ha398 rfl rfl) ?_
                   intro a399 ha399; clear ha398 a398
                   refine wpList_nil ?_
                   refine then_n ?_
                   refine wp_ret ?_
                   refine ret1 ha399 rfl rfl ?_
                   clear ha399 a399
                   exact ret_mk hx397 (congrArg Value.bool (by first | rfl | (simp at c8; done) | (rw [hwv] at *; omega) | (rw [hcv] at *; omega) | (rw [hp1]; done) | (simp [hp1]; done) | (exact absurd hcc c282) | (exact absurd (hcv.trans hdc) c282) | (exact absurd (if_pos hp1) c282) | (exact absurd hp3 c282) | (exact absurd hcc c8) | (exact absurd (hcv.trans hdc) c8) | (exact absurd (if_pos hp1) c8) | (exact absurd hp3 c8) | omega))
                  ·
                   rw [decide_eq_false c391] at ha390
                   refine wl_skip ha390 rfl rfl rfl ?_
                   intro a400 ha400; clear ha390 a390
                   refine wl_skip ha400 rfl rfl rfl ?_
                   intro a401 ha401; clear ha400 a400
                   refine wl_val ha401 rfl rfl rfl (op_pick_f ha401 rfl rfl rfl) ?_
                   intro a402 ha402; clear ha401 a401
                   refine wl_val ha402 rfl rfl rfl (op_assign ha402 rfl rfl) ?_
                   intro a403 ha403; clear ha402 a402
                   refine wpList_nil ?_
                   refine then_n ?_
                   refine wp_ret ?_
                   refine ret1 ha403 rfl rfl ?_
                   clear ha403 a403
                   exact ret_mk hx363 (congrArg Value.bool (by first | rfl | (exact absurd rfl c391) | (simp at c8; done) | (rw [hwv] at *; omega) | (rw [hcv] at *; omega) | (rw [hp1]; done) | (simp [hp1]; done) | (exact absurd hcc c391) | (exact absurd (hcv.trans hdc) c391) | (exact absurd (if_pos hp1) c391) | (exact absurd hp3 c391) | (exact absurd hcc c282) | (exact absurd (hcv.trans hdc) c282) | (exact absurd (if_pos hp1) c282) | (exact absurd hp3 c282) | (exact absurd hcc c8) | (exact absurd (hcv.trans hdc) c8) | (exact absurd (if_pos hp1) c8) | (exact absurd hp3 c8) | omega))
                 ·
                  rw [decide_eq_false c380] at ha379
                  refine wl_skip ha379 rfl rfl rfl ?_
                  intro a404 ha404; clear ha379 a379
                  refine wl_skip ha404 rfl rfl rfl ?_
                  intro a405 ha405; clear ha404 a404
                  refine wl_skip ha405 rfl rfl rfl ?_
                  intro a406 ha406; clear ha405 a405
                  refine wl_skip ha406 rfl rfl rfl ?_
                  intro a407 ha407; clear ha406 a406
                  refine wl_skip ha407 rfl rfl rfl ?_
                  intro a408 ha408; clear ha407 a407
                  refine wl_skip ha408 rfl rfl rfl ?_
                  intro a409 ha409; clear ha408 a408
                  refine wl_skip ha409 rfl rfl rfl ?_
                  intro a410 ha410; clear ha409 a409
                  refine wl_skip ha410 rfl rfl rfl ?_
                  intro a411 ha411; clear ha410 a410
                  refine wl_val ha411 rfl rfl rfl (op_pick_f ha411 rfl rfl rfl) ?_
                  intro a412 ha412; clear ha411 a411
                  refine wl_val ha412 rfl rfl rfl (op_move ha412 rfl rfl) ?_
                  intro a413 ha413; clear ha412 a412
                  refine wl_skip ha413 rfl rfl rfl ?_
                  intro a414 ha414; clear ha413 a413
                  refine wl_skip ha414 rfl rfl rfl ?_
                  intro a415 ha415; clear ha414 a414
                  refine wl_val ha415 rfl rfl rfl (op_pick_f ha415 rfl rfl rfl) ?_
                  intro a416 ha416; clear ha415 a415
                  refine wl_val ha416 rfl rfl rfl (op_assign ha416 rfl rfl) ?_
                  intro a417 ha417; clear ha416 a416
                  refine wpList_nil ?_
                  refine then_n ?_
                  refine wp_ret ?_
                  refine ret1 ha417 rfl rfl ?_
                  clear ha417 a417
                  exact ret_mk hx363 (congrArg Value.bool (by first | rfl | (exact absurd rfl c380) | (simp at c8; done) | (rw [hwv] at *; omega) | (rw [hcv] at *; omega) | (rw [hp1]; done) | (simp [hp1]; done) | (exact absurd hcc c380) | (exact absurd (hcv.trans hdc) c380) | (exact absurd (if_pos hp1) c380) | (exact absurd hp3 c380) | (exact absurd hcc c282) | (exact absurd (hcv.trans hdc) c282) | (exact absurd (if_pos hp1) c282) | (exact absurd hp3 c282) | (exact absurd hcc c8) | (exact absurd (hcv.trans hdc) c8) | (exact absurd (if_pos hp1) c8) | (exact absurd hp3 c8) | omega))
                ·
                 rw [decide_eq_false c374] at ha373
                 refine wl_skip ha373 rfl rfl rfl ?_
                 intro a418 ha418; clear ha373 a373
                 refine wl_skip ha418 rfl rfl rfl ?_
                 intro a419 ha419; clear ha418 a418
                 refine wl_skip ha419 rfl rfl rfl ?_
                 intro a420 ha420; clear ha419 a419
                 refine wl_val ha420 rfl rfl rfl (op_pick_f ha420 rfl rfl rfl) ?_
                 intro a421 ha421; clear ha420 a420
                 refine wl_val ha421 rfl rfl rfl (op_move ha421 rfl rfl) ?_
                 intro a422 ha422; clear ha421 a421
                 refine wl_skip ha422 rfl rfl rfl ?_
                 intro a423 ha423; clear ha422 a422
                 refine wl_skip ha423 rfl rfl rfl ?_
                 intro a424 ha424; clear ha423 a423
                 refine wl_skip ha424 rfl rfl rfl ?_
                 intro a425 ha425; clear ha424 a424
                 refine wl_skip ha425 rfl rfl rfl ?_
                 intro a426 ha426; clear ha425 a425
                 refine wl_skip ha426 rfl rfl rfl ?_
                 intro a427 ha427; clear ha426 a426
                 refine wl_skip ha427 rfl rfl rfl ?_
                 intro a428 ha428; clear ha427 a427
                 refine wl_skip ha428 rfl rfl rfl ?_
                 intro a429 ha429; clear ha428 a428
                 refine wl_skip ha429 rfl rfl rfl ?_
                 intro a430 ha430; clear ha429 a429
                 refine wl_val ha430 rfl rfl rfl (op_pick_f ha430 rfl rfl rfl) ?_
                 intro a431 ha431; clear ha430 a430
                 refine wl_val ha431 rfl rfl rfl (op_move ha431 rfl rfl) ?_
                 intro a432 ha432; clear ha431 a431
                 refine wl_skip ha432 rfl rfl rfl ?_
                 intro a433 ha433; clear ha432 a432
                 refine wl_skip ha433 rfl rfl rfl ?_
                 intro a434 ha434; clear ha433 a433
                 refine wl_val ha434 rfl rfl rfl (op_pick_f ha434 rfl rfl rfl) ?_
                 intro a435 ha435; clear ha434 a434
                 refine wl_val ha435 rfl rfl rfl (op_assign ha435 rfl rfl) ?_
                 intro a436 ha436; clear ha435 a435
                 refine wpList_nil ?_
                 refine then_n ?_
                 refine wp_ret ?_
                 refine ret1 ha436 rfl rfl ?_
                 clear ha436 a436
                 exact ret_mk hx363 (congrArg Value.bool (by first | rfl | (exact absurd rfl c374) | (simp at c8; done) | (rw [hwv] at *; omega) | (rw [hcv] at *; omega) | (rw [hp1]; done) | (simp [hp1]; done) | (exact absurd hcc c374) | (exact absurd (hcv.trans hdc) c374) | (exact absurd (if_pos hp1) c374) | (exact absurd hp3 c374) | (exact absurd hcc c282) | (exact absurd (hcv.trans hdc) c282) | (exact absurd (if_pos hp1) c282) | (exact absurd hp3 c282) | (exact absurd hcc c8) | (exact absurd (hcv.trans hdc) c8) | (exact absurd (if_pos hp1) c8) | (exact absurd hp3 c8) | omega))
               ·
                rw [decide_eq_false c353] at ha352
                refine cond_t ha352 rfl ?_
                refine wp_seq ?_
                clear hf267 hf268 hf269
                refine wp_region_lit ?_
                refine wl_val ha352 rfl rfl rfl (op_assign ha352 rfl rfl) ?_
                intro a437 ha437; clear ha352 a352
                refine wpList_nil ?_
                refine then_n ?_
                refine wp_ret ?_
                refine then_r ?_
                refine ret1 ha437 rfl rfl ?_
                clear ha437 a437
                exact ret_mk hx266 (congrArg Value.bool (by first | rfl | (exact absurd rfl c353) | (simp at c8; done) | (rw [hwv] at *; omega) | (rw [hcv] at *; omega) | (rw [hp1]; done) | (simp [hp1]; done) | (exact absurd hcc c353) | (exact absurd (hcv.trans hdc) c353) | (exact absurd (if_pos hp1) c353) | (exact absurd hp3 c353) | (exact absurd hcc c282) | (exact absurd (hcv.trans hdc) c282) | (exact absurd (if_pos hp1) c282) | (exact absurd hp3 c282) | (exact absurd hcc c8) | (exact absurd (hcv.trans hdc) c8) | (exact absurd (if_pos hp1) c8) | (exact absurd hp3 c8) | omega))
             ·
              rw [decide_eq_false c276] at ha275
              refine wl_skip ha275 rfl rfl rfl ?_
              intro a438 ha438; clear ha275 a275
              refine wl_skip ha438 rfl rfl rfl ?_
              intro a439 ha439; clear ha438 a438
              refine wl_skip ha439 rfl rfl rfl ?_
              intro a440 ha440; clear ha439 a439
              refine wl_skip ha440 rfl rfl rfl ?_
              intro a441 ha441; clear ha440 a440
              refine wl_val ha441 rfl rfl rfl (op_pick_f ha441 rfl rfl rfl) ?_
              intro a442 ha442; clear ha441 a441
              refine wpList_nil ?_
              refine then_n ?_
              refine cond_f ha442 rfl ?_
              refine wp_exit ?_
              refine then_e ?_
              refine then_e ?_
              refine block_hit ?_
              refine then_n ?_
              refine wp_seq ?_
              refine wp_seq ?_
              clear hf270
              refine wp_region_lit ?_
              refine wl_val ha442 rfl rfl rfl (op_move ha442 rfl rfl) ?_
              intro a443 ha443; clear ha442 a442
              refine wl_val ha443 rfl rfl rfl ((op_neq ha443 rfl rfl rfl).to (congrArg Value.bool decide_not)) ?_
              intro a444 ha444; clear ha443 a443
              refine wpList_nil ?_
              refine then_n ?_
              by_cases c445 : (payC ((q14)) (q15 : Int) : Int) = (0 : Int)
              ·
               rw [decide_eq_true c445] at ha444
               obtain ⟨hp1, hp2, hp3, hp4⟩ := pay_all c445
               refine cond_f ha444 rfl ?_
               refine wp_skip ?_
               refine then_n ?_
               refine wp_seq ?_
               refine wp_region_lit ?_
               refine wl_val ha444 rfl rfl rfl (op_move ha444 rfl rfl) ?_
               intro a446 ha446; clear ha444 a444
               refine wl_callR ha446 rfl rfl rfl (op_call ha446 rfl cb44 rfl) (c_impl_Debtors _ v32 ((payL ((q14)) (q15 : Int))) (hf268.rds pos_shEnt) (by first | assumption | omega | (simp; done) | (simp; omega))) ?_
               rintro v447 w448 he449 ⟨v450, v452, rfl, ho451, ho453⟩ a454 ha454; clear ha446 a446
               have hx455 := hx266.trans' he449
               have hzhx455 := he449.size
               replace hf267 := hf267.ext he449
               replace hf268 := hf268.ext he449
               replace hf269 := hf269.ext he449
               refine wl_val ha454 rfl rfl rfl (op_move ha454 rfl rfl) ?_
               intro a456 ha456; clear ha454 a454
               refine wl_val ha456 rfl rfl rfl (op_extract ha456 rfl rfl rfl) ?_
               intro a457 ha457; clear ha456 a456
               refine wl_val ha457 rfl rfl rfl (op_extract ha457 rfl rfl rfl) ?_
               intro a458 ha458; clear ha457 a457
               refine wl_val ha458 rfl rfl rfl (op_extract ha458 rfl rfl rfl) ?_
               intro a459 ha459; clear ha458 a458
               refine wl_val ha459 rfl rfl rfl (op_assign ha459 rfl rfl) ?_
               intro a460 ha460; clear ha459 a459
               refine wl_val ha460 rfl rfl rfl (op_assign ha460 rfl rfl) ?_
               intro a461 ha461; clear ha460 a460
               refine wl_val ha461 rfl rfl rfl (op_assign ha461 rfl rfl) ?_
               intro a462 ha462; clear ha461 a461
               refine wpList_nil ?_
               refine then_n ?_
               refine wp_seq ?_
               clear ho453
               refine wp_region_lit ?_
               refine wl_val ha462 rfl rfl rfl (op_move ha462 rfl rfl) ?_
               intro a463 ha463; clear ha462 a462
               refine wl_val ha463 rfl rfl rfl (op_eql ha463 rfl rfl rfl) ?_
               intro a464 ha464; clear ha463 a463
               refine wl_val ha464 rfl rfl rfl (op_move ha464 rfl rfl) ?_
               intro a465 ha465; clear ha464 a464
               by_cases c466 : (if dbB ((payL ((q14)) (q15 : Int))) then 0 else 1 : Int) = (0 : Int)
               ·
                rw [decide_eq_true c466] at ha465
                refine wl_val ha465 rfl rfl rfl (op_move ha465 rfl rfl) ?_
                intro a467 ha467; clear ha465 a465
                refine wl_val ha467 rfl rfl rfl (op_len_sl ha467 rfl Try.underlying52 rfl (ho451.rds pos_shStr)) ?_
                intro a468 ha468; clear ha467 a467
                refine wl_val ha468 rfl rfl rfl (op_eql ha468 rfl rfl rfl) ?_
                intro a469 ha469; clear ha468 a468
                refine wl_val ha469 rfl rfl rfl (op_pick_t ha469 rfl rfl rfl) ?_
                intro a470 ha470; clear ha469 a469
                refine wl_val ha470 rfl rfl rfl (op_move ha470 rfl rfl) ?_
                intro a471 ha471; clear ha470 a470
                by_cases c472 : ((((if dbB ((payL ((q14)) (q15 : Int))) then dbtN ((payL ((q14)) (q15 : Int))) else [])).length : Nat) : Int) = (0 : Int)
                ·
                 rw [decide_eq_true c472] at ha471
                 refine wl_val ha471 rfl rfl rfl (op_move ha471 rfl rfl) ?_
                 intro a473 ha473; clear ha471 a471
                 refine wl_val ha473 rfl rfl rfl (op_len_sl ha473 rfl Try.underlying25 rfl (hf268.rds pos_shEnt)) ?_
                 intro a474 ha474; clear ha473 a473
                 refine wl_val ha474 rfl rfl rfl (op_move ha474 rfl rfl) ?_
                 intro a475 ha475; clear ha474 a474
                 refine wl_val ha475 rfl rfl rfl (op_len_sl ha475 rfl Try.underlying25 rfl (hf267.rds pos_shEnt)) ?_
                 intro a476 ha476; clear ha475 a475
                 refine wl_val ha476 rfl rfl rfl (op_move ha476 rfl rfl) ?_
                 intro a477 ha477; clear ha476 a476
                 refine wl_val ha477 rfl rfl rfl (op_len_sl ha477 rfl Try.underlying52 rfl (hf269.rds pos_shStr)) ?_
                 intro a478 ha478; clear ha477 a477
                 refine wl_val ha478 rfl rfl rfl ((op_add ha478 rfl rfl rfl).int (IntWalk.i64_in _ (by omega))) ?_
                 intro a479 ha479; clear ha478 a478
                 refine wl_val ha479 rfl rfl rfl (op_eql ha479 rfl rfl rfl) ?_
                 intro a480 ha480; clear ha479 a479
                 refine wl_val ha480 rfl rfl rfl (op_pick_t ha480 rfl rfl rfl) ?_
                 intro a481 ha481; clear ha480 a480
                 refine wl_val ha481 rfl rfl rfl (op_move ha481 rfl rfl) ?_
                 intro a482 ha482; clear ha481 a481
                 by_cases c483 : ((((payL ((q14)) (q15 : Int))).length : Nat) : Int) = (((((q14)).length : Nat) : Int) + ((((if dbB ((q14)) then dbtN ((q14)) else [])).length : Nat) : Int))
                 ·
                  rw [decide_eq_true c483] at ha482
                  refine wl_val ha482 rfl rfl rfl (op_move ha482 rfl rfl) ?_
                  intro a484 ha484; clear ha482 a482
                  refine wl_callR ha484 rfl rfl rfl (op_call ha484 rfl cb18 rfl) (c_impl_IsDayBook _ v32 ((payL ((q14)) (q15 : Int))) (hf268.rds pos_shEnt) (by first | assumption | omega | (simp; done) | (simp; omega))) ?_
                  rintro v485 w486 he487 rfl a488 ha488; clear ha484 a484
                  have hx489 := hx455.trans' he487
                  have hzhx489 := he487.size
                  replace hf267 := hf267.ext he487
                  replace hf268 := hf268.ext he487
                  replace hf269 := hf269.ext he487
                  replace ho451 := ho451.ext he487
                  refine wl_val ha488 rfl rfl rfl (op_pick_t ha488 rfl rfl rfl) ?_
                  intro a490 ha490; clear ha488 a488
                  refine wl_val ha490 rfl rfl rfl (op_assign ha490 rfl rfl) ?_
                  intro a491 ha491; clear ha490 a490
                  refine wpList_nil ?_
                  refine then_n ?_
                  refine wp_ret ?_
                  refine ret1 ha491 rfl rfl ?_
                  clear ha491 a491
                  exact ret_mk hx489 (congrArg Value.bool (by first | rfl | (exact absurd rfl c276) | (simp at c8; done) | (rw [hwv] at *; omega) | (rw [hcv] at *; omega) | (rw [hp1]; done) | (simp [hp1]; done) | (exact absurd hcc c276) | (exact absurd (hcv.trans hdc) c276) | (exact absurd (if_pos hp1) c276) | (exact absurd hp3 c276) | (exact absurd hcc c8) | (exact absurd (hcv.trans hdc) c8) | (exact absurd (if_pos hp1) c8) | (exact absurd hp3 c8) | omega))
                 ·
                  rw [decide_eq_false c483] at ha482
                  refine wl_skip ha482 rfl rfl rfl ?_
                  intro a492 ha492; clear ha482 a482
                  refine wl_skip ha492 rfl rfl rfl ?_
                  intro a493 ha493; clear ha492 a492
                  refine wl_val ha493 rfl rfl rfl (op_pick_f ha493 rfl rfl rfl) ?_
                  intro a494 ha494; clear ha493 a493
                  refine wl_val ha494 rfl rfl rfl (op_assign ha494 rfl rfl) ?_
                  intro a495 ha495; clear ha494 a494
                  refine wpList_nil ?_
                  refine then_n ?_
                  refine wp_ret ?_
                  refine ret1 ha495 rfl rfl ?_
                  clear ha495 a495
                  exact ret_mk hx455 (congrArg Value.bool (by first | rfl | (exact absurd rfl c483) | (exact absurd rfl c276) | (simp at c8; done) | (rw [hwv] at *; omega) | (rw [hcv] at *; omega) | (rw [hp1]; done) | (simp [hp1]; done) | (exact absurd hcc c483) | (exact absurd (hcv.trans hdc) c483) | (exact absurd (if_pos hp1) c483) | (exact absurd hp3 c483) | (exact absurd hcc c276) | (exact absurd (hcv.trans hdc) c276) | (exact absurd (if_pos hp1) c276) | (exact absurd hp3 c276) | (exact absurd hcc c8) | (exact absurd (hcv.trans hdc) c8) | (exact absurd (if_pos hp1) c8) | (exact absurd hp3 c8) | omega))
                ·
                 rw [decide_eq_false c472] at ha471
                 refine wl_skip ha471 rfl rfl rfl ?_
                 intro a496 ha496; clear ha471 a471
                 refine wl_skip ha496 rfl rfl rfl ?_
                 intro a497 ha497; clear ha496 a496
                 refine wl_skip ha497 rfl rfl rfl ?_
                 intro a498 ha498; clear ha497 a497
                 refine wl_skip ha498 rfl rfl rfl ?_
                 intro a499 ha499; clear ha498 a498
                 refine wl_skip ha499 rfl rfl rfl ?_
                 intro a500 ha500; clear ha499 a499
                 refine wl_skip ha500 rfl rfl rfl ?_
                 intro a501 ha501; clear ha500 a500
                 refine wl_skip ha501 rfl rfl rfl ?_
                 intro a502 ha502; clear ha501 a501
                 refine wl_skip ha502 rfl rfl rfl ?_
                 intro a503 ha503; clear ha502 a502
                 refine wl_val ha503 rfl rfl rfl (op_pick_f ha503 rfl rfl rfl) ?_
                 intro a504 ha504; clear ha503 a503
                 refine wl_val ha504 rfl rfl rfl (op_move ha504 rfl rfl) ?_
                 intro a505 ha505; clear ha504 a504
                 refine wl_skip ha505 rfl rfl rfl ?_
                 intro a506 ha506; clear ha505 a505
                 refine wl_skip ha506 rfl rfl rfl ?_
                 intro a507 ha507; clear ha506 a506
                 refine wl_val ha507 rfl rfl rfl (op_pick_f ha507 rfl rfl rfl) ?_
                 intro a508 ha508; clear ha507 a507
                 refine wl_val ha508 rfl rfl rfl (op_assign ha508 rfl rfl) ?_
                 intro a509 ha509; clear ha508 a508
                 refine wpList_nil ?_
                 refine then_n ?_
                 refine wp_ret ?_
                 refine ret1 ha509 rfl rfl ?_
                 clear ha509 a509
                 exact ret_mk hx455 (congrArg Value.bool (by first | rfl | (exact absurd rfl c472) | (exact absurd rfl c276) | (simp at c8; done) | (rw [hwv] at *; omega) | (rw [hcv] at *; omega) | (rw [hp1]; done) | (simp [hp1]; done) | (exact absurd hcc c472) | (exact absurd (hcv.trans hdc) c472) | (exact absurd (if_pos hp1) c472) | (exact absurd hp3 c472) | (exact absurd hcc c276) | (exact absurd (hcv.trans hdc) c276) | (exact absurd (if_pos hp1) c276) | (exact absurd hp3 c276) | (exact absurd hcc c8) | (exact absurd (hcv.trans hdc) c8) | (exact absurd (if_pos hp1) c8) | (exact absurd hp3 c8) | omega))
               ·
                rw [decide_eq_false c466] at ha465
                refine wl_skip ha465 rfl rfl rfl ?_
                intro a510 ha510; clear ha465 a465
                refine wl_skip ha510 rfl rfl rfl ?_
                intro a511 ha511; clear ha510 a510
                refine wl_skip ha511 rfl rfl rfl ?_
                intro a512 ha512; clear ha511 a511
                refine wl_val ha512 rfl rfl rfl (op_pick_f ha512 rfl rfl rfl) ?_
                intro a513 ha513; clear ha512 a512
                refine wl_val ha513 rfl rfl rfl (op_move ha513 rfl rfl) ?_
                intro a514 ha514; clear ha513 a513
                refine wl_skip ha514 rfl rfl rfl ?_
                intro a515 ha515; clear ha514 a514
                refine wl_skip ha515 rfl rfl rfl ?_
                intro a516 ha516; clear ha515 a515
                refine wl_skip ha516 rfl rfl rfl ?_
                intro a517 ha517; clear ha516 a516
                refine wl_skip ha517 rfl rfl rfl ?_
                intro a518 ha518; clear ha517 a517
                refine wl_skip ha518 rfl rfl rfl ?_
                intro a519 ha519; clear ha518 a518
                refine wl_skip ha519 rfl rfl rfl ?_
                intro a520 ha520; clear ha519 a519
                refine wl_skip ha520 rfl rfl rfl ?_
                intro a521 ha521; clear ha520 a520
                refine wl_skip ha521 rfl rfl rfl ?_
                intro a522 ha522; clear ha521 a521
                refine wl_val ha522 rfl rfl rfl (op_pick_f ha522 rfl rfl rfl) ?_
                intro a523 ha523; clear ha522 a522
                refine wl_val ha523 rfl rfl rfl (op_move ha523 rfl rfl) ?_
                intro a524 ha524; clear ha523 a523
                refine wl_skip ha524 rfl rfl rfl ?_
                intro a525 ha525; clear ha524 a524
                refine wl_skip ha525 rfl rfl rfl ?_
                intro a526 ha526; clear ha525 a525
                refine wl_val ha526 rfl rfl rfl (op_pick_f ha526 rfl rfl rfl) ?_
                intro a527 ha527; clear ha526 a526
                refine wl_val ha527 rfl rfl rfl (op_assign ha527 rfl rfl) ?_
                intro a528 ha528; clear ha527 a527
                refine wpList_nil ?_
                refine then_n ?_
                refine wp_ret ?_
                refine ret1 ha528 rfl rfl ?_
                clear ha528 a528
                exact ret_mk hx455 (congrArg Value.bool (by first | rfl | (exact absurd rfl c466) | (exact absurd rfl c276) | (simp at c8; done) | (rw [hwv] at *; omega) | (rw [hcv] at *; omega) | (rw [hp1]; done) | (simp [hp1]; done) | (exact absurd hcc c466) | (exact absurd (hcv.trans hdc) c466) | (exact absurd (if_pos hp1) c466) | (exact absurd hp3 c466) | (exact absurd hcc c276) | (exact absurd (hcv.trans hdc) c276) | (exact absurd (if_pos hp1) c276) | (exact absurd hp3 c276) | (exact absurd hcc c8) | (exact absurd (hcv.trans hdc) c8) | (exact absurd (if_pos hp1) c8) | (exact absurd hp3 c8) | omega))
              ·
               rw [decide_eq_false c445] at ha444
               refine cond_t ha444 rfl ?_
               refine wp_seq ?_
               clear hf267 hf268 hf269
               refine wp_region_lit ?_
               refine wl_val ha444 rfl rfl rfl (op_assign ha444 rfl rfl) ?_
               intro a529 ha529; clear ha444 a444
               refine wpList_nil ?_
               refine then_n ?_
               refine wp_ret ?_
               refine then_r ?_
               refine ret1 ha529 rfl rfl ?_
               clear ha529 a529
               exact ret_mk hx266 (congrArg Value.bool (by first | rfl | (exact absurd rfl c445) | (exact absurd rfl c276) | (simp at c8; done) | (rw [hwv] at *; omega) | (rw [hcv] at *; omega) | (rw [hp1]; done) | (simp [hp1]; done) | (exact absurd hcc c445) | (exact absurd (hcv.trans hdc) c445) | (exact absurd (if_pos hp1) c445) | (exact absurd hp3 c445) | (exact absurd hcc c276) | (exact absurd (hcv.trans hdc) c276) | (exact absurd (if_pos hp1) c276) | (exact absurd hp3 c276) | (exact absurd hcc c8) | (exact absurd (hcv.trans hdc) c8) | (exact absurd (if_pos hp1) c8) | (exact absurd hp3 c8) | omega))
          ·
           rw [decide_eq_false c220] at ha219
           refine cond_t ha219 rfl ?_
           refine wp_seq ?_
           clear ho19 ho33 ho47 ho60 ho62 ho77 ho79
           refine wp_region_lit ?_
           refine wl_val ha219 rfl rfl rfl (op_assign ha219 rfl rfl) ?_
           intro a530 ha530; clear ha219 a219
           refine wpList_nil ?_
           refine then_n ?_
           refine wp_ret ?_
           refine then_r ?_
           refine ret1 ha530 rfl rfl ?_
           clear ha530 a530
           exact ret_mk hx193 (congrArg Value.bool (by first | rfl | (exact absurd rfl c220) | (simp at c8; done) | (rw [hwv] at *; omega) | (rw [hcv] at *; omega) | (rw [hp1]; done) | (simp [hp1]; done) | (exact absurd hcc c220) | (exact absurd (hcv.trans hdc) c220) | (exact absurd (if_pos hp1) c220) | (exact absurd hp3 c220) | (exact absurd hcc c8) | (exact absurd (hcv.trans hdc) c8) | (exact absurd (if_pos hp1) c8) | (exact absurd hp3 c8) | omega))
         ·
          rw [decide_eq_false c215] at ha214
          refine wl_skip ha214 rfl rfl rfl ?_
          intro a531 ha531; clear ha214 a214
          refine wl_skip ha531 rfl rfl rfl ?_
          intro a532 ha532; clear ha531 a531
          refine wl_skip ha532 rfl rfl rfl ?_
          intro a533 ha533; clear ha532 a532
          refine wl_val ha533 rfl rfl rfl (op_pick_t ha533 rfl rfl rfl) ?_
          intro a534 ha534; clear ha533 a533
          refine wpList_nil ?_
          refine then_n ?_
          refine cond_t ha534 rfl ?_
          refine wp_seq ?_
          clear ho19 ho33 ho47 ho60 ho62 ho77 ho79
          refine wp_region_lit ?_
          refine wl_val ha534 rfl rfl rfl (op_assign ha534 rfl rfl) ?_
          intro a535 ha535; clear ha534 a534
          refine wpList_nil ?_
          refine then_n ?_
          refine wp_ret ?_
          refine then_r ?_
          refine ret1 ha535 rfl rfl ?_
          clear ha535 a535
          exact ret_mk hx193 (congrArg Value.bool (by first | rfl | (exact absurd rfl c215) | (simp at c8; done) | (rw [hwv] at *; omega) | (rw [hcv] at *; omega) | (rw [hp1]; done) | (simp [hp1]; done) | (exact absurd hcc c215) | (exact absurd (hcv.trans hdc) c215) | (exact absurd (if_pos hp1) c215) | (exact absurd hp3 c215) | (exact absurd hcc c8) | (exact absurd (hcv.trans hdc) c8) | (exact absurd (if_pos hp1) c8) | (exact absurd hp3 c8) | omega))
        ·
         rw [decide_eq_false c209] at ha208
         refine wl_skip ha208 rfl rfl rfl ?_
         intro a536 ha536; clear ha208 a208
         refine wl_skip ha536 rfl rfl rfl ?_
         intro a537 ha537; clear ha536 a536
         refine wl_skip ha537 rfl rfl rfl ?_
         intro a538 ha538; clear ha537 a537
         refine wl_val ha538 rfl rfl rfl (op_pick_t ha538 rfl rfl rfl) ?_
         intro a539 ha539; clear ha538 a538
         refine wl_val ha539 rfl rfl rfl (op_move ha539 rfl rfl) ?_
         intro a540 ha540; clear ha539 a539
         refine wl_skip ha540 rfl rfl rfl ?_
         intro a541 ha541; clear ha540 a540
         refine wl_skip ha541 rfl rfl rfl ?_
         intro a542 ha542; clear ha541 a541
         refine wl_skip ha542 rfl rfl rfl ?_
         intro a543 ha543; clear ha542 a542
         refine wl_val ha543 rfl rfl rfl (op_pick_t ha543 rfl rfl rfl) ?_
         intro a544 ha544; clear ha543 a543
         refine wpList_nil ?_
         refine then_n ?_
         refine cond_t ha544 rfl ?_
         refine wp_seq ?_
         clear ho19 ho33 ho47 ho60 ho62 ho77 ho79
         refine wp_region_lit ?_
         refine wl_val ha544 rfl rfl rfl (op_assign ha544 rfl rfl) ?_
         intro a545 ha545; clear ha544 a544
         refine wpList_nil ?_
         refine then_n ?_
         refine wp_ret ?_
         refine then_r ?_
         refine ret1 ha545 rfl rfl ?_
         clear ha545 a545
         exact ret_mk hx193 (congrArg Value.bool (by first | rfl | (exact absurd rfl c209) | (simp at c8; done) | (rw [hwv] at *; omega) | (rw [hcv] at *; omega) | (rw [hp1]; done) | (simp [hp1]; done) | (exact absurd hcc c209) | (exact absurd (hcv.trans hdc) c209) | (exact absurd (if_pos hp1) c209) | (exact absurd hp3 c209) | (exact absurd hcc c8) | (exact absurd (hcv.trans hdc) c8) | (exact absurd (if_pos hp1) c8) | (exact absurd hp3 c8) | omega))
       ·
        rw [decide_eq_false c203] at ha202
        refine wl_skip ha202 rfl rfl rfl ?_
        intro a546 ha546; clear ha202 a202
        refine wl_skip ha546 rfl rfl rfl ?_
        intro a547 ha547; clear ha546 a546
        refine wl_skip ha547 rfl rfl rfl ?_
        intro a548 ha548; clear ha547 a547
        refine wl_val ha548 rfl rfl rfl (op_pick_t ha548 rfl rfl rfl) ?_
        intro a549 ha549; clear ha548 a548
        refine wl_val ha549 rfl rfl rfl (op_move ha549 rfl rfl) ?_
        intro a550 ha550; clear ha549 a549
        refine wl_skip ha550 rfl rfl rfl ?_
        intro a551 ha551; clear ha550 a550
        refine wl_skip ha551 rfl rfl rfl ?_
        intro a552 ha552; clear ha551 a551
        refine wl_skip ha552 rfl rfl rfl ?_
        intro a553 ha553; clear ha552 a552
        refine wl_val ha553 rfl rfl rfl (op_pick_t ha553 rfl rfl rfl) ?_
        intro a554 ha554; clear ha553 a553
        refine wl_val ha554 rfl rfl rfl (op_move ha554 rfl rfl) ?_
        intro a555 ha555; clear ha554 a554
        refine wl_skip ha555 rfl rfl rfl ?_
        intro a556 ha556; clear ha555 a555
        refine wl_skip ha556 rfl rfl rfl ?_
        intro a557 ha557; clear ha556 a556
        refine wl_skip ha557 rfl rfl rfl ?_
        intro a558 ha558; clear ha557 a557
        refine wl_val ha558 rfl rfl rfl (op_pick_t ha558 rfl rfl rfl) ?_
        intro a559 ha559; clear ha558 a558
        refine wpList_nil ?_
        refine then_n ?_
        refine cond_t ha559 rfl ?_
        refine wp_seq ?_
        clear ho19 ho33 ho47 ho60 ho62 ho77 ho79
        refine wp_region_lit ?_
        refine wl_val ha559 rfl rfl rfl (op_assign ha559 rfl rfl) ?_
        intro a560 ha560; clear ha559 a559
        refine wpList_nil ?_
        refine then_n ?_
        refine wp_ret ?_
        refine then_r ?_
        refine ret1 ha560 rfl rfl ?_
        clear ha560 a560
        exact ret_mk hx193 (congrArg Value.bool (by first | rfl | (exact absurd rfl c203) | (simp at c8; done) | (rw [hwv] at *; omega) | (rw [hcv] at *; omega) | (rw [hp1]; done) | (simp [hp1]; done) | (exact absurd hcc c203) | (exact absurd (hcv.trans hdc) c203) | (exact absurd (if_pos hp1) c203) | (exact absurd hp3 c203) | (exact absurd hcc c8) | (exact absurd (hcv.trans hdc) c8) | (exact absurd (if_pos hp1) c8) | (exact absurd hp3 c8) | omega))
      ·
       rw [c197] at ha196
       refine wl_skip ha196 rfl rfl rfl ?_
       intro a561 ha561; clear ha196 a196
       refine wl_skip ha561 rfl rfl rfl ?_
       intro a562 ha562; clear ha561 a561
       refine wl_skip ha562 rfl rfl rfl ?_
       intro a563 ha563; clear ha562 a562
       refine wl_val ha563 rfl rfl rfl (op_pick_t ha563 rfl rfl rfl) ?_
       intro a564 ha564; clear ha563 a563
       refine wl_val ha564 rfl rfl rfl (op_move ha564 rfl rfl) ?_
       intro a565 ha565; clear ha564 a564
       refine wl_skip ha565 rfl rfl rfl ?_
       intro a566 ha566; clear ha565 a565
       refine wl_skip ha566 rfl rfl rfl ?_
       intro a567 ha567; clear ha566 a566
       refine wl_skip ha567 rfl rfl rfl ?_
       intro a568 ha568; clear ha567 a567
       refine wl_val ha568 rfl rfl rfl (op_pick_t ha568 rfl rfl rfl) ?_
       intro a569 ha569; clear ha568 a568
       refine wl_val ha569 rfl rfl rfl (op_move ha569 rfl rfl) ?_
       intro a570 ha570; clear ha569 a569
       refine wl_skip ha570 rfl rfl rfl ?_
       intro a571 ha571; clear ha570 a570
       refine wl_skip ha571 rfl rfl rfl ?_
       intro a572 ha572; clear ha571 a571
       refine wl_skip ha572 rfl rfl rfl ?_
       intro a573 ha573; clear ha572 a572
       refine wl_val ha573 rfl rfl rfl (op_pick_t ha573 rfl rfl rfl) ?_
       intro a574 ha574; clear ha573 a573
       refine wl_val ha574 rfl rfl rfl (op_move ha574 rfl rfl) ?_
       intro a575 ha575; clear ha574 a574
       refine wl_skip ha575 rfl rfl rfl ?_
       intro a576 ha576; clear ha575 a575
       refine wl_skip ha576 rfl rfl rfl ?_
       intro a577 ha577; clear ha576 a576
       refine wl_skip ha577 rfl rfl rfl ?_
       intro a578 ha578; clear ha577 a577
       refine wl_val ha578 rfl rfl rfl (op_pick_t ha578 rfl rfl rfl) ?_
       intro a579 ha579; clear ha578 a578
       refine wpList_nil ?_
       refine then_n ?_
       refine cond_t ha579 rfl ?_
       refine wp_seq ?_
       clear ho19 ho33 ho47 ho60 ho62 ho77 ho79
       refine wp_region_lit ?_
       refine wl_val ha579 rfl rfl rfl (op_assign ha579 rfl rfl) ?_
       intro a580 ha580; clear ha579 a579
       refine wpList_nil ?_
       refine then_n ?_
       refine wp_ret ?_
       refine then_r ?_
       refine ret1 ha580 rfl rfl ?_
       clear ha580 a580
       exact ret_mk hx193 (congrArg Value.bool (by first | rfl | (rw [eqL_self] at c197; cases c197) | (simp at c8; done) | (rw [hwv] at *; omega) | (rw [hcv] at *; omega) | (rw [hp1]; done) | (simp [hp1]; done) | (exact absurd hcc c197) | (exact absurd (hcv.trans hdc) c197) | (exact absurd (if_pos hp1) c197) | (exact absurd hp3 c197) | (exact absurd hcc c8) | (exact absurd (hcv.trans hdc) c8) | (exact absurd (if_pos hp1) c8) | (exact absurd hp3 c8) | omega))
     ·
      rw [c186] at ha185
      refine wl_skip ha185 rfl rfl rfl ?_
      intro a581 ha581; clear ha185 a185
      refine wl_skip ha581 rfl rfl rfl ?_
      intro a582 ha582; clear ha581 a581
      refine wl_skip ha582 rfl rfl rfl ?_
      intro a583 ha583; clear ha582 a582
      refine wl_skip ha583 rfl rfl rfl ?_
      intro a584 ha584; clear ha583 a583
      refine wl_val ha584 rfl rfl rfl (op_pick_t ha584 rfl rfl rfl) ?_
      intro a585 ha585; clear ha584 a584
      refine wl_val ha585 rfl rfl rfl (op_move ha585 rfl rfl) ?_
      intro a586 ha586; clear ha585 a585
      refine wl_skip ha586 rfl rfl rfl ?_
      intro a587 ha587; clear ha586 a586
      refine wl_skip ha587 rfl rfl rfl ?_
      intro a588 ha588; clear ha587 a587
      refine wl_skip ha588 rfl rfl rfl ?_
      intro a589 ha589; clear ha588 a588
      refine wl_val ha589 rfl rfl rfl (op_pick_t ha589 rfl rfl rfl) ?_
      intro a590 ha590; clear ha589 a589
      refine wl_val ha590 rfl rfl rfl (op_move ha590 rfl rfl) ?_
      intro a591 ha591; clear ha590 a590
      refine wl_skip ha591 rfl rfl rfl ?_
      intro a592 ha592; clear ha591 a591
      refine wl_skip ha592 rfl rfl rfl ?_
      intro a593 ha593; clear ha592 a592
      refine wl_skip ha593 rfl rfl rfl ?_
      intro a594 ha594; clear ha593 a593
      refine wl_val ha594 rfl rfl rfl (op_pick_t ha594 rfl rfl rfl) ?_
      intro a595 ha595; clear ha594 a594
      refine wl_val ha595 rfl rfl rfl (op_move ha595 rfl rfl) ?_
      intro a596 ha596; clear ha595 a595
      refine wl_skip ha596 rfl rfl rfl ?_
      intro a597 ha597; clear ha596 a596
      refine wl_skip ha597 rfl rfl rfl ?_
      intro a598 ha598; clear ha597 a597
      refine wl_skip ha598 rfl rfl rfl ?_
      intro a599 ha599; clear ha598 a598
      refine wl_val ha599 rfl rfl rfl (op_pick_t ha599 rfl rfl rfl) ?_
      intro a600 ha600; clear ha599 a599
      refine wl_val ha600 rfl rfl rfl (op_move ha600 rfl rfl) ?_
      intro a601 ha601; clear ha600 a600
      refine wl_skip ha601 rfl rfl rfl ?_
      intro a602 ha602; clear ha601 a601
      refine wl_skip ha602 rfl rfl rfl ?_
      intro a603 ha603; clear ha602 a602
      refine wl_skip ha603 rfl rfl rfl ?_
      intro a604 ha604; clear ha603 a603
      refine wl_val ha604 rfl rfl rfl (op_pick_t ha604 rfl rfl rfl) ?_
      intro a605 ha605; clear ha604 a604
      refine wpList_nil ?_
      refine then_n ?_
      refine cond_t ha605 rfl ?_
      refine wp_seq ?_
      clear ho19 ho33 ho47 ho60 ho62 ho77 ho79
      refine wp_region_lit ?_
      refine wl_val ha605 rfl rfl rfl (op_assign ha605 rfl rfl) ?_
      intro a606 ha606; clear ha605 a605
      refine wpList_nil ?_
      refine then_n ?_
      refine wp_ret ?_
      refine then_r ?_
      refine ret1 ha606 rfl rfl ?_
      clear ha606 a606
      exact ret_mk hx182 (congrArg Value.bool (by first | rfl | (rw [eqL_self] at c186; cases c186) | (simp at c8; done) | (rw [hwv] at *; omega) | (rw [hcv] at *; omega) | (rw [hp1]; done) | (simp [hp1]; done) | (exact absurd hcc c186) | (exact absurd (hcv.trans hdc) c186) | (exact absurd (if_pos hp1) c186) | (exact absurd hp3 c186) | (exact absurd hcc c8) | (exact absurd (hcv.trans hdc) c8) | (exact absurd (if_pos hp1) c8) | (exact absurd hp3 c8) | omega))
    ·
     rw [decide_eq_false c175] at ha174
     refine wl_skip ha174 rfl rfl rfl ?_
     intro a607 ha607; clear ha174 a174
     refine wl_skip ha607 rfl rfl rfl ?_
     intro a608 ha608; clear ha607 a607
     refine wl_skip ha608 rfl rfl rfl ?_
     intro a609 ha609; clear ha608 a608
     refine wl_skip ha609 rfl rfl rfl ?_
     intro a610 ha610; clear ha609 a609
     refine wl_val ha610 rfl rfl rfl (op_pick_t ha610 rfl rfl rfl) ?_
     intro a611 ha611; clear ha610 a610
     refine wl_val ha611 rfl rfl rfl (op_move ha611 rfl rfl) ?_
     intro a612 ha612; clear ha611 a611
     refine wl_skip ha612 rfl rfl rfl ?_
     intro a613 ha613; clear ha612 a612
     refine wl_skip ha613 rfl rfl rfl ?_
     intro a614 ha614; clear ha613 a613
     refine wl_skip ha614 rfl rfl rfl ?_
     intro a615 ha615; clear ha614 a614
     refine wl_skip ha615 rfl rfl rfl ?_
     intro a616 ha616; clear ha615 a615
     refine wl_val ha616 rfl rfl rfl (op_pick_t ha616 rfl rfl rfl) ?_
     intro a617 ha617; clear ha616 a616
     refine wl_val ha617 rfl rfl rfl (op_move ha617 rfl rfl) ?_
     intro a618 ha618; clear ha617 a617
     refine wl_skip ha618 rfl rfl rfl ?_
     intro a619 ha619; clear ha618 a618
     refine wl_skip ha619 rfl rfl rfl ?_
     intro a620 ha620; clear ha619 a619
     refine wl_skip ha620 rfl rfl rfl ?_
     intro a621 ha621; clear ha620 a620
     refine wl_val ha621 rfl rfl rfl (op_pick_t ha621 rfl rfl rfl) ?_
     intro a622 ha622; clear ha621 a621
     refine wl_val ha622 rfl rfl rfl (op_move ha622 rfl rfl) ?_
     intro a623 ha623; clear ha622 a622
     refine wl_skip ha623 rfl rfl rfl ?_
     intro a624 ha624; clear ha623 a623
     refine wl_skip ha624 rfl rfl rfl ?_
     intro a625 ha625; clear ha624 a624
     refine wl_skip ha625 rfl rfl rfl ?_
     intro a626 ha626; clear ha625 a625
     refine wl_val ha626 rfl rfl rfl (op_pick_t ha626 rfl rfl rfl) ?_
     intro a627 ha627; clear ha626 a626
     refine wl_val ha627 rfl rfl rfl (op_move ha627 rfl rfl) ?_
     intro a628 ha628; clear ha627 a627
     refine wl_skip ha628 rfl rfl rfl ?_
     intro a629 ha629; clear ha628 a628
     refine wl_skip ha629 rfl rfl rfl ?_
     intro a630 ha630; clear ha629 a629
     refine wl_skip ha630 rfl rfl rfl ?_
     intro a631 ha631; clear ha630 a630
     refine wl_val ha631 rfl rfl rfl (op_pick_t ha631 rfl rfl rfl) ?_
     intro a632 ha632; clear ha631 a631
     refine wl_val ha632 rfl rfl rfl (op_move ha632 rfl rfl) ?_
     intro a633 ha633; clear ha632 a632
     refine wl_skip ha633 rfl rfl rfl ?_
     intro a634 ha634; clear ha633 a633
     refine wl_skip ha634 rfl rfl rfl ?_
     intro a635 ha635; clear ha634 a634
     refine wl_skip ha635 rfl rfl rfl ?_
     intro a636 ha636; clear ha635 a635
     refine wl_val ha636 rfl rfl rfl (op_pick_t ha636 rfl rfl rfl) ?_
     intro a637 ha637; clear ha636 a636
     refine wpList_nil ?_
     refine then_n ?_
     refine cond_t ha637 rfl ?_
     refine wp_seq ?_
     clear ho19 ho33 ho47 ho60 ho62 ho77 ho79
     refine wp_region_lit ?_
     refine wl_val ha637 rfl rfl rfl (op_assign ha637 rfl rfl) ?_
     intro a638 ha638; clear ha637 a637
     refine wpList_nil ?_
     refine then_n ?_
     refine wp_ret ?_
     refine then_r ?_
     refine ret1 ha638 rfl rfl ?_
     clear ha638 a638
     exact ret_mk hx165 (congrArg Value.bool (by first | rfl | (exact absurd rfl c175) | (simp at c8; done) | (rw [hwv] at *; omega) | (rw [hcv] at *; omega) | (rw [hp1]; done) | (simp [hp1]; done) | (exact absurd hcc c175) | (exact absurd (hcv.trans hdc) c175) | (exact absurd (if_pos hp1) c175) | (exact absurd hp3 c175) | (exact absurd hcc c8) | (exact absurd (hcv.trans hdc) c8) | (exact absurd (if_pos hp1) c8) | (exact absurd hp3 c8) | omega))
   ·
    rw [c169] at ha168
    refine wl_skip ha168 rfl rfl rfl ?_
    intro a639 ha639; clear ha168 a168
    refine wl_skip ha639 rfl rfl rfl ?_
    intro a640 ha640; clear ha639 a639
    refine wl_skip ha640 rfl rfl rfl ?_
    intro a641 ha641; clear ha640 a640
    refine wl_val ha641 rfl rfl rfl (op_pick_t ha641 rfl rfl rfl) ?_
    intro a642 ha642; clear ha641 a641
    refine wl_val ha642 rfl rfl rfl (op_move ha642 rfl rfl) ?_
    intro a643 ha643; clear ha642 a642
    refine wl_skip ha643 rfl rfl rfl ?_
    intro a644 ha644; clear ha643 a643
    refine wl_skip ha644 rfl rfl rfl ?_
    intro a645 ha645; clear ha644 a644
    refine wl_skip ha645 rfl rfl rfl ?_
    intro a646 ha646; clear ha645 a645
    refine wl_skip ha646 rfl rfl rfl ?_
    intro a647 ha647; clear ha646 a646
    refine wl_val ha647 rfl rfl rfl (op_pick_t ha647 rfl rfl rfl) ?_
    intro a648 ha648; clear ha647 a647
    refine wl_val ha648 rfl rfl rfl (op_move ha648 rfl rfl) ?_
    intro a649 ha649; clear ha648 a648
    refine wl_skip ha649 rfl rfl rfl ?_
    intro a650 ha650; clear ha649 a649
    refine wl_skip ha650 rfl rfl rfl ?_
    intro a651 ha651; clear ha650 a650
    refine wl_skip ha651 rfl rfl rfl ?_
    intro a652 ha652; clear ha651 a651
    refine wl_skip ha652 rfl rfl rfl ?_
    intro a653 ha653; clear ha652 a652
    refine wl_val ha653 rfl rfl rfl (op_pick_t ha653 rfl rfl rfl) ?_
    intro a654 ha654; clear ha653 a653
    refine wl_val ha654 rfl rfl rfl (op_move ha654 rfl rfl) ?_
    intro a655 ha655; clear ha654 a654
    refine wl_skip ha655 rfl rfl rfl ?_
    intro a656 ha656; clear ha655 a655
    refine wl_skip ha656 rfl rfl rfl ?_
    intro a657 ha657; clear ha656 a656
    refine wl_skip ha657 rfl rfl rfl ?_
    intro a658 ha658; clear ha657 a657
    refine wl_val ha658 rfl rfl rfl (op_pick_t ha658 rfl rfl rfl) ?_
    intro a659 ha659; clear ha658 a658
    refine wl_val ha659 rfl rfl rfl (op_move ha659 rfl rfl) ?_
    intro a660 ha660; clear ha659 a659
    refine wl_skip ha660 rfl rfl rfl ?_
    intro a661 ha661; clear ha660 a660
    refine wl_skip ha661 rfl rfl rfl ?_
    intro a662 ha662; clear ha661 a661
    refine wl_skip ha662 rfl rfl rfl ?_
    intro a663 ha663; clear ha662 a662
    refine wl_val ha663 rfl rfl rfl (op_pick_t ha663 rfl rfl rfl) ?_
    intro a664 ha664; clear ha663 a663
    refine wl_val ha664 rfl rfl rfl (op_move ha664 rfl rfl) ?_
    intro a665 ha665; clear ha664 a664
    refine wl_skip ha665 rfl rfl rfl ?_
    intro a666 ha666; clear ha665 a665
    refine wl_skip ha666 rfl rfl rfl ?_
    intro a667 ha667; clear ha666 a666
    refine wl_skip ha667 rfl rfl rfl ?_
    intro a668 ha668; clear ha667 a667
    refine wl_val ha668 rfl rfl rfl (op_pick_t ha668 rfl rfl rfl) ?_
    intro a669 ha669; clear ha668 a668
    refine wl_val ha669 rfl rfl rfl (op_move ha669 rfl rfl) ?_
    intro a670 ha670; clear ha669 a669
    refine wl_skip ha670 rfl rfl rfl ?_
    intro a671 ha671; clear ha670 a670
    refine wl_skip ha671 rfl rfl rfl ?_
    intro a672 ha672; clear ha671 a671
    refine wl_skip ha672 rfl rfl rfl ?_
    intro a673 ha673; clear ha672 a672
    refine wl_val ha673 rfl rfl rfl (op_pick_t ha673 rfl rfl rfl) ?_
    intro a674 ha674; clear ha673 a673
    refine wpList_nil ?_
    refine then_n ?_
    refine cond_t ha674 rfl ?_
    refine wp_seq ?_
    clear ho19 ho33 ho47 ho60 ho62 ho77 ho79
    refine wp_region_lit ?_
    refine wl_val ha674 rfl rfl rfl (op_assign ha674 rfl rfl) ?_
    intro a675 ha675; clear ha674 a674
    refine wpList_nil ?_
    refine then_n ?_
    refine wp_ret ?_
    refine then_r ?_
    refine ret1 ha675 rfl rfl ?_
    clear ha675 a675
    exact ret_mk hx165 (congrArg Value.bool (by first | rfl | (rw [eqL_self] at c169; cases c169) | (simp at c8; done) | (rw [hwv] at *; omega) | (rw [hcv] at *; omega) | (rw [hp1]; done) | (simp [hp1]; done) | (exact absurd hcc c169) | (exact absurd (hcv.trans hdc) c169) | (exact absurd (if_pos hp1) c169) | (exact absurd hp3 c169) | (exact absurd hcc c8) | (exact absurd (hcv.trans hdc) c8) | (exact absurd (if_pos hp1) c8) | (exact absurd hp3 c8) | omega))
  ·
   rw [decide_eq_false c158] at ha157
   refine wl_skip ha157 rfl rfl rfl ?_
   intro a676 ha676; clear ha157 a157
   refine wl_skip ha676 rfl rfl rfl ?_
   intro a677 ha677; clear ha676 a676
   refine wl_skip ha677 rfl rfl rfl ?_
   intro a678 ha678; clear ha677 a677
   refine wl_skip ha678 rfl rfl rfl ?_
   intro a679 ha679; clear ha678 a678
   refine wl_val ha679 rfl rfl rfl (op_pick_t ha679 rfl rfl rfl) ?_
   intro a680 ha680; clear ha679 a679
   refine wl_val ha680 rfl rfl rfl (op_move ha680 rfl rfl) ?_
   intro a681 ha681; clear ha680 a680
   refine wl_skip ha681 rfl rfl rfl ?_
   intro a682 ha682; clear ha681 a681
   refine wl_skip ha682 rfl rfl rfl ?_
   intro a683 ha683; clear ha682 a682
   refine wl_skip ha683 rfl rfl rfl ?_
   intro a684 ha684; clear ha683 a683
   refine wl_val ha684 rfl rfl rfl (op_pick_t ha684 rfl rfl rfl) ?_
   intro a685 ha685; clear ha684 a684
   refine wl_val ha685 rfl rfl rfl (op_move ha685 rfl rfl) ?_
   intro a686 ha686; clear ha685 a685
   refine wl_skip ha686 rfl rfl rfl ?_
   intro a687 ha687; clear ha686 a686
   refine wl_skip ha687 rfl rfl rfl ?_
   intro a688 ha688; clear ha687 a687
   refine wl_skip ha688 rfl rfl rfl ?_
   intro a689 ha689; clear ha688 a688
   refine wl_skip ha689 rfl rfl rfl ?_
   intro a690 ha690; clear ha689 a689
   refine wl_val ha690 rfl rfl rfl (op_pick_t ha690 rfl rfl rfl) ?_
   intro a691 ha691; clear ha690 a690
   refine wl_val ha691 rfl rfl rfl (op_move ha691 rfl rfl) ?_
   intro a692 ha692; clear ha691 a691
   refine wl_skip ha692 rfl rfl rfl ?_
   intro a693 ha693; clear ha692 a692
   refine wl_skip ha693 rfl rfl rfl ?_
   intro a694 ha694; clear ha693 a693
   refine wl_skip ha694 rfl rfl rfl ?_
   intro a695 ha695; clear ha694 a694
   refine wl_skip ha695 rfl rfl rfl ?_
   intro a696 ha696; clear ha695 a695
   refine wl_val ha696 rfl rfl rfl (op_pick_t ha696 rfl rfl rfl) ?_
   intro a697 ha697; clear ha696 a696
   refine wl_val ha697 rfl rfl rfl (op_move ha697 rfl rfl) ?_
   intro a698 ha698; clear ha697 a697
   refine wl_skip ha698 rfl rfl rfl ?_
   intro a699 ha699; clear ha698 a698
   refine wl_skip ha699 rfl rfl rfl ?_
   intro a700 ha700; clear ha699 a699
   refine wl_skip ha700 rfl rfl rfl ?_
   intro a701 ha701; clear ha700 a700
   refine wl_val ha701 rfl rfl rfl (op_pick_t ha701 rfl rfl rfl) ?_
   intro a702 ha702; clear ha701 a701
   refine wl_val ha702 rfl rfl rfl (op_move ha702 rfl rfl) ?_
   intro a703 ha703; clear ha702 a702
   refine wl_skip ha703 rfl rfl rfl ?_
   intro a704 ha704; clear ha703 a703
   refine wl_skip ha704 rfl rfl rfl ?_
   intro a705 ha705; clear ha704 a704
   refine wl_skip ha705 rfl rfl rfl ?_
   intro a706 ha706; clear ha705 a705
   refine wl_val ha706 rfl rfl rfl (op_pick_t ha706 rfl rfl rfl) ?_
   intro a707 ha707; clear ha706 a706
   refine wl_val ha707 rfl rfl rfl (op_move ha707 rfl rfl) ?_
   intro a708 ha708; clear ha707 a707
   refine wl_skip ha708 rfl rfl rfl ?_
   intro a709 ha709; clear ha708 a708
   refine wl_skip ha709 rfl rfl rfl ?_
   intro a710 ha710; clear ha709 a709
   refine wl_skip ha710 rfl rfl rfl ?_
   intro a711 ha711; clear ha710 a710
   refine wl_val ha711 rfl rfl rfl (op_pick_t ha711 rfl rfl rfl) ?_
   intro a712 ha712; clear ha711 a711
   refine wl_val ha712 rfl rfl rfl (op_move ha712 rfl rfl) ?_
   intro a713 ha713; clear ha712 a712
   refine wl_skip ha713 rfl rfl rfl ?_
   intro a714 ha714; clear ha713 a713
   refine wl_skip ha714 rfl rfl rfl ?_
   intro a715 ha715; clear ha714 a714
   refine wl_skip ha715 rfl rfl rfl ?_
   intro a716 ha716; clear ha715 a715
   refine wl_val ha716 rfl rfl rfl (op_pick_t ha716 rfl rfl rfl) ?_
   intro a717 ha717; clear ha716 a716
   refine wpList_nil ?_
   refine then_n ?_
   refine cond_t ha717 rfl ?_
   refine wp_seq ?_
   clear ho19 ho33 ho47 ho60 ho62 ho77 ho79
   refine wp_region_lit ?_
   refine wl_val ha717 rfl rfl rfl (op_assign ha717 rfl rfl) ?_
   intro a718 ha718; clear ha717 a717
   refine wpList_nil ?_
   refine then_n ?_
   refine wp_ret ?_
   refine then_r ?_
   refine ret1 ha718 rfl rfl ?_
   clear ha718 a718
   exact ret_mk hx148 (congrArg Value.bool (by first | rfl | (exact absurd rfl c158) | (simp at c8; done) | (rw [hwv] at *; omega) | (rw [hcv] at *; omega) | (rw [hp1]; done) | (simp [hp1]; done) | (exact absurd hcc c158) | (exact absurd (hcv.trans hdc) c158) | (exact absurd (if_pos hp1) c158) | (exact absurd hp3 c158) | (exact absurd hcc c8) | (exact absurd (hcv.trans hdc) c8) | (exact absurd (if_pos hp1) c8) | (exact absurd hp3 c8) | omega))


end Go.Proofs.Ytocedhbefdaefaa
