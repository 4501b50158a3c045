/- The law FnEntries, walked. -/
import Derived.Test.YtocedhbefdaefaaR4
import Derived.Test.YtocedhbefdaefaaR5
import Derived.Test.YtocedhbefdaefaaP0
import Derived.Test.YtocedhbefdaefaaW4
namespace Go.Proofs.Ytocedhbefdaefaa
open Go Go.RowKit

theorem if01 {b : Bool} (h : (if b = true then 0 else 1 : Int) = 0) : b = true := by cases b <;> simp_all

theorem sumI_two {α : Type} {f g p q : α → Int} : ∀ {xs : List α}, (∀ e ∈ xs, f e - g e = p e - q e) → sumI f xs - sumI g xs = sumI p xs - sumI q xs
  | [], _ => by simp [sumI]
  | x :: xs, h => by
    have h1 := h x (by simp)
    have h2 := sumI_two (f := f) (g := g) (p := p) (q := q) (xs := xs) fun e he => h e (by simp [he])
    simp only [sumI]; omega
theorem sumI_zero {α : Type} : ∀ (xs : List α), sumI (fun _ => 0) xs = 0
  | [] => rfl
  | x :: xs => by simp only [sumI]; rw [sumI_zero xs]; rfl

theorem lwGo_all : ∀ (xs : List Ent) (n l f k : Int), l ≤ 0 → 0 ≤ f → f ≤ k → (lwGo xs n l f k).1 ≤ 0 ∧ 0 ≤ (lwGo xs n l f k).2 ∧ (lwGo xs n l f k).2 ≤ k + xs.length
  | [], n, l, f, k, h1, h2, h3 => by simp [lwGo]; omega
  | e :: es, n, l, f, k, h1, h2, h3 => by
    rw [lwGo, List.length_cons]; split
    · have := lwGo_all es (n + cashE e) (n + cashE e) (k + 1) (k + 1) (by omega) (by omega) (by omega); omega
    · have := lwGo_all es (n + cashE e) l f (k + 1) h1 h2 (by omega); omega
theorem lw_all (xs : List Ent) : (lwS xs).1 ≤ 0 ∧ 0 ≤ (lwS xs).2 ∧ (lwS xs).2 ≤ xs.length := by
  have := lwGo_all xs 0 0 0 0 (by omega) (by omega) (by omega); unfold lwS; omega
def dsE (d k : Int) (e : Ent) : Int := if e.1 = d ∧ e.2.1 = k then e.2.2.2 else 0
theorem dsE_def (d k : Int) (e : Ent) : dsE d k e = if e.1 = d ∧ e.2.1 = k then e.2.2.2 else 0 := rfl
theorem dsGo_get {d : Int} {k : Nat} (hk : k < 3) : ∀ (xs : List Ent) (acc : List Int) (a : Int), (∀ e ∈ xs, entB e = true) → acc[k]? = some a → (dsGo d xs acc)[k]? = some (a + sumI (dsE d k) xs)
  | [], acc, a, _, h => by rw [dsGo, h]; simp [sumI]
  | e :: es, acc, a, hE, h => by
    have hb := ent_bd (hE e (by simp))
    have hl := (List.getElem?_eq_some_iff.1 h).1
    have hd := dsE_def d k e
    have hr : ∀ y ∈ es, entB y = true := fun y hy => hE y (by simp [hy])
    rw [dsGo]; split
    · rename_i hc
      by_cases q : e.2.1.toNat = k
      · rw [dsGo_get hk es _ (a + e.2.2.2) hr (by rw [q, h, List.getElem?_set_self hl]; rfl)]
        rw [if_pos ⟨hc.1, by omega⟩] at hd
        simp only [sumI]; rw [hd]; congr 1; omega
      · rw [dsGo_get hk es _ a hr (by rw [List.getElem?_set_ne q]; exact h)]
        rw [if_neg (by omega)] at hd
        simp only [sumI]; rw [hd]; congr 1; omega
    · rename_i hc
      rw [dsGo_get hk es _ a hr h]
      rw [if_neg (by omega)] at hd
      simp only [sumI]; rw [hd]; congr 1; omega
theorem ds_get {d : Int} {xs : List Ent} (hE : ∀ e ∈ xs, entB e = true) {k : Nat} (hk : k < 3) : (dsS d xs)[k]? = some (sumI (dsE d k) xs) := by
  unfold dsS
  rw [dsGo_get hk xs _ 0 hE (by rw [List.getElem?_replicate, if_pos hk]), Int.zero_add]
theorem cashE_def (e : Ent) : cashE e = if e.2.1 = 1 then e.2.2.2 else if e.2.1 = 2 then 0 - e.2.2.2 else 0 := rfl
theorem cs_d {xs : List Ent} (d : Int) : sumI (csE d) xs - sumI (csE (d - 1)) xs = sumI (dsE d 1) xs - sumI (dsE d 2) xs := by
  refine sumI_two fun e _ => ?_
  have h1 := csE_def d e; have h2 := csE_def (d - 1) e; have h3 := dsE_def d 1 e; have h4 := dsE_def d 2 e; have h5 := cashE_def e
  by_cases c1 : e.1 = d
  · by_cases c2 : e.2.1 = 1
    · rw [if_pos c2] at h5; rw [if_pos (by omega)] at h1; rw [if_neg (by omega)] at h2; rw [if_pos ⟨c1, c2⟩] at h3; rw [if_neg (by omega)] at h4; omega
    · rw [if_neg c2] at h5; rw [if_pos (by omega)] at h1; rw [if_neg (by omega)] at h2; rw [if_neg (by omega)] at h3
      by_cases c3 : e.2.1 = 2
      · rw [if_pos c3] at h5; rw [if_pos ⟨c1, c3⟩] at h4; omega
      · rw [if_neg c3] at h5; rw [if_neg (by omega)] at h4; omega
  · rw [if_neg (by omega)] at h3 h4
    by_cases c2 : e.1 ≤ d
    · rw [if_pos c2] at h1; rw [if_pos (by omega)] at h2; omega
    · rw [if_neg c2] at h1; rw [if_neg (by omega)] at h2; omega
theorem cs_0 {xs : List Ent} (hE : ∀ e ∈ xs, entB e = true) : sumI (csE (0 - 1)) xs = 0 := by
  have := sumI_two (f := csE (0 - 1)) (g := fun _ => 0) (p := fun _ => 0) (q := fun _ => 0) (xs := xs) fun e he => by
    have h1 := ent_bd (hE e he); have h2 := csE_def (0 - 1) e
    rw [if_neg (by omega)] at h2; omega
  rw [sumI_zero] at this; omega
theorem cs_bd {xs : List Ent} (hE : ∀ e ∈ xs, entB e = true) (d : Int) : -10000000 * (xs.length : Int) ≤ sumI (csE d) xs ∧ sumI (csE d) xs ≤ 10000000 * (xs.length : Int) := sumI_bd fun e he => by
  have h1 := cashE_bd (hE e he); have h2 := csE_def d e; split at h2 <;> omega
theorem ds_bd2 {xs : List Ent} (hE : ∀ e ∈ xs, entB e = true) (d k : Int) : 0 * (xs.length : Int) ≤ sumI (dsE d k) xs ∧ sumI (dsE d k) xs ≤ 10000000 * (xs.length : Int) := sumI_bd fun e he => by
  have h1 := ent_bd (hE e he); have h2 := dsE_def d k e; split at h2 <;> omega
theorem db_next {xs : List Ent} (h : dbB xs = true) {i : Nat} {a b : Ent} (ha : xs[i]? = some a) (hb : xs[i + 1]? = some b) : a.1 ≤ b.1 ∧ (a.2.1 = 3 → a.1 < b.1) := by
  have h2 := upB_get (dbB_up h) (List.getElem?_eq_some_iff.1 hb).1
  rw [dbAt_eq hb] at h2
  simp only [Bool.and_eq_true, Bool.or_eq_true, decide_eq_true_eq] at h2
  have h3 := h2.1.2.resolve_left (by omega)
  rw [Nat.add_sub_cancel, ha] at h3
  simp only [prevOk, Bool.not_eq_true', Bool.or_eq_false_iff, decide_eq_false_iff_not, Bool.and_eq_false_iff] at h3
  omega
def dayOk : List Ent → Prop
  | [] => True
  | [_] => True
  | a :: b :: xs => (a.1 ≤ b.1 ∧ (a.2.1 = 3 → a.1 < b.1)) ∧ dayOk (b :: xs)
theorem dayOk_of : ∀ {xs : List Ent}, (∀ (i : Nat) (a b : Ent), xs[i]? = some a → xs[i + 1]? = some b → a.1 ≤ b.1 ∧ (a.2.1 = 3 → a.1 < b.1)) → dayOk xs
  | [], _ => trivial
  | [_], _ => trivial
  | a :: b :: xs, h => ⟨h 0 a b rfl rfl, dayOk_of fun i x y hx hy => h (i + 1) x y (by simpa using hx) (by simpa using hy)⟩
theorem day_le : ∀ {xs : List Ent} {a : Ent}, dayOk (a :: xs) → ∀ b ∈ xs, a.1 ≤ b.1 ∧ (a.2.1 = 3 → a.1 < b.1)
  | [], _, _, b, hb => by cases hb
  | c :: xs, a, h, b, hb => by
    have h1 := h.1
    rcases List.mem_cons.1 hb with e | e
    · subst e; exact h1
    · have h2 := day_le h.2 b e; omega
theorem cl_mem : ∀ {xs : List Ent} {d : Int}, d ∈ clL xs → ∃ e ∈ xs, e.1 = d
  | [], d, h => by cases h
  | e :: es, d, h => by
    rw [clL] at h; split at h
    · rcases List.mem_cons.1 h with q | q
      · exact ⟨e, by simp, q.symm⟩
      · obtain ⟨y, h1, h2⟩ := cl_mem q; exact ⟨y, by simp [h1], h2⟩
    · obtain ⟨y, h1, h2⟩ := cl_mem h; exact ⟨y, by simp [h1], h2⟩
theorem dayOk_tl : ∀ {xs : List Ent} {a : Ent}, dayOk (a :: xs) → dayOk xs
  | [], _, _ => trivial
  | _ :: _, _, h => h.2
theorem cl_up : ∀ {xs : List Ent}, dayOk xs → (clL xs).Pairwise fun x y => x < y
  | [], _ => by simp [clL]
  | e :: es, h => by
    rw [clL]; split
    · refine List.Pairwise.cons (fun d hd => ?_) (cl_up (dayOk_tl h))
      obtain ⟨y, h1, h2⟩ := cl_mem hd
      have := day_le h y h1; omega
    · exact cl_up (dayOk_tl h)
theorem cl_at {xs : List Ent} (h : dbB xs = true) {i j : Nat} {x y : Int} (hij : i < j) (hx : (if dbB xs then clL xs else [])[i]? = some x) (hy : (if dbB xs then clL xs else [])[j]? = some y) : x < y := by
  rw [if_pos h] at hx hy
  have hp := cl_up (dayOk_of fun i a b ha hb => db_next h ha hb)
  obtain ⟨hi, rfl⟩ := List.getElem?_eq_some_iff.1 hx
  obtain ⟨hj, rfl⟩ := List.getElem?_eq_some_iff.1 hy
  exact List.pairwise_iff_getElem.1 hp _ _ hi hj hij
theorem codeD_0 {xs : List Ent} {d : Int} (h : dbB xs = true) (h0 : 0 ≤ d) (h1 : d ≤ 100000) : codeD xs d = 0 := by unfold codeD dateB; rw [if_pos h, if_pos (by simp [h0, h1])]
/-- What is known of a day that may be asked for. -/
theorem day_all {xs : List Ent} {d : Int} (h : codeD xs d = 0) : dbB xs = true ∧ xs.length ≤ 60 ∧ 0 ≤ d ∧ d ≤ 100000 ∧ sumI (csE d) xs - sumI (csE (d - 1)) xs = sumI (dsE d 1) xs - sumI (dsE d 2) xs ∧ (d = 0 → sumI (csE (d - 1)) xs = 0) ∧ (1 ≤ d → codeD xs (d - 1) = 0) ∧ (-600000000 ≤ sumI (csE d) xs ∧ sumI (csE d) xs ≤ 600000000) ∧ (-600000000 ≤ sumI (csE (d - 1)) xs ∧ sumI (csE (d - 1)) xs ≤ 600000000) ∧ (0 ≤ sumI (dsE d 1) xs ∧ sumI (dsE d 1) xs ≤ 600000000) ∧ (0 ≤ sumI (dsE d 2) xs ∧ sumI (dsE d 2) xs ≤ 600000000) ∧ (dsS d xs)[1]? = some (sumI (dsE d 1) xs) ∧ (dsS d xs)[2]? = some (sumI (dsE d 2) xs) := by
  have h1 := codeD_ok h
  have hl := dbB_len h1.1; have hE := dbB_ent h1.1
  have hd : 0 ≤ d ∧ d ≤ 100000 := by have := h1.2; unfold dateB at this; simpa using this
  have b1 := cs_bd hE d; have b2 := cs_bd hE (d - 1); have b3 := ds_bd2 hE d 1; have b4 := ds_bd2 hE d 2
  refine ⟨h1.1, hl, hd.1, hd.2, cs_d d, fun e => by subst e; exact cs_0 hE, fun e => codeD_0 h1.1 (by omega) (by omega), by omega, by omega, by omega, by omega, ds_get hE (by decide), ds_get hE (by decide)⟩
theorem add_all {xs : List Ent} {e : Ent} (h : addC xs e = 0) : dbB (addL xs e) = true ∧ (addL xs e).length = xs.length + 1 ∧ xs.length < 60 := by
  have h1 := add_ok h; exact ⟨add_db h, by rw [h1.2.2.2]; simp, h1.2.1⟩
theorem add_last {xs : List Ent} {e y : Ent} (h : addC xs e = 0) (hx : (addL xs e)[(addL xs e).length - 1]? = some y) : y = e := by
  rw [(add_ok h).2.2.2, List.length_append, List.length_singleton, Nat.add_sub_cancel, List.getElem?_append_right (Nat.le_refl _), Nat.sub_self] at hx
  simpa using hx.symm
theorem cl_if (xs : List Ent) : (if dbB xs then clL xs else []).length ≤ xs.length := by
  split
  · exact clL_len xs
  · exact Nat.zero_le _
theorem ds_el {xs : List Ent} {d x y : Int} {k : Nat} (h : codeD xs d = 0) (hk : (dsS d xs)[k]? = some y) (hx : (if codeD xs d = 0 then dsS d xs else [])[k]? = some x) : x = y := by
  rw [if_pos h, hk] at hx; exact (Option.some.inj hx).symm

set_option maxHeartbeats 8000000 in
set_option maxRecDepth 16000 in
theorem c_laws_FnEntries (w0 : World) (v_code : Value) (code : List UInt8) {S_code : Nat → Prop} (h_code : Rds shU8 S_code w0 v_code code) :
  Calls Try.prog 13 #[v_code] w0 (Ret w0 (fun v _ => v = .bool (true))) := by
 refine enter (N := 266) Try.func13 rfl rfl rfl ?_
 intro a0 ha0
 have hx0 := Ext.rfl' w0
 have hl_code := h_code.length_le
 refine wp_seq ?_
 refine wp_region_lit ?_
 refine wl_val ha0 rfl rfl rfl (op_assign ha0 rfl rfl) ?_
 intro a1 ha1; clear ha0 a0
 refine wpList_nil ?_
 refine then_n ?_
 refine wp_seq ?_
 refine wp_seq ?_
 refine wp_region_lit ?_
 refine wl_val ha1 rfl rfl rfl (op_move ha1 rfl rfl) ?_
 intro a2 ha2; clear ha1 a1
 refine wl_callR ha2 rfl rfl rfl (op_call ha2 rfl cb48 rfl) (c_laws_big _ v_code code (h_code.ext pos_shU8 hx0)) ?_
 rintro v3 w4 he5 rfl a6 ha6; clear ha2 a2
 have hx7 := hx0.trans' he5
 have hzhx7 := he5.size
 refine wpList_nil ?_
 refine then_n ?_
 rcases Bool.eq_false_or_eq_true (decide (4096 < code.length)) with c8 | c8
 ·
  rw [c8] at ha6
  refine cond_t ha6 rfl ?_
  refine wp_seq ?_
  refine wp_region_lit ?_
  refine wl_val ha6 rfl rfl rfl (op_assign ha6 rfl rfl) ?_
  intro a9 ha9; clear ha6 a6
  refine wpList_nil ?_
  refine then_n ?_
  refine wp_ret ?_
  refine then_r ?_
  refine ret1 ha9 rfl rfl ?_
  clear ha9 a9
  exact ret_mk hx7 (congrArg Value.bool (by first | rfl | (simp at c8; done) | (rw [hwa] at *; omega) | (rw [hwb] at *; omega) | (rw [decide_eq_true_eq, hcv0]; have hd6 := hd6; omega) | (rw [decide_eq_true_eq, hcv0, hcv1]; omega) | omega))
 ·
  rw [c8] at ha6
  refine cond_f ha6 rfl ?_
  refine wp_skip ?_
  refine then_n ?_
  refine wp_seq ?_
  refine wp_region_lit ?_
  refine wl_val ha6 rfl rfl rfl (op_move ha6 rfl rfl) ?_
  intro a10 ha10; clear ha6 a6
  refine wl_callR ha10 rfl rfl rfl (op_call ha10 rfl cb49 rfl) (c_spec_DrawCashOf _ v_code code (h_code.ext pos_shU8 hx7)) ?_
  rintro v11 w12 he13 ⟨q14, q15, hq16, hq17, ⟨v18, rfl, ho19⟩⟩ a20 ha20; clear ha10 a10
  have hx21 := hx7.trans' he13
  have hzhx21 := he13.size
  refine wl_val ha20 rfl rfl rfl (op_move ha20 rfl rfl) ?_
  intro a22 ha22; clear ha20 a20
  refine wl_val ha22 rfl rfl rfl (op_extract ha22 rfl rfl rfl) ?_
  intro a23 ha23; clear ha22 a22
  refine wl_val ha23 rfl rfl rfl (op_extract ha23 rfl rfl rfl) ?_
  intro a24 ha24; clear ha23 a23
  refine wl_val ha24 rfl rfl rfl (op_assign ha24 rfl rfl) ?_
  intro a25 ha25; clear ha24 a24
  refine wl_val ha25 rfl rfl rfl (op_assign ha25 rfl rfl) ?_
  intro a26 ha26; clear ha25 a25
  refine wpList_nil ?_
  refine then_n ?_
  refine wp_seq ?_
  refine wp_region_lit ?_
  refine wl_val ha26 rfl rfl rfl (op_move ha26 rfl rfl) ?_
  intro a27 ha27; clear ha26 a26
  refine wl_val ha27 rfl rfl rfl (op_move ha27 rfl rfl) ?_
  intro a28 ha28; clear ha27 a27
  refine wl_callR ha28 rfl rfl rfl (op_call ha28 rfl cb27 rfl) (c_impl_CashOf _ v18 ((q14)) (q15 : Int) (ho19.rds pos_shEnt) (by first | assumption | omega | (simp; done) | (simp; omega))) ?_
  rintro v29 w30 he31 rfl a32 ha32; clear ha28 a28
  have hx33 := hx21.trans' he31
  have hzhx33 := he31.size
  replace ho19 := ho19.ext he31
  refine wl_val ha32 rfl rfl rfl (op_move ha32 rfl rfl) ?_
  intro a34 ha34; clear ha32 a32
  refine wl_val ha34 rfl rfl rfl (op_extract ha34 rfl rfl rfl) ?_
  intro a35 ha35; clear ha34 a34
  refine wl_val ha35 rfl rfl rfl (op_extract ha35 rfl rfl rfl) ?_
  intro a36 ha36; clear ha35 a35
  refine wl_val ha36 rfl rfl rfl (op_assign ha36 rfl rfl) ?_
  intro a37 ha37; clear ha36 a36
  refine wl_val ha37 rfl rfl rfl (op_assign ha37 rfl rfl) ?_
  intro a38 ha38; clear ha37 a37
  refine wpList_nil ?_
  refine then_n ?_
  refine wp_seq ?_
  refine wp_region_lit ?_
  refine wl_val ha38 rfl rfl rfl (op_move ha38 rfl rfl) ?_
  intro a39 ha39; clear ha38 a38
  refine wl_val ha39 rfl rfl rfl (op_move ha39 rfl rfl) ?_
  intro a40 ha40; clear ha39 a39
  refine wl_callR ha40 rfl rfl rfl (op_call ha40 rfl cb26 rfl) (c_spec_CashOf _ v18 ((q14)) (q15 : Int) (ho19.rds pos_shEnt) (by first | assumption | omega | (simp; done) | (simp; omega))) ?_
  rintro v41 w42 he43 rfl a44 ha44; clear ha40 a40
  have hx45 := hx33.trans' he43
  have hzhx45 := he43.size
  replace ho19 := ho19.ext he43
  refine wl_val ha44 rfl rfl rfl (op_move ha44 rfl rfl) ?_
  intro a46 ha46; clear ha44 a44
  refine wl_val ha46 rfl rfl rfl (op_extract ha46 rfl rfl rfl) ?_
  intro a47 ha47; clear ha46 a46
  refine wl_val ha47 rfl rfl rfl (op_extract ha47 rfl rfl rfl) ?_
  intro a48 ha48; clear ha47 a47
  refine wl_val ha48 rfl rfl rfl (op_assign ha48 rfl rfl) ?_
  intro a49 ha49; clear ha48 a48
  refine wl_val ha49 rfl rfl rfl (op_assign ha49 rfl rfl) ?_
  intro a50 ha50; clear ha49 a49
  refine wpList_nil ?_
  refine then_n ?_
  refine wp_seq ?_
  refine wp_region_lit ?_
  refine wl_val ha50 rfl rfl rfl (op_move ha50 rfl rfl) ?_
  intro a51 ha51; clear ha50 a50
  refine wl_val ha51 rfl rfl rfl (op_move ha51 rfl rfl) ?_
  intro a52 ha52; clear ha51 a51
  refine wl_callR ha52 rfl rfl rfl (op_call ha52 rfl cb40 rfl) (c_impl_DaySums _ v18 ((q14)) (q15 : Int) (ho19.rds pos_shEnt) (by first | assumption | omega | (simp; done) | (simp; omega))) ?_
  rintro v53 w54 he55 ⟨v56, rfl, ho57⟩ a58 ha58; clear ha52 a52
  have hx59 := hx45.trans' he55
  have hzhx59 := he55.size
  replace ho19 := ho19.ext he55
  refine wl_val ha58 rfl rfl rfl (op_move ha58 rfl rfl) ?_
  intro a60 ha60; clear ha58 a58
  refine wl_val ha60 rfl rfl rfl (op_extract ha60 rfl rfl rfl) ?_
  intro a61 ha61; clear ha60 a60
  refine wl_val ha61 rfl rfl rfl (op_extract ha61 rfl rfl rfl) ?_
  intro a62 ha62; clear ha61 a61
  refine wl_val ha62 rfl rfl rfl (op_assign ha62 rfl rfl) ?_
  intro a63 ha63; clear ha62 a62
  refine wl_val ha63 rfl rfl rfl (op_assign ha63 rfl rfl) ?_
  intro a64 ha64; clear ha63 a63
  refine wpList_nil ?_
  refine then_n ?_
  refine wp_seq ?_
  refine wp_region_lit ?_
  refine wl_val ha64 rfl rfl rfl (op_move ha64 rfl rfl) ?_
  intro a65 ha65; clear ha64 a64
  refine wl_val ha65 rfl rfl rfl (op_move ha65 rfl rfl) ?_
  intro a66 ha66; clear ha65 a65
  refine wl_callR ha66 rfl rfl rfl (op_call ha66 rfl cb39 rfl) (c_spec_DaySums _ v18 ((q14)) (q15 : Int) (ho19.rds pos_shEnt) (by first | assumption | omega | (simp; done) | (simp; omega))) ?_
  rintro v67 w68 he69 ⟨v70, rfl, ho71⟩ a72 ha72; clear ha66 a66
  have hx73 := hx59.trans' he69
  have hzhx73 := he69.size
  replace ho19 := ho19.ext he69
  replace ho57 := ho57.ext he69
  refine wl_val ha72 rfl rfl rfl (op_move ha72 rfl rfl) ?_
  intro a74 ha74; clear ha72 a72
  refine wl_val ha74 rfl rfl rfl (op_extract ha74 rfl rfl rfl) ?_
  intro a75 ha75; clear ha74 a74
  refine wl_val ha75 rfl rfl rfl (op_extract ha75 rfl rfl rfl) ?_
  intro a76 ha76; clear ha75 a75
  refine wl_val ha76 rfl rfl rfl (op_assign ha76 rfl rfl) ?_
  intro a77 ha77; clear ha76 a76
  refine wl_val ha77 rfl rfl rfl (op_assign ha77 rfl rfl) ?_
  intro a78 ha78; clear ha77 a77
  refine wpList_nil ?_
  refine then_n ?_
  refine wp_seq ?_
  refine wp_region_lit ?_
  refine wl_val ha78 rfl rfl rfl (op_move ha78 rfl rfl) ?_
  intro a79 ha79; clear ha78 a78
  refine wl_callR ha79 rfl rfl rfl (op_call ha79 rfl cb25 rfl) (c_impl_LowestCash _ v18 ((q14)) (ho19.rds pos_shEnt) (by first | assumption | omega | (simp; done) | (simp; omega))) ?_
  rintro v80 w81 he82 rfl a83 ha83; clear ha79 a79
  have hx84 := hx73.trans' he82
  have hzhx84 := he82.size
  replace ho19 := ho19.ext he82
  replace ho57 := ho57.ext he82
  replace ho71 := ho71.ext he82
  refine wl_val ha83 rfl rfl rfl (op_move ha83 rfl rfl) ?_
  intro a85 ha85; clear ha83 a83
  refine wl_val ha85 rfl rfl rfl (op_extract ha85 rfl rfl rfl) ?_
  intro a86 ha86; clear ha85 a85
  refine wl_val ha86 rfl rfl rfl (op_extract ha86 rfl rfl rfl) ?_
  intro a87 ha87; clear ha86 a86
  refine wl_val ha87 rfl rfl rfl (op_extract ha87 rfl rfl rfl) ?_
  intro a88 ha88; clear ha87 a87
  refine wl_val ha88 rfl rfl rfl (op_assign ha88 rfl rfl) ?_
  intro a89 ha89; clear ha88 a88
  refine wl_val ha89 rfl rfl rfl (op_assign ha89 rfl rfl) ?_
  intro a90 ha90; clear ha89 a89
  refine wl_val ha90 rfl rfl rfl (op_assign ha90 rfl rfl) ?_
  intro a91 ha91; clear ha90 a90
  refine wpList_nil ?_
  refine then_n ?_
  refine wp_seq ?_
  refine wp_region_lit ?_
  refine wl_val ha91 rfl rfl rfl (op_move ha91 rfl rfl) ?_
  intro a92 ha92; clear ha91 a91
  refine wl_callR ha92 rfl rfl rfl (op_call ha92 rfl cb24 rfl) (c_spec_LowestCash _ v18 ((q14)) (ho19.rds pos_shEnt) (by first | assumption | omega | (simp; done) | (simp; omega))) ?_
  rintro v93 w94 he95 rfl a96 ha96; clear ha92 a92
  have hx97 := hx84.trans' he95
  have hzhx97 := he95.size
  replace ho19 := ho19.ext he95
  replace ho57 := ho57.ext he95
  replace ho71 := ho71.ext he95
  refine wl_val ha96 rfl rfl rfl (op_move ha96 rfl rfl) ?_
  intro a98 ha98; clear ha96 a96
  refine wl_val ha98 rfl rfl rfl (op_extract ha98 rfl rfl rfl) ?_
  intro a99 ha99; clear ha98 a98
  refine wl_val ha99 rfl rfl rfl (op_extract ha99 rfl rfl rfl) ?_
  intro a100 ha100; clear ha99 a99
  refine wl_val ha100 rfl rfl rfl (op_extract ha100 rfl rfl rfl) ?_
  intro a101 ha101; clear ha100 a100
  refine wl_val ha101 rfl rfl rfl (op_assign ha101 rfl rfl) ?_
  intro a102 ha102; clear ha101 a101
  refine wl_val ha102 rfl rfl rfl (op_assign ha102 rfl rfl) ?_
  intro a103 ha103; clear ha102 a102
  refine wl_val ha103 rfl rfl rfl (op_assign ha103 rfl rfl) ?_
  intro a104 ha104; clear ha103 a103
  refine wpList_nil ?_
  refine then_n ?_
  refine wp_seq ?_
  refine wp_region_lit ?_
  refine wl_val ha104 rfl rfl rfl (op_move ha104 rfl rfl) ?_
  intro a105 ha105; clear ha104 a104
  refine wl_callR ha105 rfl rfl rfl (op_call ha105 rfl cb50 rfl) (c_spec_DrawAddEntry _ v_code code (h_code.ext pos_shU8 hx97)) ?_
  rintro v106 w107 he108 ⟨q109, q110, hq111, hq112, hq113, hq114, hq115, ⟨v116, rfl, ho117⟩⟩ a118 ha118; clear ha105 a105
  have hx119 := hx97.trans' he108
  have hzhx119 := he108.size
  replace ho19 := ho19.ext he108
  replace ho57 := ho57.ext he108
  replace ho71 := ho71.ext he108
  refine wl_val ha118 rfl rfl rfl (op_move ha118 rfl rfl) ?_
  intro a120 ha120; clear ha118 a118
  refine wl_val ha120 rfl rfl rfl (op_extract ha120 rfl rfl rfl) ?_
  intro a121 ha121; clear ha120 a120
  refine wl_val ha121 rfl rfl rfl (op_extract ha121 rfl rfl rfl) ?_
  intro a122 ha122; clear ha121 a121
  refine wl_eff ha122 rfl rfl rfl (op_alloc' rfl ti41 rfl) ?_
  rintro _ w124 ⟨rfl, he125, hb126, hz127⟩ a128 ha128; clear ha122 a122
  have hx129 := hx119.trans' he125
  have hzhx129 := he125.size
  replace ho19 := ho19.ext he125
  replace ho57 := ho57.ext he125
  replace ho71 := ho71.ext he125
  replace ho117 := ho117.ext he125
  refine wl_val ha128 rfl rfl rfl (op_assign ha128 rfl rfl) ?_
  intro a130 ha130; clear ha128 a128
  refine wl_effS ha130 rfl rfl (op_storeAll' ha130 rfl ti41 rfl rfl hb126 rfl rfl (by simp [Value.oneCell']) rfl) ?_
  rintro w131 ⟨hb133, hst132, hz134⟩
  have hx135 := hx129.stp hst132 (by intro q hq; cases hq; exact (by omega))
  have hzhx135 := hst132.size
  replace ho19 := ho19.stp hst132 (by intro q hq; cases hq; omega)
  replace ho57 := ho57.stp hst132 (by intro q hq; cases hq; omega)
  replace ho71 := ho71.stp hst132 (by intro q hq; cases hq; omega)
  replace ho117 := ho117.stp hst132 (by intro q hq; cases hq; omega)
  clear hb126
  refine wpList_nil ?_
  refine then_n ?_
  refine wp_seq ?_
  refine wp_region_lit ?_
  refine wl_val ha130 rfl rfl rfl (op_move ha130 rfl rfl) ?_
  intro a136 ha136; clear ha130 a130
  refine wl_val ha136 rfl rfl rfl (op_loadS ha136 rfl Try.underlying41 ti41 rfl rfl hb133.cells) ?_
  intro a137 ha137; clear ha136 a136
  refine wl_callR ha137 rfl rfl rfl (op_call ha137 rfl cb31 rfl) (c_impl_AddEntry _ v116 ((q109)) ((q110)) (ho117.rds pos_shEnt) (by first | assumption | omega | (simp; done) | (simp; omega)) (by first | assumption | omega | (simp; done) | (simp; omega)) (by first | assumption | omega | (simp; done) | (simp; omega)) (by first | assumption | omega | (simp; done) | (simp; omega)) (by first | assumption | omega | (simp; done) | (simp; omega))) ?_
  rintro v138 w139 he140 ⟨v141, rfl, ho142⟩ a143 ha143; clear ha137 a137
  have hx144 := hx135.trans' he140
  have hzhx144 := he140.size
  replace ho19 := ho19.ext he140
  replace ho57 := ho57.ext he140
  replace ho71 := ho71.ext he140
  replace ho117 := ho117.ext he140
  replace hb133 := hb133.ext he140
  refine wl_val ha143 rfl rfl rfl (op_move ha143 rfl rfl) ?_
  intro a145 ha145; clear ha143 a143
  refine wl_val ha145 rfl rfl rfl (op_extract ha145 rfl rfl rfl) ?_
  intro a146 ha146; clear ha145 a145
  refine wl_val ha146 rfl rfl rfl (op_extract ha146 rfl rfl rfl) ?_
  intro a147 ha147; clear ha146 a146
  refine wl_val ha147 rfl rfl rfl (op_assign ha147 rfl rfl) ?_
  intro a148 ha148; clear ha147 a147
  refine wl_val ha148 rfl rfl rfl (op_assign ha148 rfl rfl) ?_
  intro a149 ha149; clear ha148 a148
  refine wpList_nil ?_
  refine then_n ?_
  refine wp_seq ?_
  refine wp_region_lit ?_
  refine wl_val ha149 rfl rfl rfl (op_move ha149 rfl rfl) ?_
  intro a150 ha150; clear ha149 a149
  refine wl_val ha150 rfl rfl rfl (op_loadS ha150 rfl Try.underlying41 ti41 rfl rfl hb133.cells) ?_
  intro a151 ha151; clear ha150 a150
  refine wl_callR ha151 rfl rfl rfl (op_call ha151 rfl cb29 rfl) (c_spec_AddEntry _ v116 ((q109)) ((q110)) (ho117.rds pos_shEnt) (by first | assumption | omega | (simp; done) | (simp; omega)) (by first | assumption | omega | (simp; done) | (simp; omega)) (by first | assumption | omega | (simp; done) | (simp; omega)) (by first | assumption | omega | (simp; done) | (simp; omega)) (by first | assumption | omega | (simp; done) | (simp; omega))) ?_
  rintro v152 w153 he154 ⟨v155, rfl, ho156⟩ a157 ha157; clear ha151 a151
  have hx158 := hx144.trans' he154
  have hzhx158 := he154.size
  replace ho19 := ho19.ext he154
  replace ho57 := ho57.ext he154
  replace ho71 := ho71.ext he154
  replace ho117 := ho117.ext he154
  replace hb133 := hb133.ext he154
  replace ho142 := ho142.ext he154
  refine wl_val ha157 rfl rfl rfl (op_move ha157 rfl rfl) ?_
  intro a159 ha159; clear ha157 a157
  refine wl_val ha159 rfl rfl rfl (op_extract ha159 rfl rfl rfl) ?_
  intro a160 ha160; clear ha159 a159
  refine wl_val ha160 rfl rfl rfl (op_extract ha160 rfl rfl rfl) ?_
  intro a161 ha161; clear ha160 a160
  refine wl_val ha161 rfl rfl rfl (op_assign ha161 rfl rfl) ?_
  intro a162 ha162; clear ha161 a161
  refine wl_val ha162 rfl rfl rfl (op_assign ha162 rfl rfl) ?_
  intro a163 ha163; clear ha162 a162
  refine wpList_nil ?_
  refine then_n ?_
  refine wp_seq ?_
  refine wp_region_lit ?_
  refine wl_val ha163 rfl rfl rfl (op_move ha163 rfl rfl) ?_
  intro a164 ha164; clear ha163 a163
  refine wl_callR ha164 rfl rfl rfl (op_call ha164 rfl cb35 rfl) (c_impl_ClosedDays _ v18 ((q14)) (ho19.rds pos_shEnt) (by first | assumption | omega | (simp; done) | (simp; omega))) ?_
  rintro v165 w166 he167 ⟨v168, rfl, ho169⟩ a170 ha170; clear ha164 a164
  have hx171 := hx158.trans' he167
  have hzhx171 := he167.size
  replace ho19 := ho19.ext he167
  replace ho57 := ho57.ext he167
  replace ho71 := ho71.ext he167
  replace ho117 := ho117.ext he167
  replace hb133 := hb133.ext he167
  replace ho142 := ho142.ext he167
  replace ho156 := ho156.ext he167
  refine wl_val ha170 rfl rfl rfl (op_move ha170 rfl rfl) ?_
  intro a172 ha172; clear ha170 a170
  refine wl_val ha172 rfl rfl rfl (op_extract ha172 rfl rfl rfl) ?_
  intro a173 ha173; clear ha172 a172
  refine wl_val ha173 rfl rfl rfl (op_extract ha173 rfl rfl rfl) ?_
  intro a174 ha174; clear ha173 a173
  refine wl_val ha174 rfl rfl rfl (op_assign ha174 rfl rfl) ?_
  intro a175 ha175; clear ha174 a174
  refine wl_val ha175 rfl rfl rfl (op_assign ha175 rfl rfl) ?_
  intro a176 ha176; clear ha175 a175
  refine wpList_nil ?_
  refine then_n ?_
  refine wp_seq ?_
  refine wp_region_lit ?_
  refine wl_val ha176 rfl rfl rfl (op_move ha176 rfl rfl) ?_
  intro a177 ha177; clear ha176 a176
  refine wl_callR ha177 rfl rfl rfl (op_call ha177 rfl cb34 rfl) (c_spec_ClosedDays _ v18 ((q14)) (ho19.rds pos_shEnt) (by first | assumption | omega | (simp; done) | (simp; omega))) ?_
  rintro v178 w179 he180 ⟨v181, rfl, ho182⟩ a183 ha183; clear ha177 a177
  have hx184 := hx171.trans' he180
  have hzhx184 := he180.size
  replace ho19 := ho19.ext he180
  replace ho57 := ho57.ext he180
  replace ho71 := ho71.ext he180
  replace ho117 := ho117.ext he180
  replace hb133 := hb133.ext he180
  replace ho142 := ho142.ext he180
  replace ho156 := ho156.ext he180
  replace ho169 := ho169.ext he180
  refine wl_val ha183 rfl rfl rfl (op_move ha183 rfl rfl) ?_
  intro a185 ha185; clear ha183 a183
  refine wl_val ha185 rfl rfl rfl (op_extract ha185 rfl rfl rfl) ?_
  intro a186 ha186; clear ha185 a185
  refine wl_val ha186 rfl rfl rfl (op_extract ha186 rfl rfl rfl) ?_
  intro a187 ha187; clear ha186 a186
  refine wl_val ha187 rfl rfl rfl (op_assign ha187 rfl rfl) ?_
  intro a188 ha188; clear ha187 a187
  refine wl_val ha188 rfl rfl rfl (op_assign ha188 rfl rfl) ?_
  intro a189 ha189; clear ha188 a188
  refine wpList_nil ?_
  refine then_n ?_
  refine wp_seq ?_
  refine wp_seq ?_
  refine wp_region_lit ?_
  refine wl_val ha189 rfl rfl rfl (op_move ha189 rfl rfl) ?_
  intro a190 ha190; clear ha189 a189
  refine wl_val ha190 rfl rfl rfl (op_move ha190 rfl rfl) ?_
  intro a191 ha191; clear ha190 a190
  refine wl_val ha191 rfl rfl rfl ((op_neq ha191 rfl rfl rfl).to (congrArg Value.bool decide_not)) ?_
  intro a192 ha192; clear ha191 a191
  refine wl_val ha192 rfl rfl rfl (op_move ha192 rfl rfl) ?_
  intro a193 ha193; clear ha192 a192
  by_cases c194 : (codeD ((q14)) (q15 : Int) : Int) = (codeD ((q14)) (q15 : Int) : Int)
  ·
   rw [decide_eq_true c194] at ha193
   refine wl_val ha193 rfl rfl rfl (op_move ha193 rfl rfl) ?_
   intro a195 ha195; clear ha193 a193
   refine wl_val ha195 rfl rfl rfl (op_move ha195 rfl rfl) ?_
   intro a196 ha196; clear ha195 a195
   refine wl_val ha196 rfl rfl rfl ((op_neq ha196 rfl rfl rfl).to (congrArg Value.bool decide_not)) ?_
   intro a197 ha197; clear ha196 a196
   refine wl_val ha197 rfl rfl rfl (op_pick_f ha197 rfl rfl rfl) ?_
   intro a198 ha198; clear ha197 a197
   refine wl_val ha198 rfl rfl rfl (op_move ha198 rfl rfl) ?_
   intro a199 ha199; clear ha198 a198
   by_cases c200 : (if codeD ((q14)) (q15 : Int) = 0 then sumI (csE (q15 : Int)) ((q14)) else 0 : Int) = (if codeD ((q14)) (q15 : Int) = 0 then sumI (csE (q15 : Int)) ((q14)) else 0 : Int)
   ·
    rw [decide_eq_true c200] at ha199
    refine wl_val ha199 rfl rfl rfl (op_move ha199 rfl rfl) ?_
    intro a201 ha201; clear ha199 a199
    refine wl_val ha201 rfl rfl rfl (op_move ha201 rfl rfl) ?_
    intro a202 ha202; clear ha201 a201
    refine wl_val ha202 rfl rfl rfl ((op_neq ha202 rfl rfl rfl).to (congrArg Value.bool decide_not)) ?_
    intro a203 ha203; clear ha202 a202
    refine wl_val ha203 rfl rfl rfl (op_pick_f ha203 rfl rfl rfl) ?_
    intro a204 ha204; clear ha203 a203
    refine wl_val ha204 rfl rfl rfl (op_move ha204 rfl rfl) ?_
    intro a205 ha205; clear ha204 a204
    rw [decide_eq_true c194] at ha205
    refine wl_val ha205 rfl rfl rfl (op_move ha205 rfl rfl) ?_
    intro a206 ha206; clear ha205 a205
    refine wl_val ha206 rfl rfl rfl (op_move ha206 rfl rfl) ?_
    intro a207 ha207; clear ha206 a206
    refine wl_callR ha207 rfl rfl rfl (op_call ha207 rfl cb51 rfl) (c_laws_likeInts _ v56 ((if codeD ((q14)) (q15 : Int) = 0 then dsS (q15 : Int) ((q14)) else [])) v70 ((if codeD ((q14)) (q15 : Int) = 0 then dsS (q15 : Int) ((q14)) else [])) (ho57.rds pos_shI64) (ho71.rds pos_shI64)) ?_
    rintro v208 w209 he210 rfl a211 ha211; clear ha207 a207
    have hx212 := hx184.trans' he210
    have hzhx212 := he210.size
    replace ho19 := ho19.ext he210
    replace ho57 := ho57.ext he210
    replace ho71 := ho71.ext he210
    replace ho117 := ho117.ext he210
    replace hb133 := hb133.ext he210
    replace ho142 := ho142.ext he210
    replace ho156 := ho156.ext he210
    replace ho169 := ho169.ext he210
    replace ho182 := ho182.ext he210
    refine wl_val ha211 rfl rfl rfl (op_not ha211 rfl rfl) ?_
    intro a213 ha213; clear ha211 a211
    refine wl_val ha213 rfl rfl rfl (op_pick_f ha213 rfl rfl rfl) ?_
    intro a214 ha214; clear ha213 a213
    refine wl_val ha214 rfl rfl rfl (op_move ha214 rfl rfl) ?_
    intro a215 ha215; clear ha214 a214
    rcases Bool.eq_false_or_eq_true (eqL ((if codeD ((q14)) (q15 : Int) = 0 then dsS (q15 : Int) ((q14)) else [])) ((if codeD ((q14)) (q15 : Int) = 0 then dsS (q15 : Int) ((q14)) else []))) with c216 | c216
    ·
     rw [c216] at ha215
     refine wl_val ha215 rfl rfl rfl (op_move ha215 rfl rfl) ?_
     intro a217 ha217; clear ha215 a215
     refine wl_val ha217 rfl rfl rfl (op_move ha217 rfl rfl) ?_
     intro a218 ha218; clear ha217 a217
     refine wl_val ha218 rfl rfl rfl ((op_neq ha218 rfl rfl rfl).to (congrArg Value.bool decide_not)) ?_
     intro a219 ha219; clear ha218 a218
     refine wl_val ha219 rfl rfl rfl (op_pick_f ha219 rfl rfl rfl) ?_
     intro a220 ha220; clear ha219 a219
     refine wl_val ha220 rfl rfl rfl (op_move ha220 rfl rfl) ?_
     intro a221 ha221; clear ha220 a220
     by_cases c222 : (if dbB ((q14)) then 0 else 1 : Int) = (if dbB ((q14)) then 0 else 1 : Int)
     ·
      rw [decide_eq_true c222] at ha221
      refine wl_val ha221 rfl rfl rfl (op_move ha221 rfl rfl) ?_
      intro a223 ha223; clear ha221 a221
      refine wl_val ha223 rfl rfl rfl (op_move ha223 rfl rfl) ?_
      intro a224 ha224; clear ha223 a223
      refine wl_val ha224 rfl rfl rfl ((op_neq ha224 rfl rfl rfl).to (congrArg Value.bool decide_not)) ?_
      intro a225 ha225; clear ha224 a224
      refine wl_val ha225 rfl rfl rfl (op_pick_f ha225 rfl rfl rfl) ?_
      intro a226 ha226; clear ha225 a225
      refine wl_val ha226 rfl rfl rfl (op_move ha226 rfl rfl) ?_
      intro a227 ha227; clear ha226 a226
      by_cases c228 : (if dbB ((q14)) then (lwS ((q14))).1 else 0 : Int) = (if dbB ((q14)) then (lwS ((q14))).1 else 0 : Int)
      ·
       rw [decide_eq_true c228] at ha227
       refine wl_val ha227 rfl rfl rfl (op_move ha227 rfl rfl) ?_
       intro a229 ha229; clear ha227 a227
       refine wl_val ha229 rfl rfl rfl (op_move ha229 rfl rfl) ?_
       intro a230 ha230; clear ha229 a229
       refine wl_val ha230 rfl rfl rfl ((op_neq ha230 rfl rfl rfl).to (congrArg Value.bool decide_not)) ?_
       intro a231 ha231; clear ha230 a230
       refine wl_val ha231 rfl rfl rfl (op_pick_f ha231 rfl rfl rfl) ?_
       intro a232 ha232; clear ha231 a231
       refine wl_val ha232 rfl rfl rfl (op_move ha232 rfl rfl) ?_
       intro a233 ha233; clear ha232 a232
       by_cases c234 : (if dbB ((q14)) then (lwS ((q14))).2 else 0 : Int) = (if dbB ((q14)) then (lwS ((q14))).2 else 0 : Int)
       ·
        rw [decide_eq_true c234] at ha233
        refine wl_val ha233 rfl rfl rfl (op_move ha233 rfl rfl) ?_
        intro a235 ha235; clear ha233 a233
        refine wl_val ha235 rfl rfl rfl (op_move ha235 rfl rfl) ?_
        intro a236 ha236; clear ha235 a235
        refine wl_val ha236 rfl rfl rfl ((op_neq ha236 rfl rfl rfl).to (congrArg Value.bool decide_not)) ?_
        intro a237 ha237; clear ha236 a236
        refine wl_val ha237 rfl rfl rfl (op_pick_f ha237 rfl rfl rfl) ?_
        intro a238 ha238; clear ha237 a237
        refine wl_val ha238 rfl rfl rfl (op_move ha238 rfl rfl) ?_
        intro a239 ha239; clear ha238 a238
        by_cases c240 : (addC ((q109)) ((q110)) : Int) = (addC ((q109)) ((q110)) : Int)
        ·
         rw [decide_eq_true c240] at ha239
         refine wl_val ha239 rfl rfl rfl (op_move ha239 rfl rfl) ?_
         intro a241 ha241; clear ha239 a239
         refine wl_val ha241 rfl rfl rfl (op_move ha241 rfl rfl) ?_
         intro a242 ha242; clear ha241 a241
         refine wl_callR ha242 rfl rfl rfl (op_call ha242 rfl cb52 rfl) (c_laws_likeEntries _ v141 ((addL ((q109)) ((q110)))) v155 ((addL ((q109)) ((q110)))) (ho142.rds pos_shEnt) (ho156.rds pos_shEnt)) ?_
         rintro v243 w244 he245 rfl a246 ha246; clear ha242 a242
         have hx247 := hx212.trans' he245
         have hzhx247 := he245.size
         replace ho19 := ho19.ext he245
         replace ho57 := ho57.ext he245
         replace ho71 := ho71.ext he245
         replace ho117 := ho117.ext he245
         replace hb133 := hb133.ext he245
         replace ho142 := ho142.ext he245
         replace ho156 := ho156.ext he245
         replace ho169 := ho169.ext he245
         replace ho182 := ho182.ext he245
         refine wl_val ha246 rfl rfl rfl (op_not ha246 rfl rfl) ?_
         intro a248 ha248; clear ha246 a246
         refine wl_val ha248 rfl rfl rfl (op_pick_f ha248 rfl rfl rfl) ?_
         intro a249 ha249; clear ha248 a248
         refine wl_val ha249 rfl rfl rfl (op_move ha249 rfl rfl) ?_
         intro a250 ha250; clear ha249 a249
         rcases Bool.eq_false_or_eq_true (eqL ((addL ((q109)) ((q110)))) ((addL ((q109)) ((q110))))) with c251 | c251
         ·
          rw [c251] at ha250
          refine wl_val ha250 rfl rfl rfl (op_move ha250 rfl rfl) ?_
          intro a252 ha252; clear ha250 a250
          refine wl_val ha252 rfl rfl rfl (op_move ha252 rfl rfl) ?_
          intro a253 ha253; clear ha252 a252
          refine wl_val ha253 rfl rfl rfl ((op_neq ha253 rfl rfl rfl).to (congrArg Value.bool decide_not)) ?_
          intro a254 ha254; clear ha253 a253
          refine wl_val ha254 rfl rfl rfl (op_pick_f ha254 rfl rfl rfl) ?_
          intro a255 ha255; clear ha254 a254
          refine wl_val ha255 rfl rfl rfl (op_move ha255 rfl rfl) ?_
          intro a256 ha256; clear ha255 a255
          rw [decide_eq_true c222] at ha256
          refine wl_val ha256 rfl rfl rfl (op_move ha256 rfl rfl) ?_
          intro a257 ha257; clear ha256 a256
          refine wl_val ha257 rfl rfl rfl (op_move ha257 rfl rfl) ?_
          intro a258 ha258; clear ha257 a257
          refine wl_callR ha258 rfl rfl rfl (op_call ha258 rfl cb51 rfl) (c_laws_likeInts _ v168 ((if dbB ((q14)) then clL ((q14)) else [])) v181 ((if dbB ((q14)) then clL ((q14)) else [])) (ho169.rds pos_shI64) (ho182.rds pos_shI64)) ?_
          rintro v259 w260 he261 rfl a262 ha262; clear ha258 a258
          have hx263 := hx247.trans' he261
          have hzhx263 := he261.size
          replace ho19 := ho19.ext he261
          replace ho57 := ho57.ext he261
          replace ho71 := ho71.ext he261
          replace ho117 := ho117.ext he261
          replace hb133 := hb133.ext he261
          replace ho142 := ho142.ext he261
          replace ho156 := ho156.ext he261
          replace ho169 := ho169.ext he261
          replace ho182 := ho182.ext he261
          refine wl_val ha262 rfl rfl rfl (op_not ha262 rfl rfl) ?_
          intro a264 ha264; clear ha262 a262
          refine wl_val ha264 rfl rfl rfl (op_pick_f ha264 rfl rfl rfl) ?_
          intro a265 ha265; clear ha264 a264
          refine wl_val ha265 rfl rfl rfl (op_move ha265 rfl rfl) ?_
          intro a266 ha266; clear ha265 a265
          rcases Bool.eq_false_or_eq_true (eqL ((if dbB ((q14)) then clL ((q14)) else [])) ((if dbB ((q14)) then clL ((q14)) else []))) with c267 | c267
          ·
           rw [c267] at ha266
           refine wl_val ha266 rfl rfl rfl (op_move ha266 rfl rfl) ?_
           intro a268 ha268; clear ha266 a266
           refine wl_callR ha268 rfl rfl rfl (op_call ha268 rfl cb18 rfl) (c_impl_IsDayBook _ v18 ((q14)) (ho19.rds pos_shEnt) (by first | assumption | omega | (simp; done) | (simp; omega))) ?_
           rintro v269 w270 he271 rfl a272 ha272; clear ha268 a268
           have hx273 := hx263.trans' he271
           have hzhx273 := he271.size
           replace ho19 := ho19.ext he271
           replace ho57 := ho57.ext he271
           replace ho71 := ho71.ext he271
           replace ho117 := ho117.ext he271
           replace hb133 := hb133.ext he271
           replace ho142 := ho142.ext he271
           replace ho156 := ho156.ext he271
           replace ho169 := ho169.ext he271
           replace ho182 := ho182.ext he271
           refine wl_val ha272 rfl rfl rfl (op_move ha272 rfl rfl) ?_
           intro a274 ha274; clear ha272 a272
           refine wl_val ha274 rfl rfl rfl (op_eql ha274 rfl rfl rfl) ?_
           intro a275 ha275; clear ha274 a274
           refine wl_val ha275 rfl rfl rfl (op_bneq ha275 rfl Try.underlying4 rfl rfl) ?_
           intro a276 ha276; clear ha275 a275
           refine wl_val ha276 rfl rfl rfl (op_pick_f ha276 rfl rfl rfl) ?_
           intro a277 ha277; clear ha276 a276
           refine wl_val ha277 rfl rfl rfl (op_move ha277 rfl rfl) ?_
           intro a278 ha278; clear ha277 a277
           rcases Bool.eq_false_or_eq_true ((dbB ((q14)) == decide ((if dbB ((q14)) then 0 else 1 : Int) = (0 : Int)))) with c279 | c279
           ·
            rw [c279] at ha278
            refine wl_val ha278 rfl rfl rfl (op_move ha278 rfl rfl) ?_
            intro a280 ha280; clear ha278 a278
            refine wl_val ha280 rfl rfl rfl (op_move ha280 rfl rfl) ?_
            intro a281 ha281; clear ha280 a280
            refine wl_val ha281 rfl rfl rfl ((op_neq ha281 rfl rfl rfl).to (congrArg Value.bool decide_not)) ?_
            intro a282 ha282; clear ha281 a281
            refine wl_val ha282 rfl rfl rfl (op_pick_f ha282 rfl rfl rfl) ?_
            intro a283 ha283; clear ha282 a282
            refine wpList_nil ?_
            refine then_n ?_
            rw [decide_eq_true c194] at ha283
            refine cond_f ha283 rfl ?_
            refine wp_skip ?_
            refine then_n ?_
            refine seq_mid (fun fr wl => Sl 266 fr [(3, v18), (4, .int .i64 (q15 : Int)), (5, .int .i64 (if codeD ((q14)) (q15 : Int) = 0 then sumI (csE (q15 : Int)) ((q14)) else 0 : Int)), (6, .int .i64 (codeD ((q14)) (q15 : Int) : Int)), (9, v56), (13, .int .i64 (if dbB ((q14)) then (lwS ((q14))).1 else 0 : Int)), (14, .int .i64 (if dbB ((q14)) then (lwS ((q14))).2 else 0 : Int)), (15, .int .i64 (if dbB ((q14)) then 0 else 1 : Int)), (25, v168), (26, .int .i64 (if dbB ((q14)) then 0 else 1 : Int))] ∧ Ext w0 wl ∧ Own shEnt 41 w4.heap.size w4.heap.size w12.heap.size wl v18 ((q14)) ∧ Own shI64 2 w42.heap.size w42.heap.size w54.heap.size wl v56 ((if codeD ((q14)) (q15 : Int) = 0 then dsS (q15 : Int) ((q14)) else [])) ∧ Own shI64 2 w153.heap.size w153.heap.size w166.heap.size wl v168 ((if dbB ((q14)) then clL ((q14)) else [])) ∧ w270.heap.size ≤ wl.heap.size) ?_ ?_
            ·
             refine wp_seq ?_
             clear ho71 ho182
             refine dr_enter Ext follows_mixed ?_
             intro w289 he290
             have hx291 := hx273.trans' he290
             have hzhx291 := he290.size
             replace ho19 := ho19.ext he290
             replace ho57 := ho57.ext he290
             replace ho117 := ho117.ext he290
             replace hb133 := hb133.ext he290
             replace ho142 := ho142.ext he290
             replace ho156 := ho156.ext he290
             replace ho169 := ho169.ext he290
             have hs292 : Ext w289 w289 := Ext.rfl' _
             refine dr_val (i := 0) ha283 rfl (by kernel_rfl) (by kernel_rfl) (by kernel_rfl) rfl rfl rfl hs292 (fun w' hw' => op_move ha283 rfl rfl) ?_
             intro a293 ha293; clear ha283 a283
             refine dr_val (i := 1) ha293 rfl (by kernel_rfl) (by kernel_rfl) (by kernel_rfl) rfl rfl rfl hs292 (fun w' hw' => op_eql ha293 rfl rfl rfl) ?_
             intro a294 ha294; clear ha293 a293
             refine dr_val (i := 2) ha294 rfl (by kernel_rfl) (by kernel_rfl) (by kernel_rfl) rfl rfl rfl hs292 (fun w' hw' => op_move ha294 rfl rfl) ?_
             intro a295 ha295; clear ha294 a294
             by_cases c296 : (addC ((q109)) ((q110)) : Int) = (0 : Int)
             ·
              rw [decide_eq_true c296] at ha295
              obtain ⟨ha1, ha2, ha3⟩ := add_all c296
              refine dr_val (i := 3) ha295 rfl (by kernel_rfl) (by kernel_rfl) (by kernel_rfl) rfl rfl rfl hs292 (fun w' hw' => op_move ha295 rfl rfl) ?_
              intro a297 ha297; clear ha295 a295
              refine dr_one (i := 4) (by kernel_rfl) ?_
              refine po_callR ha297 rfl rfl rfl rfl (op_call ha297 rfl cb18 rfl) (c_impl_IsDayBook _ v141 ((addL ((q109)) ((q110)))) ((ho142.rds pos_shEnt).ext pos_shEnt hs292) (by first | assumption | omega | (simp; done) | (simp; omega))) ?_
              rintro v298 w299 he300 rfl a301 ha301; clear ha297 a297
              have hs302 := hs292.trans' he300
              have hx303 := hx291.trans' he300
              have hzhx303 := he300.size
              refine ⟨hs302, ?_⟩
              refine dr_val (i := 5) ha301 rfl (by kernel_rfl) (by kernel_rfl) (by kernel_rfl) rfl rfl rfl hs302 (fun w' hw' => op_not ha301 rfl rfl) ?_
              intro a304 ha304; clear ha301 a301
              refine dr_val (i := 6) ha304 rfl (by kernel_rfl) (by kernel_rfl) (by kernel_rfl) rfl rfl rfl hs302 (fun w' hw' => op_move ha304 rfl rfl) ?_
              intro a305 ha305; clear ha304 a304
              rcases Bool.eq_false_or_eq_true (dbB ((addL ((q109)) ((q110))))) with c306 | c306
              ·
               rw [c306] at ha305
               refine dr_val (i := 7) ha305 rfl (by kernel_rfl) (by kernel_rfl) (by kernel_rfl) rfl rfl rfl hs302 (fun w' hw' => op_move ha305 rfl rfl) ?_
               intro a307 ha307; clear ha305 a305
               refine dr_val (i := 8) ha307 rfl (by kernel_rfl) (by kernel_rfl) (by kernel_rfl) rfl rfl rfl hs302 (fun w' hw' => op_len_sl ha307 rfl Try.underlying25 rfl (ho142.rds pos_shEnt)) ?_
               intro a308 ha308; clear ha307 a307
               refine dr_val (i := 9) ha308 rfl (by kernel_rfl) (by kernel_rfl) (by kernel_rfl) rfl rfl rfl hs302 (fun w' hw' => op_move ha308 rfl rfl) ?_
               intro a309 ha309; clear ha308 a308
               refine dr_val (i := 10) ha309 rfl (by kernel_rfl) (by kernel_rfl) (by kernel_rfl) rfl rfl rfl hs302 (fun w' hw' => op_len_sl ha309 rfl Try.underlying25 rfl (ho117.rds pos_shEnt)) ?_
               intro a310 ha310; clear ha309 a309
               refine dr_val (i := 11) ha310 rfl (by kernel_rfl) (by kernel_rfl) (by kernel_rfl) rfl rfl rfl hs302 (fun w' hw' => (op_add ha310 rfl rfl rfl).int (IntWalk.i64_in _ (by omega))) ?_
               intro a311 ha311; clear ha310 a310
               refine dr_val (i := 12) ha311 rfl (by kernel_rfl) (by kernel_rfl) (by kernel_rfl) rfl rfl rfl hs302 (fun w' hw' => (op_neq ha311 rfl rfl rfl).to (congrArg Value.bool decide_not)) ?_
               intro a312 ha312; clear ha311 a311
               refine dr_val (i := 13) ha312 rfl (by kernel_rfl) (by kernel_rfl) (by kernel_rfl) rfl rfl rfl hs302 (fun w' hw' => op_pick_f ha312 rfl rfl rfl) ?_
               intro a313 ha313; clear ha312 a312
               refine dr_val (i := 14) ha313 rfl (by kernel_rfl) (by kernel_rfl) (by kernel_rfl) rfl rfl rfl hs302 (fun w' hw' => op_move ha313 rfl rfl) ?_
               intro a314 ha314; clear ha313 a313
               by_cases c315 : ((((addL ((q109)) ((q110)))).length : Nat) : Int) = (((((q109)).length : Nat) : Int) + (1 : Int))
               ·
                rw [decide_eq_true c315] at ha314
                refine dr_val (i := 15) ha314 rfl (by kernel_rfl) (by kernel_rfl) (by kernel_rfl) rfl rfl rfl hs302 (fun w' hw' => op_move ha314 rfl rfl) ?_
                intro a316 ha316; clear ha314 a314
                refine dr_val (i := 16) ha316 rfl (by kernel_rfl) (by kernel_rfl) (by kernel_rfl) rfl rfl rfl hs302 (fun w' hw' => op_move ha316 rfl rfl) ?_
                intro a317 ha317; clear ha316 a316
                refine dr_val (i := 17) ha317 rfl (by kernel_rfl) (by kernel_rfl) (by kernel_rfl) rfl rfl rfl hs302 (fun w' hw' => op_len_sl ha317 rfl Try.underlying25 rfl (ho156.rds pos_shEnt)) ?_
                intro a318 ha318; clear ha317 a317
                refine dr_val (i := 18) ha318 rfl (by kernel_rfl) (by kernel_rfl) (by kernel_rfl) rfl rfl rfl hs302 (fun w' hw' => (op_sub ha318 rfl rfl rfl).int (IntWalk.i64_in _ (by omega))) ?_
                intro a319 ha319; clear ha318 a318
                obtain ⟨x320, hx320⟩ := get_ex (xs := (addL ((q109)) ((q110)))) (j := (((addL ((q109)) ((q110)))).length - 1)) (by omega)
                obtain ⟨p321, c322, hi323, hc324, hr325, hs326⟩ := Rds.at_ (ho142.rds pos_shEnt) hx320
                obtain ⟨rfl, b327, b328, b329, b330⟩ := inv_shEnt hr325
                obtain ⟨_, _⟩ : _ ∧ _ := hs326
                have hae := add_last c296 hx320
                refine dr_val (i := 19) ha319 rfl (by kernel_rfl) (by kernel_rfl) (by kernel_rfl) rfl rfl rfl hs302 (fun w' hw' => op_indexAddr ha319 rfl Try.underlying25 ti41 rfl rfl (by omega) hi323) ?_
                intro a331 ha331; clear ha319 a319
                refine dr_val (i := 20) ha331 rfl (by kernel_rfl) (by kernel_rfl) (by kernel_rfl) rfl rfl rfl hs302 (fun w' hw' => op_loadS ha331 rfl Try.underlying41 ti41 rfl rfl (hc324.ext hw')) ?_
                intro a332 ha332; clear ha331 a331
                refine dr_val (i := 21) ha332 rfl (by kernel_rfl) (by kernel_rfl) (by kernel_rfl) rfl rfl rfl hs302 (fun w' hw' => op_loadS ha332 rfl Try.underlying41 ti41 rfl rfl (hb133.ext hw').cells) ?_
                intro a333 ha333; clear ha332 a332
                refine dr_val (i := 22) ha333 rfl (by kernel_rfl) (by kernel_rfl) (by kernel_rfl) rfl rfl rfl hs302 (fun w' hw' => (op_aneq ha333 rfl eg41 (aeq41 _ x320 ((q110))) rfl rfl)) ?_
                intro a334 ha334; clear ha333 a333
                refine dr_val (i := 23) ha334 rfl (by kernel_rfl) (by kernel_rfl) (by kernel_rfl) rfl rfl rfl hs302 (fun w' hw' => op_pick_f ha334 rfl rfl rfl) ?_
                intro a335 ha335; clear ha334 a334
                refine dr_val (i := 24) ha335 rfl (by kernel_rfl) (by kernel_rfl) (by kernel_rfl) rfl rfl rfl hs302 (fun w' hw' => op_pick_t ha335 rfl rfl rfl) ?_
                intro a336 ha336; clear ha335 a335
                refine dr_end (by kernel_rfl) ?_
                replace ho19 := ho19.ext hs302
                replace ho57 := ho57.ext hs302
                replace ho117 := ho117.ext hs302
                replace hb133 := hb133.ext hs302
                replace ho142 := ho142.ext hs302
                replace ho156 := ho156.ext hs302
                replace ho169 := ho169.ext hs302
                replace hc324 := hc324.ext hs302
                refine then_n ?_
                by_cases c337 : x320 = ((q110))
                ·
                 rw [decide_eq_true c337] at ha336
                 refine cond_f ha336 rfl ?_
                 refine wp_skip ?_
                 refine then_n ?_
                 refine ⟨(Sl.cons_ ha336 rfl rfl (Sl.cons_ ha336 rfl rfl (Sl.cons_ ha336 rfl rfl (Sl.cons_ ha336 rfl rfl (Sl.cons_ ha336 rfl rfl (Sl.cons_ ha336 rfl rfl (Sl.cons_ ha336 rfl rfl (Sl.cons_ ha336 rfl rfl (Sl.cons_ ha336 rfl rfl (Sl.cons_ ha336 rfl rfl (Sl.nil_ ha336))))))))))), hx303, ho19, ho57, ho169, (by omega)⟩
                ·
                 rw [decide_eq_false c337] at ha336
                 refine cond_t ha336 rfl ?_
                 refine wp_seq ?_
                 clear ho19 ho57 ho117 hb133 ho142 ho156 ho169 hc324
                 refine wp_region_lit ?_
                 refine wl_val ha336 rfl rfl rfl (op_assign ha336 rfl rfl) ?_
                 intro a338 ha338; clear ha336 a336
                 refine wpList_nil ?_
                 refine then_n ?_
                 refine wp_ret ?_
                 refine ret1 ha338 rfl rfl ?_
                 clear ha338 a338
                 exact ret_mk hx303 (congrArg Value.bool (by first | rfl | (exact absurd rfl c337) | (simp at c279; done) | (simp at c8; done) | (rw [hwa] at *; omega) | (rw [hwb] at *; omega) | (rw [decide_eq_true_eq, hcv0]; have hd6 := hd6; omega) | (rw [decide_eq_true_eq, hcv0, hcv1]; omega) | (exact absurd (hd7 (by omega)) c337) | (exact absurd hae c337) | (rw [ha1] at c337; cases c337) | (exact absurd (hd7 (by omega)) c8) | (exact absurd hae c8) | (rw [ha1] at c8; cases c8) | omega))
               ·
                rw [decide_eq_false c315] at ha314
                refine dr_skip (i := 15) ha314 rfl (by kernel_rfl) (by kernel_rfl) (by kernel_rfl) rfl rfl rfl hs302 ?_
                intro a339 ha339; clear ha314 a314
                refine dr_skip (i := 16) ha339 rfl (by kernel_rfl) (by kernel_rfl) (by kernel_rfl) rfl rfl rfl hs302 ?_
                intro a340 ha340; clear ha339 a339
                refine dr_skip (i := 17) ha340 rfl (by kernel_rfl) (by kernel_rfl) (by kernel_rfl) rfl rfl rfl hs302 ?_
                intro a341 ha341; clear ha340 a340
                refine dr_skip (i := 18) ha341 rfl (by kernel_rfl) (by kernel_rfl) (by kernel_rfl) rfl rfl rfl hs302 ?_
                intro a342 ha342; clear ha341 a341
                refine dr_skip (i := 19) ha342 rfl (by kernel_rfl) (by kernel_rfl) (by kernel_rfl) rfl rfl rfl hs302 ?_
                intro a343 ha343; clear ha342 a342
                refine dr_skip (i := 20) ha343 rfl (by kernel_rfl) (by kernel_rfl) (by kernel_rfl) rfl rfl rfl hs302 ?_
                intro a344 ha344; clear ha343 a343
                refine dr_skip (i := 21) ha344 rfl (by kernel_rfl) (by kernel_rfl) (by kernel_rfl) rfl rfl rfl hs302 ?_
                intro a345 ha345; clear ha344 a344
                refine dr_skip (i := 22) ha345 rfl (by kernel_rfl) (by kernel_rfl) (by kernel_rfl) rfl rfl rfl hs302 ?_
                intro a346 ha346; clear ha345 a345
                refine dr_val (i := 23) ha346 rfl (by kernel_rfl) (by kernel_rfl) (by kernel_rfl) rfl rfl rfl hs302 (fun w' hw' => op_pick_t ha346 rfl rfl rfl) ?_
                intro a347 ha347; clear ha346 a346
                refine dr_val (i := 24) ha347 rfl (by kernel_rfl) (by kernel_rfl) (by kernel_rfl) rfl rfl rfl hs302 (fun w' hw' => op_pick_t ha347 rfl rfl rfl) ?_
                intro a348 ha348; clear ha347 a347
                refine dr_end (by kernel_rfl) ?_
                replace ho19 := ho19.ext hs302
                replace ho57 := ho57.ext hs302
                replace ho117 := ho117.ext hs302
                replace hb133 := hb133.ext hs302
                replace ho142 := ho142.ext hs302
                replace ho156 := ho156.ext hs302
                replace ho169 := ho169.ext hs302
                refine then_n ?_
                refine cond_t ha348 rfl ?_
                refine wp_seq ?_
                clear ho19 ho57 ho117 hb133 ho142 ho156 ho169
                refine wp_region_lit ?_
                refine wl_val ha348 rfl rfl rfl (op_assign ha348 rfl rfl) ?_
                intro a349 ha349; clear ha348 a348
                refine wpList_nil ?_
                refine then_n ?_
                refine wp_ret ?_
                refine ret1 ha349 rfl rfl ?_
                clear ha349 a349
                exact ret_mk hx303 (congrArg Value.bool (by first | rfl | (exact absurd rfl c315) | (simp at c279; done) | (simp at c8; done) | (rw [hwa] at *; omega) | (rw [hwb] at *; omega) | (rw [decide_eq_true_eq, hcv0]; have hd6 := hd6; omega) | (rw [decide_eq_true_eq, hcv0, hcv1]; omega) | (exact absurd (hd7 (by omega)) c315) | (exact absurd hae c315) | (rw [ha1] at c315; cases c315) | (exact absurd (hd7 (by omega)) c8) | (exact absurd hae c8) | (rw [ha1] at c8; cases c8) | omega))
              ·
               rw [c306] at ha305
               refine dr_skip (i := 7) ha305 rfl (by kernel_rfl) (by kernel_rfl) (by kernel_rfl) rfl rfl rfl hs302 ?_
               intro a350 ha350; clear ha305 a305
               refine dr_skip (i := 8) ha350 rfl (by kernel_rfl) (by kernel_rfl) (by kernel_rfl) rfl rfl rfl hs302 ?_
               intro a351 ha351; clear ha350 a350
               refine dr_skip (i := 9) ha351 rfl (by kernel_rfl) (by kernel_rfl) (by kernel_rfl) rfl rfl rfl hs302 ?_
               intro a352 ha352; clear ha351 a351
               refine dr_skip (i := 10) ha352 rfl (by kernel_rfl) (by kernel_rfl) (by kernel_rfl) rfl rfl rfl hs302 ?_
               intro a353 ha353; clear ha352 a352
               refine dr_skip (i := 11) ha353 rfl (by kernel_rfl) (by kernel_rfl) (by kernel_rfl) rfl rfl rfl hs302 ?_
               intro a354 ha354; clear ha353 a353
               refine dr_skip (i := 12) ha354 rfl (by kernel_rfl) (by kernel_rfl) (by kernel_rfl) rfl rfl rfl hs302 ?_
               intro a355 ha355; clear ha354 a354
               refine dr_val (i := 13) ha355 rfl (by kernel_rfl) (by kernel_rfl) (by kernel_rfl) rfl rfl rfl hs302 (fun w' hw' => op_pick_t ha355 rfl rfl rfl) ?_
               intro a356 ha356; clear ha355 a355
               refine dr_val (i := 14) ha356 rfl (by kernel_rfl) (by kernel_rfl) (by kernel_rfl) rfl rfl rfl hs302 (fun w' hw' => op_move ha356 rfl rfl) ?_
               intro a357 ha357; clear ha356 a356
               refine dr_skip (i := 15) ha357 rfl (by kernel_rfl) (by kernel_rfl) (by kernel_rfl) rfl rfl rfl hs302 ?_
               intro a358 ha358; clear ha357 a357
               refine dr_skip (i := 16) ha358 rfl (by kernel_rfl) (by kernel_rfl) (by kernel_rfl) rfl rfl rfl hs302 ?_
               intro a359 ha359; clear ha358 a358
               refine dr_skip (i := 17) ha359 rfl (by kernel_rfl) (by kernel_rfl) (by kernel_rfl) rfl rfl rfl hs302 ?_
               intro a360 ha360; clear ha359 a359
               refine dr_skip (i := 18) ha360 rfl (by kernel_rfl) (by kernel_rfl) (by kernel_rfl) rfl rfl rfl hs302 ?_
               intro a361 ha361; clear ha360 a360
               refine dr_skip (i := 19) ha361 rfl (by kernel_rfl) (by kernel_rfl) (by kernel_rfl) rfl rfl rfl hs302 ?_
               intro a362 ha362; clear ha361 a361
               refine dr_skip (i := 20) ha362 rfl (by kernel_rfl) (by kernel_rfl) (by kernel_rfl) rfl rfl rfl hs302 ?_
               intro a363 ha363; clear ha362 a362
               refine dr_skip (i := 21) ha363 rfl (by kernel_rfl) (by kernel_rfl) (by kernel_rfl) rfl rfl rfl hs302 ?_
               intro a364 ha364; clear ha363 a363
               refine dr_skip (i := 22) ha364 rfl (by kernel_rfl) (by kernel_rfl) (by kernel_rfl) rfl rfl rfl hs302 ?_
               intro a365 ha365; clear ha364 a364
               refine dr_val (i := 23) ha365 rfl (by kernel_rfl) (by kernel_rfl) (by kernel_rfl) rfl rfl rfl hs302 (fun w' hw' => op_pick_t ha365 rfl rfl rfl) ?_
               intro a366 ha366; clear ha365 a365
               refine dr_val (i := 24) ha366 rfl (by kernel_rfl) (by kernel_rfl) (by kernel_rfl) rfl rfl rfl hs302 (fun w' hw' => op_pick_t ha366 rfl rfl rfl) ?_
               intro a367 ha367; clear ha366 a366
               refine dr_end (by kernel_rfl) ?_
               replace ho19 := ho19.ext hs302
               replace ho57 := ho57.ext hs302
               replace ho117 := ho117.ext hs302
               replace hb133 := hb133.ext hs302
               replace ho142 := ho142.ext hs302
               replace ho156 := ho156.ext hs302
               replace ho169 := ho169.ext hs302
               refine then_n ?_
               refine cond_t ha367 rfl ?_
               refine wp_seq ?_
               clear ho19 ho57 ho117 hb133 ho142 ho156 ho169
               refine wp_region_lit ?_
               refine wl_val ha367 rfl rfl rfl (op_assign ha367 rfl rfl) ?_
               intro a368 ha368; clear ha367 a367
               refine wpList_nil ?_
               refine then_n ?_
               refine wp_ret ?_
               refine ret1 ha368 rfl rfl ?_
               clear ha368 a368
               exact ret_mk hx303 (congrArg Value.bool (by first | rfl | (simp at c279; done) | (simp at c8; done) | (rw [hwa] at *; omega) | (rw [hwb] at *; omega) | (rw [decide_eq_true_eq, hcv0]; have hd6 := hd6; omega) | (rw [decide_eq_true_eq, hcv0, hcv1]; omega) | (exact absurd (hd7 (by omega)) c306) | (exact absurd hae c306) | (rw [ha1] at c306; cases c306) | (exact absurd (hd7 (by omega)) c8) | (exact absurd hae c8) | (rw [ha1] at c8; cases c8) | omega))
             ·
              rw [decide_eq_false c296] at ha295
              refine dr_skip (i := 3) ha295 rfl (by kernel_rfl) (by kernel_rfl) (by kernel_rfl) rfl rfl rfl hs292 ?_
              intro a369 ha369; clear ha295 a295
              refine dr_skip (i := 4) ha369 rfl (by kernel_rfl) (by kernel_rfl) (by kernel_rfl) rfl rfl rfl hs292 ?_
              intro a370 ha370; clear ha369 a369
              refine dr_skip (i := 5) ha370 rfl (by kernel_rfl) (by kernel_rfl) (by kernel_rfl) rfl rfl rfl hs292 ?_
              intro a371 ha371; clear ha370 a370
              refine dr_skip (i := 6) ha371 rfl (by kernel_rfl) (by kernel_rfl) (by kernel_rfl) rfl rfl rfl hs292 ?_
              intro a372 ha372; clear ha371 a371
              refine dr_skip (i := 7) ha372 rfl (by kernel_rfl) (by kernel_rfl) (by kernel_rfl) rfl rfl rfl hs292 ?_
              intro a373 ha373; clear ha372 a372
              refine dr_skip (i := 8) ha373 rfl (by kernel_rfl) (by kernel_rfl) (by kernel_rfl) rfl rfl rfl hs292 ?_
              intro a374 ha374; clear ha373 a373
              refine dr_skip (i := 9) ha374 rfl (by kernel_rfl) (by kernel_rfl) (by kernel_rfl) rfl rfl rfl hs292 ?_
              intro a375 ha375; clear ha374 a374
              refine dr_skip (i := 10) ha375 rfl (by kernel_rfl) (by kernel_rfl) (by kernel_rfl) rfl rfl rfl hs292 ?_
              intro a376 ha376; clear ha375 a375
              refine dr_skip (i := 11) ha376 rfl (by kernel_rfl) (by kernel_rfl) (by kernel_rfl) rfl rfl rfl hs292 ?_
              intro a377 ha377; clear ha376 a376
              refine dr_skip (i := 12) ha377 rfl (by kernel_rfl) (by kernel_rfl) (by kernel_rfl) rfl rfl rfl hs292 ?_
              intro a378 ha378; clear ha377 a377
              refine dr_skip (i := 13) ha378 rfl (by kernel_rfl) (by kernel_rfl) (by kernel_rfl) rfl rfl rfl hs292 ?_
              intro a379 ha379; clear ha378 a378
              refine dr_skip (i := 14) ha379 rfl (by kernel_rfl) (by kernel_rfl) (by kernel_rfl) rfl rfl rfl hs292 ?_
              intro a380 ha380; clear ha379 a379
              refine dr_skip (i := 15) ha380 rfl (by kernel_rfl) (by kernel_rfl) (by kernel_rfl) rfl rfl rfl hs292 ?_
              intro a381 ha381; clear ha380 a380
              refine dr_skip (i := 16) ha381 rfl (by kernel_rfl) (by kernel_rfl) (by kernel_rfl) rfl rfl rfl hs292 ?_
              intro a382 ha382; clear ha381 a381
              refine dr_skip (i := 17) ha382 rfl (by kernel_rfl) (by kernel_rfl) (by kernel_rfl) rfl rfl rfl hs292 ?_
              intro a383 ha383; clear ha382 a382
              refine dr_skip (i := 18) ha383 rfl (by kernel_rfl) (by kernel_rfl) (by kernel_rfl) rfl rfl rfl hs292 ?_
              intro a384 ha384; clear ha383 a383
              refine dr_skip (i := 19) ha384 rfl (by kernel_rfl) (by kernel_rfl) (by kernel_rfl) rfl rfl rfl hs292 ?_
              intro a385 ha385; clear ha384 a384
              refine dr_skip (i := 20) ha385 rfl (by kernel_rfl) (by kernel_rfl) (by kernel_rfl) rfl rfl rfl hs292 ?_
              intro a386 ha386; clear ha385 a385
              refine dr_skip (i := 21) ha386 rfl (by kernel_rfl) (by kernel_rfl) (by kernel_rfl) rfl rfl rfl hs292 ?_
              intro a387 ha387; clear ha386 a386
              refine dr_skip (i := 22) ha387 rfl (by kernel_rfl) (by kernel_rfl) (by kernel_rfl) rfl rfl rfl hs292 ?_
              intro a388 ha388; clear ha387 a387
              refine dr_skip (i := 23) ha388 rfl (by kernel_rfl) (by kernel_rfl) (by kernel_rfl) rfl rfl rfl hs292 ?_
              intro a389 ha389; clear ha388 a388
              refine dr_val (i := 24) ha389 rfl (by kernel_rfl) (by kernel_rfl) (by kernel_rfl) rfl rfl rfl hs292 (fun w' hw' => op_pick_f ha389 rfl rfl rfl) ?_
              intro a390 ha390; clear ha389 a389
              refine dr_end (by kernel_rfl) ?_
              replace ho19 := ho19.ext hs292
              replace ho57 := ho57.ext hs292
              replace ho117 := ho117.ext hs292
              replace hb133 := hb133.ext hs292
              replace ho142 := ho142.ext hs292
              replace ho156 := ho156.ext hs292
              replace ho169 := ho169.ext hs292
              refine then_n ?_
              refine cond_f ha390 rfl ?_
              refine wp_skip ?_
              refine then_n ?_
              refine ⟨(Sl.cons_ ha390 rfl rfl (Sl.cons_ ha390 rfl rfl (Sl.cons_ ha390 rfl rfl (Sl.cons_ ha390 rfl rfl (Sl.cons_ ha390 rfl rfl (Sl.cons_ ha390 rfl rfl (Sl.cons_ ha390 rfl rfl (Sl.cons_ ha390 rfl rfl (Sl.cons_ ha390 rfl rfl (Sl.cons_ ha390 rfl rfl (Sl.nil_ ha390))))))))))), hx291, ho19, ho57, ho169, (by omega)⟩
            ·
             clear ha283 a283
             rintro a391 w284 ⟨ha391, hx285, hf286, hf287, hf288, hzl392⟩
             have hzhx285 := hx285.size
             refine seq_mid (fun fr wl => Sl 266 fr [(3, v18), (4, .int .i64 (q15 : Int)), (5, .int .i64 (if codeD ((q14)) (q15 : Int) = 0 then sumI (csE (q15 : Int)) ((q14)) else 0 : Int)), (6, .int .i64 (codeD ((q14)) (q15 : Int) : Int)), (9, v56), (25, v168), (26, .int .i64 (if dbB ((q14)) then 0 else 1 : Int))] ∧ Ext w0 wl ∧ Own shEnt 41 w4.heap.size w4.heap.size w12.heap.size wl v18 ((q14)) ∧ Own shI64 2 w42.heap.size w42.heap.size w54.heap.size wl v56 ((if codeD ((q14)) (q15 : Int) = 0 then dsS (q15 : Int) ((q14)) else [])) ∧ Own shI64 2 w153.heap.size w153.heap.size w166.heap.size wl v168 ((if dbB ((q14)) then clL ((q14)) else [])) ∧ w284.heap.size ≤ wl.heap.size) ?_ ?_
             ·
              refine wp_seq ?_
              refine wp_region_lit ?_
              refine wl_val ha391 rfl rfl rfl (op_move ha391 rfl rfl) ?_
              intro a398 ha398; clear ha391 a391
              refine wl_val ha398 rfl rfl rfl (op_eql ha398 rfl rfl rfl) ?_
              intro a399 ha399; clear ha398 a398
              refine wl_val ha399 rfl rfl rfl (op_move ha399 rfl rfl) ?_
              intro a400 ha400; clear ha399 a399
              by_cases c401 : (if dbB ((q14)) then 0 else 1 : Int) = (0 : Int)
              ·
               rw [decide_eq_true c401] at ha400
               have hw0 := if01 c401
               have hw := lw_all q14
               have hwa : (if dbB q14 then (lwS q14).1 else 0) = (lwS q14).1 := if_pos hw0
               have hwb : (if dbB q14 then (lwS q14).2 else 0) = (lwS q14).2 := if_pos hw0
               refine wl_val ha400 rfl rfl rfl (op_move ha400 rfl rfl) ?_
               intro a402 ha402; clear ha400 a400
               refine wl_val ha402 rfl rfl rfl (op_gtr ha402 rfl rfl rfl) ?_
               intro a403 ha403; clear ha402 a402
               refine wl_val ha403 rfl rfl rfl (op_move ha403 rfl rfl) ?_
               intro a404 ha404; clear ha403 a403
               by_cases c405 : (0 : Int) < (if dbB ((q14)) then (lwS ((q14))).1 else 0 : Int)
               ·
                rw [decide_eq_true c405] at ha404
                refine wl_skip ha404 rfl rfl rfl ?_
                intro a406 ha406; clear ha404 a404
                refine wl_skip ha406 rfl rfl rfl ?_
                intro a407 ha407; clear ha406 a406
                refine wl_val ha407 rfl rfl rfl (op_pick_t ha407 rfl rfl rfl) ?_
                intro a408 ha408; clear ha407 a407
                refine wl_val ha408 rfl rfl rfl (op_move ha408 rfl rfl) ?_
                intro a409 ha409; clear ha408 a408
                refine wl_skip ha409 rfl rfl rfl ?_
                intro a410 ha410; clear ha409 a409
                refine wl_skip ha410 rfl rfl rfl ?_
                intro a411 ha411; clear ha410 a410
                refine wl_skip ha411 rfl rfl rfl ?_
                intro a412 ha412; clear ha411 a411
                refine wl_skip ha412 rfl rfl rfl ?_
                intro a413 ha413; clear ha412 a412
                refine wl_val ha413 rfl rfl rfl (op_pick_t ha413 rfl rfl rfl) ?_
                intro a414 ha414; clear ha413 a413
                refine wl_val ha414 rfl rfl rfl (op_pick_t ha414 rfl rfl rfl) ?_
                intro a415 ha415; clear ha414 a414
                refine wpList_nil ?_
                refine then_n ?_
                refine cond_t ha415 rfl ?_
                refine wp_seq ?_
                clear hf286 hf287 hf288
                refine wp_region_lit ?_
                refine wl_val ha415 rfl rfl rfl (op_assign ha415 rfl rfl) ?_
                intro a416 ha416; clear ha415 a415
                refine wpList_nil ?_
                refine then_n ?_
                refine wp_ret ?_
                refine ret1 ha416 rfl rfl ?_
                clear ha416 a416
                exact ret_mk hx285 (congrArg Value.bool (by first | rfl | (simp at c279; done) | (simp at c8; done) | (rw [hwa] at *; omega) | (rw [hwb] at *; omega) | (rw [decide_eq_true_eq, hcv0]; have hd6 := hd6; omega) | (rw [decide_eq_true_eq, hcv0, hcv1]; omega) | (exact absurd (hd7 (by omega)) c8) | (exact absurd hae c8) | (rw [ha1] at c8; cases c8) | omega))
               ·
                rw [decide_eq_false c405] at ha404
                refine wl_val ha404 rfl rfl rfl (op_move ha404 rfl rfl) ?_
                intro a417 ha417; clear ha404 a404
                refine wl_val ha417 rfl rfl rfl (op_lss ha417 rfl rfl rfl) ?_
                intro a418 ha418; clear ha417 a417
                refine wl_val ha418 rfl rfl rfl (op_pick_f ha418 rfl rfl rfl) ?_
                intro a419 ha419; clear ha418 a418
                refine wl_val ha419 rfl rfl rfl (op_move ha419 rfl rfl) ?_
                intro a420 ha420; clear ha419 a419
                by_cases c421 : (if dbB ((q14)) then (lwS ((q14))).2 else 0 : Int) < (0 : Int)
                ·
                 rw [decide_eq_true c421] at ha420
                 refine wl_skip ha420 rfl rfl rfl ?_
                 intro a422 ha422; clear ha420 a420
                 refine wl_skip ha422 rfl rfl rfl ?_
                 intro a423 ha423; clear ha422 a422
                 refine wl_skip ha423 rfl rfl rfl ?_
                 intro a424 ha424; clear ha423 a423
                 refine wl_skip ha424 rfl rfl rfl ?_
                 intro a425 ha425; clear ha424 a424
                 refine wl_val ha425 rfl rfl rfl (op_pick_t ha425 rfl rfl rfl) ?_
                 intro a426 ha426; clear ha425 a425
                 refine wl_val ha426 rfl rfl rfl (op_pick_t ha426 rfl rfl rfl) ?_
                 intro a427 ha427; clear ha426 a426
                 refine wpList_nil ?_
                 refine then_n ?_
                 refine cond_t ha427 rfl ?_
                 refine wp_seq ?_
                 clear hf286 hf287 hf288
                 refine wp_region_lit ?_
                 refine wl_val ha427 rfl rfl rfl (op_assign ha427 rfl rfl) ?_
                 intro a428 ha428; clear ha427 a427
                 refine wpList_nil ?_
                 refine then_n ?_
                 refine wp_ret ?_
                 refine ret1 ha428 rfl rfl ?_
                 clear ha428 a428
                 exact ret_mk hx285 (congrArg Value.bool (by first | rfl | (simp at c279; done) | (simp at c8; done) | (rw [hwa] at *; omega) | (rw [hwb] at *; omega) | (rw [decide_eq_true_eq, hcv0]; have hd6 := hd6; omega) | (rw [decide_eq_true_eq, hcv0, hcv1]; omega) | (exact absurd (hd7 (by omega)) c405) | (exact absurd hae c405) | (rw [ha1] at c405; cases c405) | (exact absurd (hd7 (by omega)) c8) | (exact absurd hae c8) | (rw [ha1] at c8; cases c8) | omega))
                ·
                 rw [decide_eq_false c421] at ha420
                 refine wl_val ha420 rfl rfl rfl (op_move ha420 rfl rfl) ?_
                 intro a429 ha429; clear ha420 a420
                 refine wl_val ha429 rfl rfl rfl (op_move ha429 rfl rfl) ?_
                 intro a430 ha430; clear ha429 a429
                 refine wl_val ha430 rfl rfl rfl (op_len_sl ha430 rfl Try.underlying25 rfl (hf286.rds pos_shEnt)) ?_
                 intro a431 ha431; clear ha430 a430
                 refine wl_val ha431 rfl rfl rfl (op_gtr ha431 rfl rfl rfl) ?_
                 intro a432 ha432; clear ha431 a431
                 refine wl_val ha432 rfl rfl rfl (op_pick_f ha432 rfl rfl rfl) ?_
                 intro a433 ha433; clear ha432 a432
                 refine wl_val ha433 rfl rfl rfl (op_pick_t ha433 rfl rfl rfl) ?_
                 intro a434 ha434; clear ha433 a433
                 refine wpList_nil ?_
                 refine then_n ?_
                 by_cases c435 : ((((q14)).length : Nat) : Int) < (if dbB ((q14)) then (lwS ((q14))).2 else 0 : Int)
                 ·
                  rw [decide_eq_true c435] at ha434
                  refine cond_t ha434 rfl ?_
                  refine wp_seq ?_
                  clear hf286 hf287 hf288
                  refine wp_region_lit ?_
                  refine wl_val ha434 rfl rfl rfl (op_assign ha434 rfl rfl) ?_
                  intro a436 ha436; clear ha434 a434
                  refine wpList_nil ?_
                  refine then_n ?_
                  refine wp_ret ?_
                  refine ret1 ha436 rfl rfl ?_
                  clear ha436 a436
                  exact ret_mk hx285 (congrArg Value.bool (by first | rfl | (simp at c279; done) | (simp at c8; done) | (rw [hwa] at *; omega) | (rw [hwb] at *; omega) | (rw [decide_eq_true_eq, hcv0]; have hd6 := hd6; omega) | (rw [decide_eq_true_eq, hcv0, hcv1]; omega) | (exact absurd (hd7 (by omega)) c421) | (exact absurd hae c421) | (rw [ha1] at c421; cases c421) | (exact absurd (hd7 (by omega)) c405) | (exact absurd hae c405) | (rw [ha1] at c405; cases c405) | (exact absurd (hd7 (by omega)) c8) | (exact absurd hae c8) | (rw [ha1] at c8; cases c8) | omega))
                 ·
                  rw [decide_eq_false c435] at ha434
                  refine cond_f ha434 rfl ?_
                  refine wp_skip ?_
                  refine then_n ?_
                  refine ⟨(Sl.cons_ ha434 rfl rfl (Sl.cons_ ha434 rfl rfl (Sl.cons_ ha434 rfl rfl (Sl.cons_ ha434 rfl rfl (Sl.cons_ ha434 rfl rfl (Sl.cons_ ha434 rfl rfl (Sl.cons_ ha434 rfl rfl (Sl.nil_ ha434)))))))), hx285, hf286, hf287, hf288, (by omega)⟩
              ·
               rw [decide_eq_false c401] at ha400
               refine wl_skip ha400 rfl rfl rfl ?_
               intro a437 ha437; clear ha400 a400
               refine wl_skip ha437 rfl rfl rfl ?_
               intro a438 ha438; clear ha437 a437
               refine wl_skip ha438 rfl rfl rfl ?_
               intro a439 ha439; clear ha438 a438
               refine wl_skip ha439 rfl rfl rfl ?_
               intro a440 ha440; clear ha439 a439
               refine wl_skip ha440 rfl rfl rfl ?_
               intro a441 ha441; clear ha440 a440
               refine wl_skip ha441 rfl rfl rfl ?_
               intro a442 ha442; clear ha441 a441
               refine wl_skip ha442 rfl rfl rfl ?_
               intro a443 ha443; clear ha442 a442
               refine wl_skip ha443 rfl rfl rfl ?_
               intro a444 ha444; clear ha443 a443
               refine wl_skip ha444 rfl rfl rfl ?_
               intro a445 ha445; clear ha444 a444
               refine wl_skip ha445 rfl rfl rfl ?_
               intro a446 ha446; clear ha445 a445
               refine wl_skip ha446 rfl rfl rfl ?_
               intro a447 ha447; clear ha446 a446
               refine wl_skip ha447 rfl rfl rfl ?_
               intro a448 ha448; clear ha447 a447
               refine wl_val ha448 rfl rfl rfl (op_pick_f ha448 rfl rfl rfl) ?_
               intro a449 ha449; clear ha448 a448
               refine wpList_nil ?_
               refine then_n ?_
               refine cond_f ha449 rfl ?_
               refine wp_skip ?_
               refine then_n ?_
               refine ⟨(Sl.cons_ ha449 rfl rfl (Sl.cons_ ha449 rfl rfl (Sl.cons_ ha449 rfl rfl (Sl.cons_ ha449 rfl rfl (Sl.cons_ ha449 rfl rfl (Sl.cons_ ha449 rfl rfl (Sl.cons_ ha449 rfl rfl (Sl.nil_ ha449)))))))), hx285, hf286, hf287, hf288, (by omega)⟩
             ·
              clear ha391 a391
              rintro a450 w393 ⟨ha450, hx394, hf395, hf396, hf397, hzl451⟩
              have hzhx394 := hx394.size
              refine wp_seq ?_
              refine wp_seq ?_
              refine wp_region_lit ?_
              refine wl_val ha450 rfl rfl rfl (op_assign ha450 rfl rfl) ?_
              intro a452 ha452; clear ha450 a450
              refine wpList_nil ?_
              refine then_n ?_
              refine wp_block ?_
              refine loop_inv (X := Nat) (fun (i : Nat) fr wl => Sl 266 fr [(3, v18), (4, .int .i64 (q15 : Int)), (5, .int .i64 (if codeD ((q14)) (q15 : Int) = 0 then sumI (csE (q15 : Int)) ((q14)) else 0 : Int)), (6, .int .i64 (codeD ((q14)) (q15 : Int) : Int)), (9, v56), (25, v168), (26, .int .i64 (if dbB ((q14)) then 0 else 1 : Int)), (29, .int .i64 ((i : Nat) : Int))] ∧ Ext w0 wl ∧ Own shEnt 41 w4.heap.size w4.heap.size w12.heap.size wl v18 ((q14)) ∧ Own shI64 2 w42.heap.size w42.heap.size w54.heap.size wl v56 ((if codeD ((q14)) (q15 : Int) = 0 then dsS (q15 : Int) ((q14)) else [])) ∧ Own shI64 2 w153.heap.size w153.heap.size w166.heap.size wl v168 ((if dbB ((q14)) then clL ((q14)) else [])) ∧ w393.heap.size ≤ wl.heap.size ∧ (1 ≤ i) ∧ (i ≤ (if dbB ((q14)) then clL ((q14)) else []).length + 1) ∧ ((if dbB ((q14)) then clL ((q14)) else []).length ≤ 61)) (fun (i : Nat) => (if dbB ((q14)) then clL ((q14)) else []).length + 1 - i) (1) ?_ ?_
              ·
               exact ⟨(Sl.cons_ ha452 rfl rfl (Sl.cons_ ha452 rfl rfl (Sl.cons_ ha452 rfl rfl (Sl.cons_ ha452 rfl rfl (Sl.cons_ ha452 rfl rfl (Sl.cons_ ha452 rfl rfl (Sl.cons_ ha452 rfl rfl (Sl.cons_ ha452 rfl (int_eq (by omega)) (Sl.nil_ ha452))))))))), hx394, hf395, hf396, hf397, (by omega), (by omega), (by omega), (by exact Nat.le_trans (cl_if _) (by omega))⟩
              ·
               clear ha452 a452
               rintro i a458 w453 ⟨ha458, hx454, hf455, hf456, hf457, hzl459, hi1, hi, hD⟩
               have hzhx454 := hx454.size
               refine wp_seq ?_
               refine wp_seq ?_
               refine wp_region_lit ?_
               refine wl_val ha458 rfl rfl rfl (op_move ha458 rfl rfl) ?_
               intro a460 ha460; clear ha458 a458
               refine wl_val ha460 rfl rfl rfl (op_eql ha460 rfl rfl rfl) ?_
               intro a461 ha461; clear ha460 a460
               refine wl_val ha461 rfl rfl rfl (op_move ha461 rfl rfl) ?_
               intro a462 ha462; clear ha461 a461
               by_cases c463 : (if dbB ((q14)) then 0 else 1 : Int) = (0 : Int)
               ·
                rw [decide_eq_true c463] at ha462
                have hw0 := if01 c463
                have hw := lw_all q14
                have hwa : (if dbB q14 then (lwS q14).1 else 0) = (lwS q14).1 := if_pos hw0
                have hwb : (if dbB q14 then (lwS q14).2 else 0) = (lwS q14).2 := if_pos hw0
                refine wl_val ha462 rfl rfl rfl (op_move ha462 rfl rfl) ?_
                intro a464 ha464; clear ha462 a462
                refine wl_val ha464 rfl rfl rfl (op_move ha464 rfl rfl) ?_
                intro a465 ha465; clear ha464 a464
                refine wl_val ha465 rfl rfl rfl (op_len_sl ha465 rfl Try.underlying45 rfl (hf457.rds pos_shI64)) ?_
                intro a466 ha466; clear ha465 a465
                refine wl_val ha466 rfl rfl rfl (op_lss ha466 rfl rfl rfl) ?_
                intro a467 ha467; clear ha466 a466
                refine wl_val ha467 rfl rfl rfl (op_pick_t ha467 rfl rfl rfl) ?_
                intro a468 ha468; clear ha467 a467
                refine wpList_nil ?_
                refine then_n ?_
                by_cases c469 : ((i : Nat) : Int) < ((((if dbB ((q14)) then clL ((q14)) else [])).length : Nat) : Int)
                ·
                 rw [decide_eq_true c469] at ha468
                 refine cond_t ha468 rfl ?_
                 refine wp_skip ?_
                 refine then_n ?_
                 refine wp_seq ?_
                 refine wp_block ?_
                 refine wp_seq ?_
                 refine dr_enter Ext follows_mixed ?_
                 intro w470 he471
                 have hx472 := hx454.trans' he471
                 have hzhx472 := he471.size
                 replace hf455 := hf455.ext he471
                 replace hf456 := hf456.ext he471
                 replace hf457 := hf457.ext he471
                 have hs473 : Ext w470 w470 := Ext.rfl' _
                 refine dr_val (i := 0) ha468 rfl (by kernel_rfl) (by kernel_rfl) (by kernel_rfl) rfl rfl rfl hs473 (fun w' hw' => op_move ha468 rfl rfl) ?_
                 intro a474 ha474; clear ha468 a468
                 refine dr_val (i := 1) ha474 rfl (by kernel_rfl) (by kernel_rfl) (by kernel_rfl) rfl rfl rfl hs473 (fun w' hw' => op_move ha474 rfl rfl) ?_
                 intro a475 ha475; clear ha474 a474
                 obtain ⟨x476, hx476⟩ := get_ex (xs := (if dbB ((q14)) then clL ((q14)) else [])) (j := i) (by omega)
                 obtain ⟨p477, c478, hi479, hc480, hr481, hs482⟩ := Rds.at_ (hf457.rds pos_shI64) hx476
                 obtain ⟨rfl, b483⟩ := inv_shI64 hr481
                 obtain ⟨_, _⟩ : _ ∧ _ := hs482
                 refine dr_val (i := 2) ha475 rfl (by kernel_rfl) (by kernel_rfl) (by kernel_rfl) rfl rfl rfl hs473 (fun w' hw' => op_indexAddr ha475 rfl Try.underlying45 ti2 rfl rfl (by omega) hi479) ?_
                 intro a484 ha484; clear ha475 a475
                 refine dr_val (i := 3) ha484 rfl (by kernel_rfl) (by kernel_rfl) (by kernel_rfl) rfl rfl rfl hs473 (fun w' hw' => op_loadH ha484 rfl Try.underlying2 rfl rfl (hc480.ext hw') rfl) ?_
                 intro a485 ha485; clear ha484 a484
                 refine dr_val (i := 4) ha485 rfl (by kernel_rfl) (by kernel_rfl) (by kernel_rfl) rfl rfl rfl hs473 (fun w' hw' => op_move ha485 rfl rfl) ?_
                 intro a486 ha486; clear ha485 a485
                 refine dr_val (i := 5) ha486 rfl (by kernel_rfl) (by kernel_rfl) (by kernel_rfl) rfl rfl rfl hs473 (fun w' hw' => op_move ha486 rfl rfl) ?_
                 intro a487 ha487; clear ha486 a486
                 refine dr_val (i := 6) ha487 rfl (by kernel_rfl) (by kernel_rfl) (by kernel_rfl) rfl rfl rfl hs473 (fun w' hw' => (op_sub ha487 rfl rfl rfl).int (IntWalk.i64_in _ (by omega))) ?_
                 intro a488 ha488; clear ha487 a487
                 obtain ⟨x489, hx489⟩ := get_ex (xs := (if dbB ((q14)) then clL ((q14)) else [])) (j := (i - 1)) (by omega)
                 obtain ⟨p490, c491, hi492, hc493, hr494, hs495⟩ := Rds.at_ (hf457.rds pos_shI64) hx489
                 obtain ⟨rfl, b496⟩ := inv_shI64 hr494
                 obtain ⟨_, _⟩ : _ ∧ _ := hs495
                 refine dr_val (i := 7) ha488 rfl (by kernel_rfl) (by kernel_rfl) (by kernel_rfl) rfl rfl rfl hs473 (fun w' hw' => op_indexAddr ha488 rfl Try.underlying45 ti2 rfl rfl (by omega) hi492) ?_
                 intro a497 ha497; clear ha488 a488
                 refine dr_val (i := 8) ha497 rfl (by kernel_rfl) (by kernel_rfl) (by kernel_rfl) rfl rfl rfl hs473 (fun w' hw' => op_loadH ha497 rfl Try.underlying2 rfl rfl (hc493.ext hw') rfl) ?_
                 intro a498 ha498; clear ha497 a497
                 refine dr_val (i := 9) ha498 rfl (by kernel_rfl) (by kernel_rfl) (by kernel_rfl) rfl rfl rfl hs473 (fun w' hw' => op_leq ha498 rfl rfl rfl) ?_
                 intro a499 ha499; clear ha498 a498
                 refine dr_end (by kernel_rfl) ?_
                 replace hf455 := hf455.ext hs473
                 replace hf456 := hf456.ext hs473
                 replace hf457 := hf457.ext hs473
                 replace hc480 := hc480.ext hs473
                 replace hc493 := hc493.ext hs473
                 refine then_n ?_
                 by_cases c500 : x476 ≤ x489
                 ·
                  rw [decide_eq_true c500] at ha499
                  refine cond_t ha499 rfl ?_
                  refine wp_seq ?_
                  clear hf455 hf456 hf457 hc480 hc493
                  refine wp_region_lit ?_
                  refine wl_val ha499 rfl rfl rfl (op_assign ha499 rfl rfl) ?_
                  intro a501 ha501; clear ha499 a499
                  refine wpList_nil ?_
                  refine then_n ?_
                  refine wp_ret ?_
                  refine block_r ?_
                  refine then_r ?_
                  refine then_r ?_
                  refine block_r ?_
                  refine then_r ?_
                  refine ret1 ha501 rfl rfl ?_
                  clear ha501 a501
                  exact ret_mk hx472 (congrArg Value.bool (by first | rfl | (simp at c279; done) | (simp at c8; done) | (rw [hwa] at *; omega) | (rw [hwb] at *; omega) | (rw [decide_eq_true_eq, hcv0]; have hd6 := hd6; omega) | (rw [decide_eq_true_eq, hcv0, hcv1]; omega) | (exact absurd (hd7 (by omega)) c8) | (exact absurd hae c8) | (rw [ha1] at c8; cases c8) | (exfalso; have h8 := cl_at hw0 (show i - 1 < i by omega) hx489 hx476; omega) | omega))
                 ·
                  rw [decide_eq_false c500] at ha499
                  refine cond_f ha499 rfl ?_
                  refine wp_skip ?_
                  refine block_n ?_
                  refine then_n ?_
                  clear hc480 hc493
                  refine wp_region_lit ?_
                  refine wl_val ha499 rfl rfl rfl (op_move ha499 rfl rfl) ?_
                  intro a502 ha502; clear ha499 a499
                  refine wl_val ha502 rfl rfl rfl ((op_add ha502 rfl rfl rfl).int (IntWalk.i64_in _ (by omega))) ?_
                  intro a503 ha503; clear ha502 a502
                  refine wl_val ha503 rfl rfl rfl (op_assign ha503 rfl rfl) ?_
                  intro a504 ha504; clear ha503 a503
                  refine wpList_nil ?_
                  refine round_end (x := i) ((i + 1)) ?_ ?_
                  ·
                   refine ⟨(Sl.cons_ ha504 rfl rfl (Sl.cons_ ha504 rfl rfl (Sl.cons_ ha504 rfl rfl (Sl.cons_ ha504 rfl rfl (Sl.cons_ ha504 rfl rfl (Sl.cons_ ha504 rfl rfl (Sl.cons_ ha504 rfl rfl (Sl.cons_ ha504 rfl (int_eq (by omega)) (Sl.nil_ ha504))))))))), hx472, hf455, hf456, hf457, (by omega), (by omega), (by omega), (by exact hD)⟩
                  ·show ((if dbB ((q14)) then clL ((q14)) else []).length + 1 - ((i + 1)) : Nat) < (if dbB ((q14)) then clL ((q14)) else []).length + 1 - i; omega
                ·
                 rw [decide_eq_false c469] at ha468
                 refine cond_f ha468 rfl ?_
                 refine wp_exit ?_
                 refine then_e ?_
                 refine then_e ?_
                 refine block_hit ?_
                 refine then_n ?_
                 refine wp_seq ?_
                 refine wp_seq ?_
                 clear hf457
                 refine wp_region_lit ?_
                 refine wl_val ha468 rfl rfl rfl (op_move ha468 rfl rfl) ?_
                 intro a505 ha505; clear ha468 a468
                 refine wl_val ha505 rfl rfl rfl ((op_neq ha505 rfl rfl rfl).to (congrArg Value.bool decide_not)) ?_
                 intro a506 ha506; clear ha505 a505
                 refine wpList_nil ?_
                 refine then_n ?_
                 by_cases c507 : (codeD ((q14)) (q15 : Int) : Int) = (0 : Int)
                 ·
                  rw [decide_eq_true c507] at ha506
                  have hcv0 : (if codeD q14 (q15 : Int) = 0 then sumI (csE (q15 : Int)) q14 else 0) = sumI (csE (q15 : Int)) q14 := if_pos c507
                  obtain ⟨hd1, hd2, hd3, hd4, hd5, hd6, hd7, hd8, hd9, hd10, hd11, hd12, hd13⟩ := day_all c507
                  have hdl : (if codeD q14 (q15 : Int) = 0 then dsS (q15 : Int) q14 else []).length = 3 := by rw [if_pos c507]; exact dsS_len _ _
                  refine cond_f ha506 rfl ?_
                  refine wp_skip ?_
                  refine then_n ?_
                  refine wp_seq ?_
                  refine wp_seq ?_
                  refine wp_region_lit ?_
                  refine wl_val ha506 rfl rfl rfl (op_move ha506 rfl rfl) ?_
                  intro a508 ha508; clear ha506 a506
                  refine wl_val ha508 rfl rfl rfl (op_eql ha508 rfl rfl rfl) ?_
                  intro a509 ha509; clear ha508 a508
                  refine wpList_nil ?_
                  refine then_n ?_
                  by_cases c510 : (q15 : Int) = (0 : Int)
                  ·
                   rw [decide_eq_true c510] at ha509
                   refine cond_t ha509 rfl ?_
                   refine wp_seq ?_
                   clear hf455
                   refine dr_enter Ext follows_mixed ?_
                   intro w511 he512
                   have hx513 := hx454.trans' he512
                   have hzhx513 := he512.size
                   replace hf456 := hf456.ext he512
                   have hs514 : Ext w511 w511 := Ext.rfl' _
                   refine dr_val (i := 0) ha509 rfl (by kernel_rfl) (by kernel_rfl) (by kernel_rfl) rfl rfl rfl hs514 (fun w' hw' => op_move ha509 rfl rfl) ?_
                   intro a515 ha515; clear ha509 a509
                   refine dr_val (i := 1) ha515 rfl (by kernel_rfl) (by kernel_rfl) (by kernel_rfl) rfl rfl rfl hs514 (fun w' hw' => op_move ha515 rfl rfl) ?_
                   intro a516 ha516; clear ha515 a515
                   obtain ⟨x517, hx517⟩ := get_ex (xs := (if codeD ((q14)) (q15 : Int) = 0 then dsS (q15 : Int) ((q14)) else [])) (j := 1) (by omega)
                   obtain ⟨p518, c519, hi520, hc521, hr522, hs523⟩ := Rds.at_ (hf456.rds pos_shI64) hx517
                   obtain ⟨rfl, b524⟩ := inv_shI64 hr522
                   obtain ⟨_, _⟩ : _ ∧ _ := hs523
                   have hdex517 := ds_el c507 hd12 hx517
                   refine dr_val (i := 2) ha516 rfl (by kernel_rfl) (by kernel_rfl) (by kernel_rfl) rfl rfl rfl hs514 (fun w' hw' => op_indexAddr ha516 rfl Try.underlying45 ti2 rfl rfl (by omega) hi520) ?_
                   intro a525 ha525; clear ha516 a516
                   refine dr_val (i := 3) ha525 rfl (by kernel_rfl) (by kernel_rfl) (by kernel_rfl) rfl rfl rfl hs514 (fun w' hw' => op_loadH ha525 rfl Try.underlying2 rfl rfl (hc521.ext hw') rfl) ?_
                   intro a526 ha526; clear ha525 a525
                   refine dr_val (i := 4) ha526 rfl (by kernel_rfl) (by kernel_rfl) (by kernel_rfl) rfl rfl rfl hs514 (fun w' hw' => op_move ha526 rfl rfl) ?_
                   intro a527 ha527; clear ha526 a526
                   obtain ⟨x528, hx528⟩ := get_ex (xs := (if codeD ((q14)) (q15 : Int) = 0 then dsS (q15 : Int) ((q14)) else [])) (j := 2) (by omega)
                   obtain ⟨p529, c530, hi531, hc532, hr533, hs534⟩ := Rds.at_ (hf456.rds pos_shI64) hx528
                   obtain ⟨rfl, b535⟩ := inv_shI64 hr533
                   obtain ⟨_, _⟩ : _ ∧ _ := hs534
                   have hdex528 := ds_el c507 hd13 hx528
                   refine dr_val (i := 5) ha527 rfl (by kernel_rfl) (by kernel_rfl) (by kernel_rfl) rfl rfl rfl hs514 (fun w' hw' => op_indexAddr ha527 rfl Try.underlying45 ti2 rfl rfl (by omega) hi531) ?_
                   intro a536 ha536; clear ha527 a527
                   refine dr_val (i := 6) ha536 rfl (by kernel_rfl) (by kernel_rfl) (by kernel_rfl) rfl rfl rfl hs514 (fun w' hw' => op_loadH ha536 rfl Try.underlying2 rfl rfl (hc532.ext hw') rfl) ?_
                   intro a537 ha537; clear ha536 a536
                   refine dr_val (i := 7) ha537 rfl (by kernel_rfl) (by kernel_rfl) (by kernel_rfl) rfl rfl rfl hs514 (fun w' hw' => (op_sub ha537 rfl rfl rfl).int (IntWalk.i64_in _ (by omega))) ?_
                   intro a538 ha538; clear ha537 a537
                   refine dr_val (i := 8) ha538 rfl (by kernel_rfl) (by kernel_rfl) (by kernel_rfl) rfl rfl rfl hs514 (fun w' hw' => op_eql ha538 rfl rfl rfl) ?_
                   intro a539 ha539; clear ha538 a538
                   refine dr_val (i := 9) ha539 rfl (by kernel_rfl) (by kernel_rfl) (by kernel_rfl) rfl rfl rfl hs514 (fun w' hw' => op_assign ha539 rfl rfl) ?_
                   intro a540 ha540; clear ha539 a539
                   refine dr_end (by kernel_rfl) ?_
                   replace hf456 := hf456.ext hs514
                   replace hc521 := hc521.ext hs514
                   replace hc532 := hc532.ext hs514
                   refine then_n ?_
                   refine wp_ret ?_
                   refine then_r ?_
                   refine ret1 ha540 rfl rfl ?_
                   clear ha540 a540
                   exact ret_mk hx513 (congrArg Value.bool (by first | rfl | (simp at c279; done) | (simp at c8; done) | (rw [hwa] at *; omega) | (rw [hwb] at *; omega) | (rw [decide_eq_true_eq, hcv0]; have hd6 := hd6; omega) | (rw [decide_eq_true_eq, hcv0, hcv1]; omega) | (exact absurd (hd7 (by omega)) c469) | (exact absurd hae c469) | (rw [ha1] at c469; cases c469) | (exact absurd (hd7 (by omega)) c8) | (exact absurd hae c8) | (rw [ha1] at c8; cases c8) | omega))
                  ·
                   rw [decide_eq_false c510] at ha509
                   refine cond_f ha509 rfl ?_
                   refine wp_skip ?_
                   refine then_n ?_
                   refine wp_seq ?_
                   refine wp_region_lit ?_
                   refine wl_val ha509 rfl rfl rfl (op_move ha509 rfl rfl) ?_
                   intro a541 ha541; clear ha509 a509
                   refine wl_val ha541 rfl rfl rfl (op_move ha541 rfl rfl) ?_
                   intro a542 ha542; clear ha541 a541
                   refine wl_val ha542 rfl rfl rfl ((op_sub ha542 rfl rfl rfl).int (IntWalk.i64_in _ (by omega))) ?_
                   intro a543 ha543; clear ha542 a542
                   refine wl_callR ha543 rfl rfl rfl (op_call ha543 rfl cb27 rfl) (c_impl_CashOf _ v18 ((q14)) ((q15 : Int) - (1 : Int)) (hf455.rds pos_shEnt) (by first | assumption | omega | (simp; done) | (simp; omega))) ?_
                   rintro v544 w545 he546 rfl a547 ha547; clear ha543 a543
                   have hx548 := hx454.trans' he546
                   have hzhx548 := he546.size
                   replace hf455 := hf455.ext he546
                   replace hf456 := hf456.ext he546
                   refine wl_val ha547 rfl rfl rfl (op_move ha547 rfl rfl) ?_
                   intro a549 ha549; clear ha547 a547
                   refine wl_val ha549 rfl rfl rfl (op_extract ha549 rfl rfl rfl) ?_
                   intro a550 ha550; clear ha549 a549
                   refine wl_val ha550 rfl rfl rfl (op_extract ha550 rfl rfl rfl) ?_
                   intro a551 ha551; clear ha550 a550
                   refine wl_val ha551 rfl rfl rfl (op_assign ha551 rfl rfl) ?_
                   intro a552 ha552; clear ha551 a551
                   refine wl_val ha552 rfl rfl rfl (op_assign ha552 rfl rfl) ?_
                   intro a553 ha553; clear ha552 a552
                   refine wpList_nil ?_
                   refine then_n ?_
                   refine wp_seq ?_
                   clear hf455
                   refine dr_enter Ext follows_mixed ?_
                   intro w554 he555
                   have hx556 := hx548.trans' he555
                   have hzhx556 := he555.size
                   replace hf456 := hf456.ext he555
                   have hs557 : Ext w554 w554 := Ext.rfl' _
                   refine dr_val (i := 0) ha553 rfl (by kernel_rfl) (by kernel_rfl) (by kernel_rfl) rfl rfl rfl hs557 (fun w' hw' => op_move ha553 rfl rfl) ?_
                   intro a558 ha558; clear ha553 a553
                   refine dr_val (i := 1) ha558 rfl (by kernel_rfl) (by kernel_rfl) (by kernel_rfl) rfl rfl rfl hs557 (fun w' hw' => op_eql ha558 rfl rfl rfl) ?_
                   intro a559 ha559; clear ha558 a558
                   refine dr_val (i := 2) ha559 rfl (by kernel_rfl) (by kernel_rfl) (by kernel_rfl) rfl rfl rfl hs557 (fun w' hw' => op_move ha559 rfl rfl) ?_
                   intro a560 ha560; clear ha559 a559
                   by_cases c561 : (codeD ((q14)) ((q15 : Int) - (1 : Int)) : Int) = (0 : Int)
                   ·
                    rw [decide_eq_true c561] at ha560
                    have hcv1 : (if codeD q14 ((q15 : Int) - (1 : Int)) = 0 then sumI (csE ((q15 : Int) - (1 : Int))) q14 else 0) = sumI (csE ((q15 : Int) - (1 : Int))) q14 := if_pos c561
                    refine dr_val (i := 3) ha560 rfl (by kernel_rfl) (by kernel_rfl) (by kernel_rfl) rfl rfl rfl hs557 (fun w' hw' => op_move ha560 rfl rfl) ?_
                    intro a562 ha562; clear ha560 a560
                    refine dr_val (i := 4) ha562 rfl (by kernel_rfl) (by kernel_rfl) (by kernel_rfl) rfl rfl rfl hs557 (fun w' hw' => op_move ha562 rfl rfl) ?_
                    intro a563 ha563; clear ha562 a562
                    refine dr_val (i := 5) ha563 rfl (by kernel_rfl) (by kernel_rfl) (by kernel_rfl) rfl rfl rfl hs557 (fun w' hw' => (op_sub ha563 rfl rfl rfl).int (IntWalk.i64_in _ (by omega))) ?_
                    intro a564 ha564; clear ha563 a563
                    refine dr_val (i := 6) ha564 rfl (by kernel_rfl) (by kernel_rfl) (by kernel_rfl) rfl rfl rfl hs557 (fun w' hw' => op_move ha564 rfl rfl) ?_
                    intro a565 ha565; clear ha564 a564
                    obtain ⟨x566, hx566⟩ := get_ex (xs := (if codeD ((q14)) (q15 : Int) = 0 then dsS (q15 : Int) ((q14)) else [])) (j := 1) (by omega)
                    obtain ⟨p567, c568, hi569, hc570, hr571, hs572⟩ := Rds.at_ (hf456.rds pos_shI64) hx566
                    obtain ⟨rfl, b573⟩ := inv_shI64 hr571
                    obtain ⟨_, _⟩ : _ ∧ _ := hs572
                    have hdex566 := ds_el c507 hd12 hx566
                    refine dr_val (i := 7) ha565 rfl (by kernel_rfl) (by kernel_rfl) (by kernel_rfl) rfl rfl rfl hs557 (fun w' hw' => op_indexAddr ha565 rfl Try.underlying45 ti2 rfl rfl (by omega) hi569) ?_
                    intro a574 ha574; clear ha565 a565
                    refine dr_val (i := 8) ha574 rfl (by kernel_rfl) (by kernel_rfl) (by kernel_rfl) rfl rfl rfl hs557 (fun w' hw' => op_loadH ha574 rfl Try.underlying2 rfl rfl (hc570.ext hw') rfl) ?_
                    intro a575 ha575; clear ha574 a574
                    refine dr_val (i := 9) ha575 rfl (by kernel_rfl) (by kernel_rfl) (by kernel_rfl) rfl rfl rfl hs557 (fun w' hw' => op_move ha575 rfl rfl) ?_
                    intro a576 ha576; clear ha575 a575
                    obtain ⟨x577, hx577⟩ := get_ex (xs := (if codeD ((q14)) (q15 : Int) = 0 then dsS (q15 : Int) ((q14)) else [])) (j := 2) (by omega)
                    obtain ⟨p578, c579, hi580, hc581, hr582, hs583⟩ := Rds.at_ (hf456.rds pos_shI64) hx577
                    obtain ⟨rfl, b584⟩ := inv_shI64 hr582
                    obtain ⟨_, _⟩ : _ ∧ _ := hs583
                    have hdex577 := ds_el c507 hd13 hx577
                    refine dr_val (i := 10) ha576 rfl (by kernel_rfl) (by kernel_rfl) (by kernel_rfl) rfl rfl rfl hs557 (fun w' hw' => op_indexAddr ha576 rfl Try.underlying45 ti2 rfl rfl (by omega) hi580) ?_
                    intro a585 ha585; clear ha576 a576
                    refine dr_val (i := 11) ha585 rfl (by kernel_rfl) (by kernel_rfl) (by kernel_rfl) rfl rfl rfl hs557 (fun w' hw' => op_loadH ha585 rfl Try.underlying2 rfl rfl (hc581.ext hw') rfl) ?_
                    intro a586 ha586; clear ha585 a585
                    refine dr_val (i := 12) ha586 rfl (by kernel_rfl) (by kernel_rfl) (by kernel_rfl) rfl rfl rfl hs557 (fun w' hw' => (op_sub ha586 rfl rfl rfl).int (IntWalk.i64_in _ (by omega))) ?_
                    intro a587 ha587; clear ha586 a586
                    refine dr_val (i := 13) ha587 rfl (by kernel_rfl) (by kernel_rfl) (by kernel_rfl) rfl rfl rfl hs557 (fun w' hw' => op_eql ha587 rfl rfl rfl) ?_
                    intro a588 ha588; clear ha587 a587
                    refine dr_val (i := 14) ha588 rfl (by kernel_rfl) (by kernel_rfl) (by kernel_rfl) rfl rfl rfl hs557 (fun w' hw' => op_pick_t ha588 rfl rfl rfl) ?_
                    intro a589 ha589; clear ha588 a588
                    refine dr_val (i := 15) ha589 rfl (by kernel_rfl) (by kernel_rfl) (by kernel_rfl) rfl rfl rfl hs557 (fun w' hw' => op_assign ha589 rfl rfl) ?_
                    intro a590 ha590; clear ha589 a589
                    refine dr_end (by kernel_rfl) ?_
                    replace hf456 := hf456.ext hs557
                    replace hc570 := hc570.ext hs557
                    replace hc581 := hc581.ext hs557
                    refine then_n ?_
                    refine wp_ret ?_
                    refine ret1 ha590 rfl rfl ?_
                    clear ha590 a590
                    exact ret_mk hx556 (congrArg Value.bool (by first | rfl | (exact absurd rfl c510) | (simp at c279; done) | (simp at c8; done) | (rw [hwa] at *; omega) | (rw [hwb] at *; omega) | (rw [decide_eq_true_eq, hcv0]; have hd6 := hd6; omega) | (rw [decide_eq_true_eq, hcv0, hcv1]; omega) | (exact absurd (hd7 (by omega)) c510) | (exact absurd hae c510) | (rw [ha1] at c510; cases c510) | (exact absurd (hd7 (by omega)) c469) | (exact absurd hae c469) | (rw [ha1] at c469; cases c469) | (exact absurd (hd7 (by omega)) c8) | (exact absurd hae c8) | (rw [ha1] at c8; cases c8) | omega))
                   ·
                    rw [decide_eq_false c561] at ha560
                    refine dr_skip (i := 3) ha560 rfl (by kernel_rfl) (by kernel_rfl) (by kernel_rfl) rfl rfl rfl hs557 ?_
                    intro a591 ha591; clear ha560 a560
                    refine dr_skip (i := 4) ha591 rfl (by kernel_rfl) (by kernel_rfl) (by kernel_rfl) rfl rfl rfl hs557 ?_
                    intro a592 ha592; clear ha591 a591
                    refine dr_skip (i := 5) ha592 rfl (by kernel_rfl) (by kernel_rfl) (by kernel_rfl) rfl rfl rfl hs557 ?_
                    intro a593 ha593; clear ha592 a592
                    refine dr_skip (i := 6) ha593 rfl (by kernel_rfl) (by kernel_rfl) (by kernel_rfl) rfl rfl rfl hs557 ?_
                    intro a594 ha594; clear ha593 a593
                    refine dr_skip (i := 7) ha594 rfl (by kernel_rfl) (by kernel_rfl) (by kernel_rfl) rfl rfl rfl hs557 ?_
                    intro a595 ha595; clear ha594 a594
                    refine dr_skip (i := 8) ha595 rfl (by kernel_rfl) (by kernel_rfl) (by kernel_rfl) rfl rfl rfl hs557 ?_
                    intro a596 ha596; clear ha595 a595
                    refine dr_skip (i := 9) ha596 rfl (by kernel_rfl) (by kernel_rfl) (by kernel_rfl) rfl rfl rfl hs557 ?_
                    intro a597 ha597; clear ha596 a596
                    refine dr_skip (i := 10) ha597 rfl (by kernel_rfl) (by kernel_rfl) (by kernel_rfl) rfl rfl rfl hs557 ?_
                    intro a598 ha598; clear ha597 a597
                    refine dr_skip (i := 11) ha598 rfl (by kernel_rfl) (by kernel_rfl) (by kernel_rfl) rfl rfl rfl hs557 ?_
                    intro a599 ha599; clear ha598 a598
                    refine dr_skip (i := 12) ha599 rfl (by kernel_rfl) (by kernel_rfl) (by kernel_rfl) rfl rfl rfl hs557 ?_
                    intro a600 ha600; clear ha599 a599
                    refine dr_skip (i := 13) ha600 rfl (by kernel_rfl) (by kernel_rfl) (by kernel_rfl) rfl rfl rfl hs557 ?_
                    intro a601 ha601; clear ha600 a600
                    refine dr_val (i := 14) ha601 rfl (by kernel_rfl) (by kernel_rfl) (by kernel_rfl) rfl rfl rfl hs557 (fun w' hw' => op_pick_f ha601 rfl rfl rfl) ?_
                    intro a602 ha602; clear ha601 a601
                    refine dr_val (i := 15) ha602 rfl (by kernel_rfl) (by kernel_rfl) (by kernel_rfl) rfl rfl rfl hs557 (fun w' hw' => op_assign ha602 rfl rfl) ?_
                    intro a603 ha603; clear ha602 a602
                    refine dr_end (by kernel_rfl) ?_
                    replace hf456 := hf456.ext hs557
                    refine then_n ?_
                    refine wp_ret ?_
                    refine ret1 ha603 rfl rfl ?_
                    clear ha603 a603
                    exact ret_mk hx556 (congrArg Value.bool (by first | rfl | (exact absurd rfl c561) | (exact absurd rfl c510) | (simp at c279; done) | (simp at c8; done) | (rw [hwa] at *; omega) | (rw [hwb] at *; omega) | (rw [decide_eq_true_eq, hcv0]; have hd6 := hd6; omega) | (rw [decide_eq_true_eq, hcv0, hcv1]; omega) | (exact absurd (hd7 (by omega)) c561) | (exact absurd hae c561) | (rw [ha1] at c561; cases c561) | (exact absurd (hd7 (by omega)) c510) | (exact absurd hae c510) | (rw [ha1] at c510; cases c510) | (exact absurd (hd7 (by omega)) c469) | (exact absurd hae c469) | (rw [ha1] at c469; cases c469) | (exact absurd (hd7 (by omega)) c8) | (exact absurd hae c8) | (rw [ha1] at c8; cases c8) | omega))
                 ·
                  rw [decide_eq_false c507] at ha506
                  refine cond_t ha506 rfl ?_
                  refine wp_seq ?_
                  clear hf455 hf456
                  refine wp_region_lit ?_
                  refine wl_val ha506 rfl rfl rfl (op_assign ha506 rfl rfl) ?_
                  intro a604 ha604; clear ha506 a506
                  refine wpList_nil ?_
                  refine then_n ?_
                  refine wp_ret ?_
                  refine then_r ?_
                  refine ret1 ha604 rfl rfl ?_
                  clear ha604 a604
                  exact ret_mk hx454 (congrArg Value.bool (by first | rfl | (exact absurd rfl c507) | (simp at c279; done) | (simp at c8; done) | (rw [hwa] at *; omega) | (rw [hwb] at *; omega) | (rw [decide_eq_true_eq, hcv0]; have hd6 := hd6; omega) | (rw [decide_eq_true_eq, hcv0, hcv1]; omega) | (exact absurd (hd7 (by omega)) c507) | (exact absurd hae c507) | (rw [ha1] at c507; cases c507) | (exact absurd (hd7 (by omega)) c469) | (exact absurd hae c469) | (rw [ha1] at c469; cases c469) | (exact absurd (hd7 (by omega)) c8) | (exact absurd hae c8) | (rw [ha1] at c8; cases c8) | omega))
               ·
                rw [decide_eq_false c463] at ha462
                refine wl_skip ha462 rfl rfl rfl ?_
                intro a605 ha605; clear ha462 a462
                refine wl_skip ha605 rfl rfl rfl ?_
                intro a606 ha606; clear ha605 a605
                refine wl_skip ha606 rfl rfl rfl ?_
                intro a607 ha607; clear ha606 a606
                refine wl_skip ha607 rfl rfl rfl ?_
                intro a608 ha608; clear ha607 a607
                refine wl_val ha608 rfl rfl rfl (op_pick_f ha608 rfl rfl rfl) ?_
                intro a609 ha609; clear ha608 a608
                refine wpList_nil ?_
                refine then_n ?_
                refine cond_f ha609 rfl ?_
                refine wp_exit ?_
                refine then_e ?_
                refine then_e ?_
                refine block_hit ?_
                refine then_n ?_
                refine wp_seq ?_
                refine wp_seq ?_
                clear hf457
                refine wp_region_lit ?_
                refine wl_val ha609 rfl rfl rfl (op_move ha609 rfl rfl) ?_
                intro a610 ha610; clear ha609 a609
                refine wl_val ha610 rfl rfl rfl ((op_neq ha610 rfl rfl rfl).to (congrArg Value.bool decide_not)) ?_
                intro a611 ha611; clear ha610 a610
                refine wpList_nil ?_
                refine then_n ?_
                by_cases c612 : (codeD ((q14)) (q15 : Int) : Int) = (0 : Int)
                ·
                 rw [decide_eq_true c612] at ha611
                 have hcv0 : (if codeD q14 (q15 : Int) = 0 then sumI (csE (q15 : Int)) q14 else 0) = sumI (csE (q15 : Int)) q14 := if_pos c612
                 obtain ⟨hd1, hd2, hd3, hd4, hd5, hd6, hd7, hd8, hd9, hd10, hd11, hd12, hd13⟩ := day_all c612
                 have hdl : (if codeD q14 (q15 : Int) = 0 then dsS (q15 : Int) q14 else []).length = 3 := by rw [if_pos c612]; exact dsS_len _ _
                 refine cond_f ha611 rfl ?_
                 refine wp_skip ?_
                 refine then_n ?_
                 refine wp_seq ?_
                 refine wp_seq ?_
                 refine wp_region_lit ?_
                 refine wl_val ha611 rfl rfl rfl (op_move ha611 rfl rfl) ?_
                 intro a613 ha613; clear ha611 a611
                 refine wl_val ha613 rfl rfl rfl (op_eql ha613 rfl rfl rfl) ?_
                 intro a614 ha614; clear ha613 a613
                 refine wpList_nil ?_
                 refine then_n ?_
                 by_cases c615 : (q15 : Int) = (0 : Int)
                 ·
                  rw [decide_eq_true c615] at ha614
                  refine cond_t ha614 rfl ?_
                  refine wp_seq ?_
                  clear hf455
                  refine dr_enter Ext follows_mixed ?_
                  intro w616 he617
                  have hx618 := hx454.trans' he617
                  have hzhx618 := he617.size
                  replace hf456 := hf456.ext he617
                  have hs619 : Ext w616 w616 := Ext.rfl' _
                  refine dr_val (i := 0) ha614 rfl (by kernel_rfl) (by kernel_rfl) (by kernel_rfl) rfl rfl rfl hs619 (fun w' hw' => op_move ha614 rfl rfl) ?_
                  intro a620 ha620; clear ha614 a614
                  refine dr_val (i := 1) ha620 rfl (by kernel_rfl) (by kernel_rfl) (by kernel_rfl) rfl rfl rfl hs619 (fun w' hw' => op_move ha620 rfl rfl) ?_
                  intro a621 ha621; clear ha620 a620
                  obtain ⟨x622, hx622⟩ := get_ex (xs := (if codeD ((q14)) (q15 : Int) = 0 then dsS (q15 : Int) ((q14)) else [])) (j := 1) (by omega)
                  obtain ⟨p623, c624, hi625, hc626, hr627, hs628⟩ := Rds.at_ (hf456.rds pos_shI64) hx622
                  obtain ⟨rfl, b629⟩ := inv_shI64 hr627
                  obtain ⟨_, _⟩ : _ ∧ _ := hs628
                  have hdex622 := ds_el c612 hd12 hx622
                  refine dr_val (i := 2) ha621 rfl (by kernel_rfl) (by kernel_rfl) (by kernel_rfl) rfl rfl rfl hs619 (fun w' hw' => op_indexAddr ha621 rfl Try.underlying45 ti2 rfl rfl (by omega) hi625) ?_
                  intro a630 ha630; clear ha621 a621
                  refine dr_val (i := 3) ha630 rfl (by kernel_rfl) (by kernel_rfl) (by kernel_rfl) rfl rfl rfl hs619 (fun w' hw' => op_loadH ha630 rfl Try.underlying2 rfl rfl (hc626.ext hw') rfl) ?_
                  intro a631 ha631; clear ha630 a630
                  refine dr_val (i := 4) ha631 rfl (by kernel_rfl) (by kernel_rfl) (by kernel_rfl) rfl rfl rfl hs619 (fun w' hw' => op_move ha631 rfl rfl) ?_
                  intro a632 ha632; clear ha631 a631
                  obtain ⟨x633, hx633⟩ := get_ex (xs := (if codeD ((q14)) (q15 : Int) = 0 then dsS (q15 : Int) ((q14)) else [])) (j := 2) (by omega)
                  obtain ⟨p634, c635, hi636, hc637, hr638, hs639⟩ := Rds.at_ (hf456.rds pos_shI64) hx633
                  obtain ⟨rfl, b640⟩ := inv_shI64 hr638
                  obtain ⟨_, _⟩ : _ ∧ _ := hs639
                  have hdex633 := ds_el c612 hd13 hx633
                  refine dr_val (i := 5) ha632 rfl (by kernel_rfl) (by kernel_rfl) (by kernel_rfl) rfl rfl rfl hs619 (fun w' hw' => op_indexAddr ha632 rfl Try.underlying45 ti2 rfl rfl (by omega) hi636) ?_
                  intro a641 ha641; clear ha632 a632
                  refine dr_val (i := 6) ha641 rfl (by kernel_rfl) (by kernel_rfl) (by kernel_rfl) rfl rfl rfl hs619 (fun w' hw' => op_loadH ha641 rfl Try.underlying2 rfl rfl (hc637.ext hw') rfl) ?_
                  intro a642 ha642; clear ha641 a641
                  refine dr_val (i := 7) ha642 rfl (by kernel_rfl) (by kernel_rfl) (by kernel_rfl) rfl rfl rfl hs619 (fun w' hw' => (op_sub ha642 rfl rfl rfl).int (IntWalk.i64_in _ (by omega))) ?_
                  intro a643 ha643; clear ha642 a642
                  refine dr_val (i := 8) ha643 rfl (by kernel_rfl) (by kernel_rfl) (by kernel_rfl) rfl rfl rfl hs619 (fun w' hw' => op_eql ha643 rfl rfl rfl) ?_
                  intro a644 ha644; clear ha643 a643
                  refine dr_val (i := 9) ha644 rfl (by kernel_rfl) (by kernel_rfl) (by kernel_rfl) rfl rfl rfl hs619 (fun w' hw' => op_assign ha644 rfl rfl) ?_
                  intro a645 ha645; clear ha644 a644
                  refine dr_end (by kernel_rfl) ?_
                  replace hf456 := hf456.ext hs619
                  replace hc626 := hc626.ext hs619
                  replace hc637 := hc637.ext hs619
                  refine then_n ?_
                  refine wp_ret ?_
                  refine then_r ?_
                  refine ret1 ha645 rfl rfl ?_
                  clear ha645 a645
                  exact ret_mk hx618 (congrArg Value.bool (by first | rfl | (exact absurd rfl c463) | (simp at c279; done) | (simp at c8; done) | (rw [hwa] at *; omega) | (rw [hwb] at *; omega) | (rw [decide_eq_true_eq, hcv0]; have hd6 := hd6; omega) | (rw [decide_eq_true_eq, hcv0, hcv1]; omega) | (exact absurd (hd7 (by omega)) c463) | (exact absurd hae c463) | (rw [ha1] at c463; cases c463) | (exact absurd (hd7 (by omega)) c8) | (exact absurd hae c8) | (rw [ha1] at c8; cases c8) | omega))
                 ·
                  rw [decide_eq_false c615] at ha614
                  refine cond_f ha614 rfl ?_
                  refine wp_skip ?_
                  refine then_n ?_
                  refine wp_seq ?_
                  refine wp_region_lit ?_
                  refine wl_val ha614 rfl rfl rfl (op_move ha614 rfl rfl) ?_
                  intro a646 ha646; clear ha614 a614
                  refine wl_val ha646 rfl rfl rfl (op_move ha646 rfl rfl) ?_
                  intro a647 ha647; clear ha646 a646
                  refine wl_val ha647 rfl rfl rfl ((op_sub ha647 rfl rfl rfl).int (IntWalk.i64_in _ (by omega))) ?_
                  intro a648 ha648; clear ha647 a647
                  refine wl_callR ha648 rfl rfl rfl (op_call ha648 rfl cb27 rfl) (c_impl_CashOf _ v18 ((q14)) ((q15 : Int) - (1 : Int)) (hf455.rds pos_shEnt) (by first | assumption | omega | (simp; done) | (simp; omega))) ?_
                  rintro v649 w650 he651 rfl a652 ha652; clear ha648 a648
                  have hx653 := hx454.trans' he651
                  have hzhx653 := he651.size
                  replace hf455 := hf455.ext he651
                  replace hf456 := hf456.ext he651
                  refine wl_val ha652 rfl rfl rfl (op_move ha652 rfl rfl) ?_
                  intro a654 ha654; clear ha652 a652
                  refine wl_val ha654 rfl rfl rfl (op_extract ha654 rfl rfl rfl) ?_
                  intro a655 ha655; clear ha654 a654
                  refine wl_val ha655 rfl rfl rfl (op_extract ha655 rfl rfl rfl) ?_
                  intro a656 ha656; clear ha655 a655
                  refine wl_val ha656 rfl rfl rfl (op_assign ha656 rfl rfl) ?_
                  intro a657 ha657; clear ha656 a656
                  refine wl_val ha657 rfl rfl rfl (op_assign ha657 rfl rfl) ?_
                  intro a658 ha658; clear ha657 a657
                  refine wpList_nil ?_
                  refine then_n ?_
                  refine wp_seq ?_
                  clear hf455
                  refine dr_enter Ext follows_mixed ?_
                  intro w659 he660
                  have hx661 := hx653.trans' he660
                  have hzhx661 := he660.size
                  replace hf456 := hf456.ext he660
                  have hs662 : Ext w659 w659 := Ext.rfl' _
                  refine dr_val (i := 0) ha658 rfl (by kernel_rfl) (by kernel_rfl) (by kernel_rfl) rfl rfl rfl hs662 (fun w' hw' => op_move ha658 rfl rfl) ?_
                  intro a663 ha663; clear ha658 a658
                  refine dr_val (i := 1) ha663 rfl (by kernel_rfl) (by kernel_rfl) (by kernel_rfl) rfl rfl rfl hs662 (fun w' hw' => op_eql ha663 rfl rfl rfl) ?_
                  intro a664 ha664; clear ha663 a663
                  refine dr_val (i := 2) ha664 rfl (by kernel_rfl) (by kernel_rfl) (by kernel_rfl) rfl rfl rfl hs662 (fun w' hw' => op_move ha664 rfl rfl) ?_
                  intro a665 ha665; clear ha664 a664
                  by_cases c666 : (codeD ((q14)) ((q15 : Int) - (1 : Int)) : Int) = (0 : Int)
                  ·
                   rw [decide_eq_true c666] at ha665
                   have hcv1 : (if codeD q14 ((q15 : Int) - (1 : Int)) = 0 then sumI (csE ((q15 : Int) - (1 : Int))) q14 else 0) = sumI (csE ((q15 : Int) - (1 : Int))) q14 := if_pos c666
                   refine dr_val (i := 3) ha665 rfl (by kernel_rfl) (by kernel_rfl) (by kernel_rfl) rfl rfl rfl hs662 (fun w' hw' => op_move ha665 rfl rfl) ?_
                   intro a667 ha667; clear ha665 a665
                   refine dr_val (i := 4) ha667 rfl (by kernel_rfl) (by kernel_rfl) (by kernel_rfl) rfl rfl rfl hs662 (fun w' hw' => op_move ha667 rfl rfl) ?_
                   intro a668 ha668; clear ha667 a667
                   refine dr_val (i := 5) ha668 rfl (by kernel_rfl) (by kernel_rfl) (by kernel_rfl) rfl rfl rfl hs662 (fun w' hw' => (op_sub ha668 rfl rfl rfl).int (IntWalk.i64_in _ (by omega))) ?_
                   intro a669 ha669; clear ha668 a668
                   refine dr_val (i := 6) ha669 rfl (by kernel_rfl) (by kernel_rfl) (by kernel_rfl) rfl rfl rfl hs662 (fun w' hw' => op_move ha669 rfl rfl) ?_
                   intro a670 ha670; clear ha669 a669
                   obtain ⟨x671, hx671⟩ := get_ex (xs := (if codeD ((q14)) (q15 : Int) = 0 then dsS (q15 : Int) ((q14)) else [])) (j := 1) (by omega)
                   obtain ⟨p672, c673, hi674, hc675, hr676, hs677⟩ := Rds.at_ (hf456.rds pos_shI64) hx671
                   obtain ⟨rfl, b678⟩ := inv_shI64 hr676
                   obtain ⟨_, _⟩ : _ ∧ _ := hs677
                   have hdex671 := ds_el c612 hd12 hx671
                   refine dr_val (i := 7) ha670 rfl (by kernel_rfl) (by kernel_rfl) (by kernel_rfl) rfl rfl rfl hs662 (fun w' hw' => op_indexAddr ha670 rfl Try.underlying45 ti2 rfl rfl (by omega) hi674) ?_
                   intro a679 ha679; clear ha670 a670
                   refine dr_val (i := 8) ha679 rfl (by kernel_rfl) (by kernel_rfl) (by kernel_rfl) rfl rfl rfl hs662 (fun w' hw' => op_loadH ha679 rfl Try.underlying2 rfl rfl (hc675.ext hw') rfl) ?_
                   intro a680 ha680; clear ha679 a679
                   refine dr_val (i := 9) ha680 rfl (by kernel_rfl) (by kernel_rfl) (by kernel_rfl) rfl rfl rfl hs662 (fun w' hw' => op_move ha680 rfl rfl) ?_
                   intro a681 ha681; clear ha680 a680
                   obtain ⟨x682, hx682⟩ := get_ex (xs := (if codeD ((q14)) (q15 : Int) = 0 then dsS (q15 : Int) ((q14)) else [])) (j := 2) (by omega)
                   obtain ⟨p683, c684, hi685, hc686, hr687, hs688⟩ := Rds.at_ (hf456.rds pos_shI64) hx682
                   obtain ⟨rfl, b689⟩ := inv_shI64 hr687
                   obtain ⟨_, _⟩ : _ ∧ _ := hs688
                   have hdex682 := ds_el c612 hd13 hx682
                   refine dr_val (i := 10) ha681 rfl (by kernel_rfl) (by kernel_rfl) (by kernel_rfl) rfl rfl rfl hs662 (fun w' hw' => op_indexAddr ha681 rfl Try.underlying45 ti2 rfl rfl (by omega) hi685) ?_
                   intro a690 ha690; clear ha681 a681
                   refine dr_val (i := 11) ha690 rfl (by kernel_rfl) (by kernel_rfl) (by kernel_rfl) rfl rfl rfl hs662 (fun w' hw' => op_loadH ha690 rfl Try.underlying2 rfl rfl (hc686.ext hw') rfl) ?_
                   intro a691 ha691; clear ha690 a690
                   refine dr_val (i := 12) ha691 rfl (by kernel_rfl) (by kernel_rfl) (by kernel_rfl) rfl rfl rfl hs662 (fun w' hw' => (op_sub ha691 rfl rfl rfl).int (IntWalk.i64_in _ (by omega))) ?_
                   intro a692 ha692; clear ha691 a691
                   refine dr_val (i := 13) ha692 rfl (by kernel_rfl) (by kernel_rfl) (by kernel_rfl) rfl rfl rfl hs662 (fun w' hw' => op_eql ha692 rfl rfl rfl) ?_
                   intro a693 ha693; clear ha692 a692
                   refine dr_val (i := 14) ha693 rfl (by kernel_rfl) (by kernel_rfl) (by kernel_rfl) rfl rfl rfl hs662 (fun w' hw' => op_pick_t ha693 rfl rfl rfl) ?_
                   intro a694 ha694; clear ha693 a693
                   refine dr_val (i := 15) ha694 rfl (by kernel_rfl) (by kernel_rfl) (by kernel_rfl) rfl rfl rfl hs662 (fun w' hw' => op_assign ha694 rfl rfl) ?_
                   intro a695 ha695; clear ha694 a694
                   refine dr_end (by kernel_rfl) ?_
                   replace hf456 := hf456.ext hs662
                   replace hc675 := hc675.ext hs662
                   replace hc686 := hc686.ext hs662
                   refine then_n ?_
                   refine wp_ret ?_
                   refine ret1 ha695 rfl rfl ?_
                   clear ha695 a695
                   exact ret_mk hx661 (congrArg Value.bool (by first | rfl | (exact absurd rfl c615) | (exact absurd rfl c463) | (simp at c279; done) | (simp at c8; done) | (rw [hwa] at *; omega) | (rw [hwb] at *; omega) | (rw [decide_eq_true_eq, hcv0]; have hd6 := hd6; omega) | (rw [decide_eq_true_eq, hcv0, hcv1]; omega) | (exact absurd (hd7 (by omega)) c615) | (exact absurd hae c615) | (rw [ha1] at c615; cases c615) | (exact absurd (hd7 (by omega)) c463) | (exact absurd hae c463) | (rw [ha1] at c463; cases c463) | (exact absurd (hd7 (by omega)) c8) | (exact absurd hae c8) | (rw [ha1] at c8; cases c8) | omega))
                  ·
                   rw [decide_eq_false c666] at ha665
                   refine dr_skip (i := 3) ha665 rfl (by kernel_rfl) (by kernel_rfl) (by kernel_rfl) rfl rfl rfl hs662 ?_
                   intro a696 ha696; clear ha665 a665
                   refine dr_skip (i := 4) ha696 rfl (by kernel_rfl) (by kernel_rfl) (by kernel_rfl) rfl rfl rfl hs662 ?_
                   intro a697 ha697; clear ha696 a696
                   refine dr_skip (i := 5) ha697 rfl (by kernel_rfl) (by kernel_rfl) (by kernel_rfl) rfl rfl rfl hs662 ?_
                   intro a698 ha698; clear ha697 a697
                   refine dr_skip (i := 6) ha698 rfl (by kernel_rfl) (by kernel_rfl) (by kernel_rfl) rfl rfl rfl hs662 ?_
                   intro a699 ha699; clear ha698 a698
                   refine dr_skip (i := 7) ha699 rfl (by kernel_rfl) (by kernel_rfl) (by kernel_rfl) rfl rfl rfl hs662 ?_
                   intro a700 ha700; clear ha699 a699
                   refine dr_skip (i := 8) ha700 rfl (by kernel_rfl) (by kernel_rfl) (by kernel_rfl) rfl rfl rfl hs662 ?_
                   intro a701 ha701; clear ha700 a700
                   refine dr_skip (i := 9) ha701 rfl (by kernel_rfl) (by kernel_rfl) (by kernel_rfl) rfl rfl rfl hs662 ?_
                   intro a702 ha702; clear ha701 a701
                   refine dr_skip (i := 10) ha702 rfl (by kernel_rfl) (by kernel_rfl) (by kernel_rfl) rfl rfl rfl hs662 ?_
                   intro a703 ha703; clear ha702 a702
                   refine dr_skip (i := 11) ha703 rfl (by kernel_rfl) (by kernel_rfl) (by kernel_rfl) rfl rfl rfl hs662 ?_
                   intro a704 ha704; clear ha703 a703
                   refine dr_skip (i := 12) ha704 rfl (by kernel_rfl) (by kernel_rfl) (by kernel_rfl) rfl rfl rfl hs662 ?_
                   intro a705 ha705; clear ha704 a704
                   refine dr_skip (i := 13) ha705 rfl (by kernel_rfl) (by kernel_rfl) (by kernel_rfl) rfl rfl rfl hs662 ?_
                   intro a706 ha706; clear ha705 a705
                   refine dr_val (i := 14) ha706 rfl (by kernel_rfl) (by kernel_rfl) (by kernel_rfl) rfl rfl rfl hs662 (fun w' hw' => op_pick_f ha706 rfl rfl rfl) ?_
                   intro a707 ha707; clear ha706 a706
                   refine dr_val (i := 15) ha707 rfl (by kernel_rfl) (by kernel_rfl) (by kernel_rfl) rfl rfl rfl hs662 (fun w' hw' => op_assign ha707 rfl rfl) ?_
                   intro a708 ha708; clear ha707 a707
                   refine dr_end (by kernel_rfl) ?_
                   replace hf456 := hf456.ext hs662
                   refine then_n ?_
                   refine wp_ret ?_
                   refine ret1 ha708 rfl rfl ?_
                   clear ha708 a708
                   exact ret_mk hx661 (congrArg Value.bool (by first | rfl | (exact absurd rfl c666) | (exact absurd rfl c615) | (exact absurd rfl c463) | (simp at c279; done) | (simp at c8; done) | (rw [hwa] at *; omega) | (rw [hwb] at *; omega) | (rw [decide_eq_true_eq, hcv0]; have hd6 := hd6; omega) | (rw [decide_eq_true_eq, hcv0, hcv1]; omega) | (exact absurd (hd7 (by omega)) c666) | (exact absurd hae c666) | (rw [ha1] at c666; cases c666) | (exact absurd (hd7 (by omega)) c615) | (exact absurd hae c615) | (rw [ha1] at c615; cases c615) | (exact absurd (hd7 (by omega)) c463) | (exact absurd hae c463) | (rw [ha1] at c463; cases c463) | (exact absurd (hd7 (by omega)) c8) | (exact absurd hae c8) | (rw [ha1] at c8; cases c8) | omega))
                ·
                 rw [decide_eq_false c612] at ha611
                 refine cond_t ha611 rfl ?_
                 refine wp_seq ?_
                 clear hf455 hf456
                 refine wp_region_lit ?_
                 refine wl_val ha611 rfl rfl rfl (op_assign ha611 rfl rfl) ?_
                 intro a709 ha709; clear ha611 a611
                 refine wpList_nil ?_
                 refine then_n ?_
                 refine wp_ret ?_
                 refine then_r ?_
                 refine ret1 ha709 rfl rfl ?_
                 clear ha709 a709
                 exact ret_mk hx454 (congrArg Value.bool (by first | rfl | (exact absurd rfl c612) | (exact absurd rfl c463) | (simp at c279; done) | (simp at c8; done) | (rw [hwa] at *; omega) | (rw [hwb] at *; omega) | (rw [decide_eq_true_eq, hcv0]; have hd6 := hd6; omega) | (rw [decide_eq_true_eq, hcv0, hcv1]; omega) | (exact absurd (hd7 (by omega)) c612) | (exact absurd hae c612) | (rw [ha1] at c612; cases c612) | (exact absurd (hd7 (by omega)) c463) | (exact absurd hae c463) | (rw [ha1] at c463; cases c463) | (exact absurd (hd7 (by omega)) c8) | (exact absurd hae c8) | (rw [ha1] at c8; cases c8) | omega))
           ·
            rw [c279] at ha278
            refine wl_skip ha278 rfl rfl rfl ?_
            intro a710 ha710; clear ha278 a278
            refine wl_skip ha710 rfl rfl rfl ?_
            intro a711 ha711; clear ha710 a710
            refine wl_skip ha711 rfl rfl rfl ?_
            intro a712 ha712; clear ha711 a711
            refine wl_val ha712 rfl rfl rfl (op_pick_t ha712 rfl rfl rfl) ?_
            intro a713 ha713; clear ha712 a712
            refine wpList_nil ?_
            refine then_n ?_
            refine cond_t ha713 rfl ?_
            refine wp_seq ?_
            clear ho19 ho57 ho71 ho117 hb133 ho142 ho156 ho169 ho182
            refine wp_region_lit ?_
            refine wl_val ha713 rfl rfl rfl (op_assign ha713 rfl rfl) ?_
            intro a714 ha714; clear ha713 a713
            refine wpList_nil ?_
            refine then_n ?_
            refine wp_ret ?_
            refine then_r ?_
            refine ret1 ha714 rfl rfl ?_
            clear ha714 a714
            exact ret_mk hx273 (congrArg Value.bool (by first | rfl | (exact absurd rfl c279) | (simp at c279; done) | (simp at c8; done) | (rw [hwa] at *; omega) | (rw [hwb] at *; omega) | (rw [decide_eq_true_eq, hcv0]; have hd6 := hd6; omega) | (rw [decide_eq_true_eq, hcv0, hcv1]; omega) | (exact absurd (hd7 (by omega)) c279) | (exact absurd hae c279) | (rw [ha1] at c279; cases c279) | (exact absurd (hd7 (by omega)) c8) | (exact absurd hae c8) | (rw [ha1] at c8; cases c8) | omega))
          ·
           rw [c267] at ha266
           refine wl_skip ha266 rfl rfl rfl ?_
           intro a715 ha715; clear ha266 a266
           refine wl_skip ha715 rfl rfl rfl ?_
           intro a716 ha716; clear ha715 a715
           refine wl_skip ha716 rfl rfl rfl ?_
           intro a717 ha717; clear ha716 a716
           refine wl_skip ha717 rfl rfl rfl ?_
           intro a718 ha718; clear ha717 a717
           refine wl_skip ha718 rfl rfl rfl ?_
           intro a719 ha719; clear ha718 a718
           refine wl_val ha719 rfl rfl rfl (op_pick_t ha719 rfl rfl rfl) ?_
           intro a720 ha720; clear ha719 a719
           refine wl_val ha720 rfl rfl rfl (op_move ha720 rfl rfl) ?_
           intro a721 ha721; clear ha720 a720
           refine wl_skip ha721 rfl rfl rfl ?_
           intro a722 ha722; clear ha721 a721
           refine wl_skip ha722 rfl rfl rfl ?_
           intro a723 ha723; clear ha722 a722
           refine wl_skip ha723 rfl rfl rfl ?_
           intro a724 ha724; clear ha723 a723
           refine wl_val ha724 rfl rfl rfl (op_pick_t ha724 rfl rfl rfl) ?_
           intro a725 ha725; clear ha724 a724
           refine wpList_nil ?_
           refine then_n ?_
           refine cond_t ha725 rfl ?_
           refine wp_seq ?_
           clear ho19 ho57 ho71 ho117 hb133 ho142 ho156 ho169 ho182
           refine wp_region_lit ?_
           refine wl_val ha725 rfl rfl rfl (op_assign ha725 rfl rfl) ?_
           intro a726 ha726; clear ha725 a725
           refine wpList_nil ?_
           refine then_n ?_
           refine wp_ret ?_
           refine then_r ?_
           refine ret1 ha726 rfl rfl ?_
           clear ha726 a726
           exact ret_mk hx263 (congrArg Value.bool (by first | rfl | (rw [eqL_self] at c267; cases c267) | (simp at c8; done) | (rw [hwa] at *; omega) | (rw [hwb] at *; omega) | (rw [decide_eq_true_eq, hcv0]; have hd6 := hd6; omega) | (rw [decide_eq_true_eq, hcv0, hcv1]; omega) | (exact absurd (hd7 (by omega)) c267) | (exact absurd hae c267) | (rw [ha1] at c267; cases c267) | (exact absurd (hd7 (by omega)) c8) | (exact absurd hae c8) | (rw [ha1] at c8; cases c8) | omega))
         ·
          rw [c251] at ha250
          refine wl_skip ha250 rfl rfl rfl ?_
          intro a727 ha727; clear ha250 a250
          refine wl_skip ha727 rfl rfl rfl ?_
          intro a728 ha728; clear ha727 a727
          refine wl_skip ha728 rfl rfl rfl ?_
          intro a729 ha729; clear ha728 a728
          refine wl_val ha729 rfl rfl rfl (op_pick_t ha729 rfl rfl rfl) ?_
          intro a730 ha730; clear ha729 a729
          refine wl_val ha730 rfl rfl rfl (op_move ha730 rfl rfl) ?_
          intro a731 ha731; clear ha730 a730
          refine wl_skip ha731 rfl rfl rfl ?_
          intro a732 ha732; clear ha731 a731
          refine wl_skip ha732 rfl rfl rfl ?_
          intro a733 ha733; clear ha732 a732
          refine wl_skip ha733 rfl rfl rfl ?_
          intro a734 ha734; clear ha733 a733
          refine wl_skip ha734 rfl rfl rfl ?_
          intro a735 ha735; clear ha734 a734
          refine wl_val ha735 rfl rfl rfl (op_pick_t ha735 rfl rfl rfl) ?_
          intro a736 ha736; clear ha735 a735
          refine wl_val ha736 rfl rfl rfl (op_move ha736 rfl rfl) ?_
          intro a737 ha737; clear ha736 a736
          refine wl_skip ha737 rfl rfl rfl ?_
          intro a738 ha738; clear ha737 a737
          refine wl_skip ha738 rfl rfl rfl ?_
          intro a739 ha739; clear ha738 a738
          refine wl_skip ha739 rfl rfl rfl ?_
          intro a740 ha740; clear ha739 a739
          refine wl_skip ha740 rfl rfl rfl ?_
          intro a741 ha741; clear ha740 a740
          refine wl_skip ha741 rfl rfl rfl ?_
          intro a742 ha742; clear ha741 a741
          refine wl_val ha742 rfl rfl rfl (op_pick_t ha742 rfl rfl rfl) ?_
          intro a743 ha743; clear ha742 a742
          refine wl_val ha743 rfl rfl rfl (op_move ha743 rfl rfl) ?_
          intro a744 ha744; clear ha743 a743
          refine wl_skip ha744 rfl rfl rfl ?_
          intro a745 ha745; clear ha744 a744
          refine wl_skip ha745 rfl rfl rfl ?_
          intro a746 ha746; clear ha745 a745
          refine wl_skip ha746 rfl rfl rfl ?_
          intro a747 ha747; clear ha746 a746
          refine wl_val ha747 rfl rfl rfl (op_pick_t ha747 rfl rfl rfl) ?_
          intro a748 ha748; clear ha747 a747
          refine wpList_nil ?_
          refine then_n ?_
          refine cond_t ha748 rfl ?_
          refine wp_seq ?_
          clear ho19 ho57 ho71 ho117 hb133 ho142 ho156 ho169 ho182
          refine wp_region_lit ?_
          refine wl_val ha748 rfl rfl rfl (op_assign ha748 rfl rfl) ?_
          intro a749 ha749; clear ha748 a748
          refine wpList_nil ?_
          refine then_n ?_
          refine wp_ret ?_
          refine then_r ?_
          refine ret1 ha749 rfl rfl ?_
          clear ha749 a749
          exact ret_mk hx247 (congrArg Value.bool (by first | rfl | (rw [eqL_self] at c251; cases c251) | (simp at c8; done) | (rw [hwa] at *; omega) | (rw [hwb] at *; omega) | (rw [decide_eq_true_eq, hcv0]; have hd6 := hd6; omega) | (rw [decide_eq_true_eq, hcv0, hcv1]; omega) | (exact absurd (hd7 (by omega)) c251) | (exact absurd hae c251) | (rw [ha1] at c251; cases c251) | (exact absurd (hd7 (by omega)) c8) | (exact absurd hae c8) | (rw [ha1] at c8; cases c8) | omega))
        ·
         rw [decide_eq_false c240] at ha239
         refine wl_skip ha239 rfl rfl rfl ?_
         intro a750 ha750; clear ha239 a239
         refine wl_skip ha750 rfl rfl rfl ?_
         intro a751 ha751; clear ha750 a750
         refine wl_skip ha751 rfl rfl rfl ?_
         intro a752 ha752; clear ha751 a751
         refine wl_skip ha752 rfl rfl rfl ?_
         intro a753 ha753; clear ha752 a752
         refine wl_val ha753 rfl rfl rfl (op_pick_t ha753 rfl rfl rfl) ?_
         intro a754 ha754; clear ha753 a753
         refine wl_val ha754 rfl rfl rfl (op_move ha754 rfl rfl) ?_
         intro a755 ha755; clear ha754 a754
         refine wl_skip ha755 rfl rfl rfl ?_
         intro a756 ha756; clear ha755 a755
         refine wl_skip ha756 rfl rfl rfl ?_
         intro a757 ha757; clear ha756 a756
         refine wl_skip ha757 rfl rfl rfl ?_
         intro a758 ha758; clear ha757 a757
         refine wl_val ha758 rfl rfl rfl (op_pick_t ha758 rfl rfl rfl) ?_
         intro a759 ha759; clear ha758 a758
         refine wl_val ha759 rfl rfl rfl (op_move ha759 rfl rfl) ?_
         intro a760 ha760; clear ha759 a759
         refine wl_skip ha760 rfl rfl rfl ?_
         intro a761 ha761; clear ha760 a760
         refine wl_skip ha761 rfl rfl rfl ?_
         intro a762 ha762; clear ha761 a761
         refine wl_skip ha762 rfl rfl rfl ?_
         intro a763 ha763; clear ha762 a762
         refine wl_skip ha763 rfl rfl rfl ?_
         intro a764 ha764; clear ha763 a763
         refine wl_val ha764 rfl rfl rfl (op_pick_t ha764 rfl rfl rfl) ?_
         intro a765 ha765; clear ha764 a764
         refine wl_val ha765 rfl rfl rfl (op_move ha765 rfl rfl) ?_
         intro a766 ha766; clear ha765 a765
         refine wl_skip ha766 rfl rfl rfl ?_
         intro a767 ha767; clear ha766 a766
         refine wl_skip ha767 rfl rfl rfl ?_
         intro a768 ha768; clear ha767 a767
         refine wl_skip ha768 rfl rfl rfl ?_
         intro a769 ha769; clear ha768 a768
         refine wl_skip ha769 rfl rfl rfl ?_
         intro a770 ha770; clear ha769 a769
         refine wl_skip ha770 rfl rfl rfl ?_
         intro a771 ha771; clear ha770 a770
         refine wl_val ha771 rfl rfl rfl (op_pick_t ha771 rfl rfl rfl) ?_
         intro a772 ha772; clear ha771 a771
         refine wl_val ha772 rfl rfl rfl (op_move ha772 rfl rfl) ?_
         intro a773 ha773; clear ha772 a772
         refine wl_skip ha773 rfl rfl rfl ?_
         intro a774 ha774; clear ha773 a773
         refine wl_skip ha774 rfl rfl rfl ?_
         intro a775 ha775; clear ha774 a774
         refine wl_skip ha775 rfl rfl rfl ?_
         intro a776 ha776; clear ha775 a775
         refine wl_val ha776 rfl rfl rfl (op_pick_t ha776 rfl rfl rfl) ?_
         intro a777 ha777; clear ha776 a776
         refine wpList_nil ?_
         refine then_n ?_
         refine cond_t ha777 rfl ?_
         refine wp_seq ?_
         clear ho19 ho57 ho71 ho117 hb133 ho142 ho156 ho169 ho182
         refine wp_region_lit ?_
         refine wl_val ha777 rfl rfl rfl (op_assign ha777 rfl rfl) ?_
         intro a778 ha778; clear ha777 a777
         refine wpList_nil ?_
         refine then_n ?_
         refine wp_ret ?_
         refine then_r ?_
         refine ret1 ha778 rfl rfl ?_
         clear ha778 a778
         exact ret_mk hx212 (congrArg Value.bool (by first | rfl | (exact absurd rfl c240) | (simp at c8; done) | (rw [hwa] at *; omega) | (rw [hwb] at *; omega) | (rw [decide_eq_true_eq, hcv0]; have hd6 := hd6; omega) | (rw [decide_eq_true_eq, hcv0, hcv1]; omega) | (exact absurd (hd7 (by omega)) c240) | (exact absurd hae c240) | (rw [ha1] at c240; cases c240) | (exact absurd (hd7 (by omega)) c8) | (exact absurd hae c8) | (rw [ha1] at c8; cases c8) | omega))
       ·
        rw [decide_eq_false c234] at ha233
        refine wl_skip ha233 rfl rfl rfl ?_
        intro a779 ha779; clear ha233 a233
        refine wl_skip ha779 rfl rfl rfl ?_
        intro a780 ha780; clear ha779 a779
        refine wl_skip ha780 rfl rfl rfl ?_
        intro a781 ha781; clear ha780 a780
        refine wl_val ha781 rfl rfl rfl (op_pick_t ha781 rfl rfl rfl) ?_
        intro a782 ha782; clear ha781 a781
        refine wl_val ha782 rfl rfl rfl (op_move ha782 rfl rfl) ?_
        intro a783 ha783; clear ha782 a782
        refine wl_skip ha783 rfl rfl rfl ?_
        intro a784 ha784; clear ha783 a783
        refine wl_skip ha784 rfl rfl rfl ?_
        intro a785 ha785; clear ha784 a784
        refine wl_skip ha785 rfl rfl rfl ?_
        intro a786 ha786; clear ha785 a785
        refine wl_skip ha786 rfl rfl rfl ?_
        intro a787 ha787; clear ha786 a786
        refine wl_val ha787 rfl rfl rfl (op_pick_t ha787 rfl rfl rfl) ?_
        intro a788 ha788; clear ha787 a787
        refine wl_val ha788 rfl rfl rfl (op_move ha788 rfl rfl) ?_
        intro a789 ha789; clear ha788 a788
        refine wl_skip ha789 rfl rfl rfl ?_
        intro a790 ha790; clear ha789 a789
        refine wl_skip ha790 rfl rfl rfl ?_
        intro a791 ha791; clear ha790 a790
        refine wl_skip ha791 rfl rfl rfl ?_
        intro a792 ha792; clear ha791 a791
        refine wl_val ha792 rfl rfl rfl (op_pick_t ha792 rfl rfl rfl) ?_
        intro a793 ha793; clear ha792 a792
        refine wl_val ha793 rfl rfl rfl (op_move ha793 rfl rfl) ?_
        intro a794 ha794; clear ha793 a793
        refine wl_skip ha794 rfl rfl rfl ?_
        intro a795 ha795; clear ha794 a794
        refine wl_skip ha795 rfl rfl rfl ?_
        intro a796 ha796; clear ha795 a795
        refine wl_skip ha796 rfl rfl rfl ?_
        intro a797 ha797; clear ha796 a796
        refine wl_skip ha797 rfl rfl rfl ?_
        intro a798 ha798; clear ha797 a797
        refine wl_val ha798 rfl rfl rfl (op_pick_t ha798 rfl rfl rfl) ?_
        intro a799 ha799; clear ha798 a798
        refine wl_val ha799 rfl rfl rfl (op_move ha799 rfl rfl) ?_
        intro a800 ha800; clear ha799 a799
        refine wl_skip ha800 rfl rfl rfl ?_
        intro a801 ha801; clear ha800 a800
        refine wl_skip ha801 rfl rfl rfl ?_
        intro a802 ha802; clear ha801 a801
        refine wl_skip ha802 rfl rfl rfl ?_
        intro a803 ha803; clear ha802 a802
        refine wl_skip ha803 rfl rfl rfl ?_
        intro a804 ha804; clear ha803 a803
        refine wl_skip ha804 rfl rfl rfl ?_
        intro a805 ha805; clear ha804 a804
        refine wl_val ha805 rfl rfl rfl (op_pick_t ha805 rfl rfl rfl) ?_
        intro a806 ha806; clear ha805 a805
        refine wl_val ha806 rfl rfl rfl (op_move ha806 rfl rfl) ?_
        intro a807 ha807; clear ha806 a806
        refine wl_skip ha807 rfl rfl rfl ?_
        intro a808 ha808; clear ha807 a807
        refine wl_skip ha808 rfl rfl rfl ?_
        intro a809 ha809; clear ha808 a808
        refine wl_skip ha809 rfl rfl rfl ?_
        intro a810 ha810; clear ha809 a809
        refine wl_val ha810 rfl rfl rfl (op_pick_t ha810 rfl rfl rfl) ?_
        intro a811 ha811; clear ha810 a810
        refine wpList_nil ?_
        refine then_n ?_
        refine cond_t ha811 rfl ?_
        refine wp_seq ?_
        clear ho19 ho57 ho71 ho117 hb133 ho142 ho156 ho169 ho182
        refine wp_region_lit ?_
        refine wl_val ha811 rfl rfl rfl (op_assign ha811 rfl rfl) ?_
        intro a812 ha812; clear ha811 a811
        refine wpList_nil ?_
        refine then_n ?_
        refine wp_ret ?_
        refine then_r ?_
        refine ret1 ha812 rfl rfl ?_
        clear ha812 a812
        exact ret_mk hx212 (congrArg Value.bool (by first | rfl | (exact absurd rfl c234) | (simp at c8; done) | (rw [hwa] at *; omega) | (rw [hwb] at *; omega) | (rw [decide_eq_true_eq, hcv0]; have hd6 := hd6; omega) | (rw [decide_eq_true_eq, hcv0, hcv1]; omega) | (exact absurd (hd7 (by omega)) c234) | (exact absurd hae c234) | (rw [ha1] at c234; cases c234) | (exact absurd (hd7 (by omega)) c8) | (exact absurd hae c8) | (rw [ha1] at c8; cases c8) | omega))
      ·
       rw [decide_eq_false c228] at ha227
       refine wl_skip ha227 rfl rfl rfl ?_
       intro a813 ha813; clear ha227 a227
       refine wl_skip ha813 rfl rfl rfl ?_
       intro a814 ha814; clear ha813 a813
       refine wl_skip ha814 rfl rfl rfl ?_
       intro a815 ha815; clear ha814 a814
       refine wl_val ha815 rfl rfl rfl (op_pick_t ha815 rfl rfl rfl) ?_
       intro a816 ha816; clear ha815 a815
       refine wl_val ha816 rfl rfl rfl (op_move ha816 rfl rfl) ?_
       intro a817 ha817; clear ha816 a816
       refine wl_skip ha817 rfl rfl rfl ?_
       intro a818 ha818; clear ha817 a817
       refine wl_skip ha818 rfl rfl rfl ?_
       intro a819 ha819; clear ha818 a818
       refine wl_skip ha819 rfl rfl rfl ?_
       intro a820 ha820; clear ha819 a819
       refine wl_val ha820 rfl rfl rfl (op_pick_t ha820 rfl rfl rfl) ?_
       intro a821 ha821; clear ha820 a820
       refine wl_val ha821 rfl rfl rfl (op_move ha821 rfl rfl) ?_
       intro a822 ha822; clear ha821 a821
       refine wl_skip ha822 rfl rfl rfl ?_
       intro a823 ha823; clear ha822 a822
       refine wl_skip ha823 rfl rfl rfl ?_
       intro a824 ha824; clear ha823 a823
       refine wl_skip ha824 rfl rfl rfl ?_
       intro a825 ha825; clear ha824 a824
       refine wl_skip ha825 rfl rfl rfl ?_
       intro a826 ha826; clear ha825 a825
       refine wl_val ha826 rfl rfl rfl (op_pick_t ha826 rfl rfl rfl) ?_
       intro a827 ha827; clear ha826 a826
       refine wl_val ha827 rfl rfl rfl (op_move ha827 rfl rfl) ?_
       intro a828 ha828; clear ha827 a827
       refine wl_skip ha828 rfl rfl rfl ?_
       intro a829 ha829; clear ha828 a828
       refine wl_skip ha829 rfl rfl rfl ?_
       intro a830 ha830; clear ha829 a829
       refine wl_skip ha830 rfl rfl rfl ?_
       intro a831 ha831; clear ha830 a830
       refine wl_val ha831 rfl rfl rfl (op_pick_t ha831 rfl rfl rfl) ?_
       intro a832 ha832; clear ha831 a831
       refine wl_val ha832 rfl rfl rfl (op_move ha832 rfl rfl) ?_
       intro a833 ha833; clear ha832 a832
       refine wl_skip ha833 rfl rfl rfl ?_
       intro a834 ha834; clear ha833 a833
       refine wl_skip ha834 rfl rfl rfl ?_
       intro a835 ha835; clear ha834 a834
       refine wl_skip ha835 rfl rfl rfl ?_
       intro a836 ha836; clear ha835 a835
       refine wl_skip ha836 rfl rfl rfl ?_
       intro a837 ha837; clear ha836 a836
       refine wl_val ha837 rfl rfl rfl (op_pick_t ha837 rfl rfl rfl) ?_
       intro a838 ha838; clear ha837 a837
       refine wl_val ha838 rfl rfl rfl (op_move ha838 rfl rfl) ?_
       intro a839 ha839; clear ha838 a838
       refine wl_skip ha839 rfl rfl rfl ?_
       intro a840 ha840; clear ha839 a839
       refine wl_skip ha840 rfl rfl rfl ?_
       intro a841 ha841; clear ha840 a840
       refine wl_skip ha841 rfl rfl rfl ?_
       intro a842 ha842; clear ha841 a841
       refine wl_skip ha842 rfl rfl rfl ?_
       intro a843 ha843; clear ha842 a842
       refine wl_skip ha843 rfl rfl rfl ?_
       intro a844 ha844; clear ha843 a843
       refine wl_val ha844 rfl rfl rfl (op_pick_t ha844 rfl rfl rfl) ?_
       intro a845 ha845; clear ha844 a844
       refine wl_val ha845 rfl rfl rfl (op_move ha845 rfl rfl) ?_
       intro a846 ha846; clear ha845 a845
       refine wl_skip ha846 rfl rfl rfl ?_
       intro a847 ha847; clear ha846 a846
       refine wl_skip ha847 rfl rfl rfl ?_
       intro a848 ha848; clear ha847 a847
       refine wl_skip ha848 rfl rfl rfl ?_
       intro a849 ha849; clear ha848 a848
       refine wl_val ha849 rfl rfl rfl (op_pick_t ha849 rfl rfl rfl) ?_
       intro a850 ha850; clear ha849 a849
       refine wpList_nil ?_
       refine then_n ?_
       refine cond_t ha850 rfl ?_
       refine wp_seq ?_
       clear ho19 ho57 ho71 ho117 hb133 ho142 ho156 ho169 ho182
       refine wp_region_lit ?_
       refine wl_val ha850 rfl rfl rfl (op_assign ha850 rfl rfl) ?_
       intro a851 ha851; clear ha850 a850
       refine wpList_nil ?_
       refine then_n ?_
       refine wp_ret ?_
       refine then_r ?_
       refine ret1 ha851 rfl rfl ?_
       clear ha851 a851
       exact ret_mk hx212 (congrArg Value.bool (by first | rfl | (exact absurd rfl c228) | (simp at c8; done) | (rw [hwa] at *; omega) | (rw [hwb] at *; omega) | (rw [decide_eq_true_eq, hcv0]; have hd6 := hd6; omega) | (rw [decide_eq_true_eq, hcv0, hcv1]; omega) | (exact absurd (hd7 (by omega)) c228) | (exact absurd hae c228) | (rw [ha1] at c228; cases c228) | (exact absurd (hd7 (by omega)) c8) | (exact absurd hae c8) | (rw [ha1] at c8; cases c8) | omega))
     ·
      rw [decide_eq_false c222] at ha221
      refine wl_skip ha221 rfl rfl rfl ?_
      intro a852 ha852; clear ha221 a221
      refine wl_skip ha852 rfl rfl rfl ?_
      intro a853 ha853; clear ha852 a852
      refine wl_skip ha853 rfl rfl rfl ?_
      intro a854 ha854; clear ha853 a853
      refine wl_val ha854 rfl rfl rfl (op_pick_t ha854 rfl rfl rfl) ?_
      intro a855 ha855; clear ha854 a854
      refine wl_val ha855 rfl rfl rfl (op_move ha855 rfl rfl) ?_
      intro a856 ha856; clear ha855 a855
      refine wl_skip ha856 rfl rfl rfl ?_
      intro a857 ha857; clear ha856 a856
      refine wl_skip ha857 rfl rfl rfl ?_
      intro a858 ha858; clear ha857 a857
      refine wl_skip ha858 rfl rfl rfl ?_
      intro a859 ha859; clear ha858 a858
      refine wl_val ha859 rfl rfl rfl (op_pick_t ha859 rfl rfl rfl) ?_
      intro a860 ha860; clear ha859 a859
      refine wl_val ha860 rfl rfl rfl (op_move ha860 rfl rfl) ?_
      intro a861 ha861; clear ha860 a860
      refine wl_skip ha861 rfl rfl rfl ?_
      intro a862 ha862; clear ha861 a861
      refine wl_skip ha862 rfl rfl rfl ?_
      intro a863 ha863; clear ha862 a862
      refine wl_skip ha863 rfl rfl rfl ?_
      intro a864 ha864; clear ha863 a863
      refine wl_val ha864 rfl rfl rfl (op_pick_t ha864 rfl rfl rfl) ?_
      intro a865 ha865; clear ha864 a864
      refine wl_val ha865 rfl rfl rfl (op_move ha865 rfl rfl) ?_
      intro a866 ha866; clear ha865 a865
      refine wl_skip ha866 rfl rfl rfl ?_
      intro a867 ha867; clear ha866 a866
      refine wl_skip ha867 rfl rfl rfl ?_
      intro a868 ha868; clear ha867 a867
      refine wl_skip ha868 rfl rfl rfl ?_
      intro a869 ha869; clear ha868 a868
      refine wl_skip ha869 rfl rfl rfl ?_
      intro a870 ha870; clear ha869 a869
      refine wl_val ha870 rfl rfl rfl (op_pick_t ha870 rfl rfl rfl) ?_
      intro a871 ha871; clear ha870 a870
      refine wl_val ha871 rfl rfl rfl (op_move ha871 rfl rfl) ?_
      intro a872 ha872; clear ha871 a871
      refine wl_skip ha872 rfl rfl rfl ?_
      intro a873 ha873; clear ha872 a872
      refine wl_skip ha873 rfl rfl rfl ?_
      intro a874 ha874; clear ha873 a873
      refine wl_skip ha874 rfl rfl rfl ?_
      intro a875 ha875; clear ha874 a874
      refine wl_val ha875 rfl rfl rfl (op_pick_t ha875 rfl rfl rfl) ?_
      intro a876 ha876; clear ha875 a875
      refine wl_val ha876 rfl rfl rfl (op_move ha876 rfl rfl) ?_
      intro a877 ha877; clear ha876 a876
      refine wl_skip ha877 rfl rfl rfl ?_
      intro a878 ha878; clear ha877 a877
      refine wl_skip ha878 rfl rfl rfl ?_
      intro a879 ha879; clear ha878 a878
      refine wl_skip ha879 rfl rfl rfl ?_
      intro a880 ha880; clear ha879 a879
      refine wl_skip ha880 rfl rfl rfl ?_
      intro a881 ha881; clear ha880 a880
      refine wl_val ha881 rfl rfl rfl (op_pick_t ha881 rfl rfl rfl) ?_
      intro a882 ha882; clear ha881 a881
      refine wl_val ha882 rfl rfl rfl (op_move ha882 rfl rfl) ?_
      intro a883 ha883; clear ha882 a882
      refine wl_skip ha883 rfl rfl rfl ?_
      intro a884 ha884; clear ha883 a883
      refine wl_skip ha884 rfl rfl rfl ?_
      intro a885 ha885; clear ha884 a884
      refine wl_skip ha885 rfl rfl rfl ?_
      intro a886 ha886; clear ha885 a885
      refine wl_skip ha886 rfl rfl rfl ?_
      intro a887 ha887; clear ha886 a886
      refine wl_skip ha887 rfl rfl rfl ?_
      intro a888 ha888; clear ha887 a887
      refine wl_val ha888 rfl rfl rfl (op_pick_t ha888 rfl rfl rfl) ?_
      intro a889 ha889; clear ha888 a888
      refine wl_val ha889 rfl rfl rfl (op_move ha889 rfl rfl) ?_
      intro a890 ha890; clear ha889 a889
      refine wl_skip ha890 rfl rfl rfl ?_
      intro a891 ha891; clear ha890 a890
      refine wl_skip ha891 rfl rfl rfl ?_
      intro a892 ha892; clear ha891 a891
      refine wl_skip ha892 rfl rfl rfl ?_
      intro a893 ha893; clear ha892 a892
      refine wl_val ha893 rfl rfl rfl (op_pick_t ha893 rfl rfl rfl) ?_
      intro a894 ha894; clear ha893 a893
      refine wpList_nil ?_
      refine then_n ?_
      refine cond_t ha894 rfl ?_
      refine wp_seq ?_
      clear ho19 ho57 ho71 ho117 hb133 ho142 ho156 ho169 ho182
      refine wp_region_lit ?_
      refine wl_val ha894 rfl rfl rfl (op_assign ha894 rfl rfl) ?_
      intro a895 ha895; clear ha894 a894
      refine wpList_nil ?_
      refine then_n ?_
      refine wp_ret ?_
      refine then_r ?_
      refine ret1 ha895 rfl rfl ?_
      clear ha895 a895
      exact ret_mk hx212 (congrArg Value.bool (by first | rfl | (exact absurd rfl c222) | (simp at c8; done) | (rw [hwa] at *; omega) | (rw [hwb] at *; omega) | (rw [decide_eq_true_eq, hcv0]; have hd6 := hd6; omega) | (rw [decide_eq_true_eq, hcv0, hcv1]; omega) | (exact absurd (hd7 (by omega)) c222) | (exact absurd hae c222) | (rw [ha1] at c222; cases c222) | (exact absurd (hd7 (by omega)) c8) | (exact absurd hae c8) | (rw [ha1] at c8; cases c8) | omega))
    ·
     rw [c216] at ha215
     refine wl_skip ha215 rfl rfl rfl ?_
     intro a896 ha896; clear ha215 a215
     refine wl_skip ha896 rfl rfl rfl ?_
     intro a897 ha897; clear ha896 a896
     refine wl_skip ha897 rfl rfl rfl ?_
     intro a898 ha898; clear ha897 a897
     refine wl_val ha898 rfl rfl rfl (op_pick_t ha898 rfl rfl rfl) ?_
     intro a899 ha899; clear ha898 a898
     refine wl_val ha899 rfl rfl rfl (op_move ha899 rfl rfl) ?_
     intro a900 ha900; clear ha899 a899
     refine wl_skip ha900 rfl rfl rfl ?_
     intro a901 ha901; clear ha900 a900
     refine wl_skip ha901 rfl rfl rfl ?_
     intro a902 ha902; clear ha901 a901
     refine wl_skip ha902 rfl rfl rfl ?_
     intro a903 ha903; clear ha902 a902
     refine wl_val ha903 rfl rfl rfl (op_pick_t ha903 rfl rfl rfl) ?_
     intro a904 ha904; clear ha903 a903
     refine wl_val ha904 rfl rfl rfl (op_move ha904 rfl rfl) ?_
     intro a905 ha905; clear ha904 a904
     refine wl_skip ha905 rfl rfl rfl ?_
     intro a906 ha906; clear ha905 a905
     refine wl_skip ha906 rfl rfl rfl ?_
     intro a907 ha907; clear ha906 a906
     refine wl_skip ha907 rfl rfl rfl ?_
     intro a908 ha908; clear ha907 a907
     refine wl_val ha908 rfl rfl rfl (op_pick_t ha908 rfl rfl rfl) ?_
     intro a909 ha909; clear ha908 a908
     refine wl_val ha909 rfl rfl rfl (op_move ha909 rfl rfl) ?_
     intro a910 ha910; clear ha909 a909
     refine wl_skip ha910 rfl rfl rfl ?_
     intro a911 ha911; clear ha910 a910
     refine wl_skip ha911 rfl rfl rfl ?_
     intro a912 ha912; clear ha911 a911
     refine wl_skip ha912 rfl rfl rfl ?_
     intro a913 ha913; clear ha912 a912
     refine wl_val ha913 rfl rfl rfl (op_pick_t ha913 rfl rfl rfl) ?_
     intro a914 ha914; clear ha913 a913
     refine wl_val ha914 rfl rfl rfl (op_move ha914 rfl rfl) ?_
     intro a915 ha915; clear ha914 a914
     refine wl_skip ha915 rfl rfl rfl ?_
     intro a916 ha916; clear ha915 a915
     refine wl_skip ha916 rfl rfl rfl ?_
     intro a917 ha917; clear ha916 a916
     refine wl_skip ha917 rfl rfl rfl ?_
     intro a918 ha918; clear ha917 a917
     refine wl_skip ha918 rfl rfl rfl ?_
     intro a919 ha919; clear ha918 a918
     refine wl_val ha919 rfl rfl rfl (op_pick_t ha919 rfl rfl rfl) ?_
     intro a920 ha920; clear ha919 a919
     refine wl_val ha920 rfl rfl rfl (op_move ha920 rfl rfl) ?_
     intro a921 ha921; clear ha920 a920
     refine wl_skip ha921 rfl rfl rfl ?_
     intro a922 ha922; clear ha921 a921
     refine wl_skip ha922 rfl rfl rfl ?_
     intro a923 ha923; clear ha922 a922
     refine wl_skip ha923 rfl rfl rfl ?_
     intro a924 ha924; clear ha923 a923
     refine wl_val ha924 rfl rfl rfl (op_pick_t ha924 rfl rfl rfl) ?_
     intro a925 ha925; clear ha924 a924
     refine wl_val ha925 rfl rfl rfl (op_move ha925 rfl rfl) ?_
     intro a926 ha926; clear ha925 a925
     refine wl_skip ha926 rfl rfl rfl ?_
     intro a927 ha927; clear ha926 a926
     refine wl_skip ha927 rfl rfl rfl ?_
     intro a928 ha928; clear ha927 a927
     refine wl_skip ha928 rfl rfl rfl ?_
     intro a929 ha929; clear ha928 a928
     refine wl_skip ha929 rfl rfl rfl ?_
     intro a930 ha930; clear ha929 a929
     refine wl_val ha930 rfl rfl rfl (op_pick_t ha930 rfl rfl rfl) ?_
     intro a931 ha931; clear ha930 a930
     refine wl_val ha931 rfl rfl rfl (op_move ha931 rfl rfl) ?_
     intro a932 ha932; clear ha931 a931
     refine wl_skip ha932 rfl rfl rfl ?_
     intro a933 ha933; clear ha932 a932
     refine wl_skip ha933 rfl rfl rfl ?_
     intro a934 ha934; clear ha933 a933
     refine wl_skip ha934 rfl rfl rfl ?_
     intro a935 ha935; clear ha934 a934
     refine wl_skip ha935 rfl rfl rfl ?_
     intro a936 ha936; clear ha935 a935
     refine wl_skip ha936 rfl rfl rfl ?_
     intro a937 ha937; clear ha936 a936
     refine wl_val ha937 rfl rfl rfl (op_pick_t ha937 rfl rfl rfl) ?_
     intro a938 ha938; clear ha937 a937
     refine wl_val ha938 rfl rfl rfl (op_move ha938 rfl rfl) ?_
     intro a939 ha939; clear ha938 a938
     refine wl_skip ha939 rfl rfl rfl ?_
     intro a940 ha940; clear ha939 a939
     refine wl_skip ha940 rfl rfl rfl ?_
     intro a941 ha941; clear ha940 a940
     refine wl_skip ha941 rfl rfl rfl ?_
     intro a942 ha942; clear ha941 a941
     refine wl_val ha942 rfl rfl rfl (op_pick_t ha942 rfl rfl rfl) ?_
     intro a943 ha943; clear ha942 a942
     refine wpList_nil ?_
     refine then_n ?_
     refine cond_t ha943 rfl ?_
     refine wp_seq ?_
     clear ho19 ho57 ho71 ho117 hb133 ho142 ho156 ho169 ho182
     refine wp_region_lit ?_
     refine wl_val ha943 rfl rfl rfl (op_assign ha943 rfl rfl) ?_
     intro a944 ha944; clear ha943 a943
     refine wpList_nil ?_
     refine then_n ?_
     refine wp_ret ?_
     refine then_r ?_
     refine ret1 ha944 rfl rfl ?_
     clear ha944 a944
     exact ret_mk hx212 (congrArg Value.bool (by first | rfl | (exact absurd rfl c216) | (rw [eqL_self] at c216; cases c216) | (simp at c8; done) | (rw [hwa] at *; omega) | (rw [hwb] at *; omega) | (rw [decide_eq_true_eq, hcv0]; have hd6 := hd6; omega) | (rw [decide_eq_true_eq, hcv0, hcv1]; omega) | (exact absurd (hd7 (by omega)) c216) | (exact absurd hae c216) | (rw [ha1] at c216; cases c216) | (exact absurd (hd7 (by omega)) c8) | (exact absurd hae c8) | (rw [ha1] at c8; cases c8) | omega))
   ·
    rw [decide_eq_false c200] at ha199
    refine wl_skip ha199 rfl rfl rfl ?_
    intro a945 ha945; clear ha199 a199
    refine wl_skip ha945 rfl rfl rfl ?_
    intro a946 ha946; clear ha945 a945
    refine wl_skip ha946 rfl rfl rfl ?_
    intro a947 ha947; clear ha946 a946
    refine wl_val ha947 rfl rfl rfl (op_pick_t ha947 rfl rfl rfl) ?_
    intro a948 ha948; clear ha947 a947
    refine wl_val ha948 rfl rfl rfl (op_move ha948 rfl rfl) ?_
    intro a949 ha949; clear ha948 a948
    refine wl_skip ha949 rfl rfl rfl ?_
    intro a950 ha950; clear ha949 a949
    refine wl_skip ha950 rfl rfl rfl ?_
    intro a951 ha951; clear ha950 a950
    refine wl_skip ha951 rfl rfl rfl ?_
    intro a952 ha952; clear ha951 a951
    refine wl_skip ha952 rfl rfl rfl ?_
    intro a953 ha953; clear ha952 a952
    refine wl_val ha953 rfl rfl rfl (op_pick_t ha953 rfl rfl rfl) ?_
    intro a954 ha954; clear ha953 a953
    refine wl_val ha954 rfl rfl rfl (op_move ha954 rfl rfl) ?_
    intro a955 ha955; clear ha954 a954
    refine wl_skip ha955 rfl rfl rfl ?_
    intro a956 ha956; clear ha955 a955
    refine wl_skip ha956 rfl rfl rfl ?_
    intro a957 ha957; clear ha956 a956
    refine wl_skip ha957 rfl rfl rfl ?_
    intro a958 ha958; clear ha957 a957
    refine wl_val ha958 rfl rfl rfl (op_pick_t ha958 rfl rfl rfl) ?_
    intro a959 ha959; clear ha958 a958
    refine wl_val ha959 rfl rfl rfl (op_move ha959 rfl rfl) ?_
    intro a960 ha960; clear ha959 a959
    refine wl_skip ha960 rfl rfl rfl ?_
    intro a961 ha961; clear ha960 a960
    refine wl_skip ha961 rfl rfl rfl ?_
    intro a962 ha962; clear ha961 a961
    refine wl_skip ha962 rfl rfl rfl ?_
    intro a963 ha963; clear ha962 a962
    refine wl_val ha963 rfl rfl rfl (op_pick_t ha963 rfl rfl rfl) ?_
    intro a964 ha964; clear ha963 a963
    refine wl_val ha964 rfl rfl rfl (op_move ha964 rfl rfl) ?_
    intro a965 ha965; clear ha964 a964
    refine wl_skip ha965 rfl rfl rfl ?_
    intro a966 ha966; clear ha965 a965
    refine wl_skip ha966 rfl rfl rfl ?_
    intro a967 ha967; clear ha966 a966
    refine wl_skip ha967 rfl rfl rfl ?_
    intro a968 ha968; clear ha967 a967
    refine wl_val ha968 rfl rfl rfl (op_pick_t ha968 rfl rfl rfl) ?_
    intro a969 ha969; clear ha968 a968
    refine wl_val ha969 rfl rfl rfl (op_move ha969 rfl rfl) ?_
    intro a970 ha970; clear ha969 a969
    refine wl_skip ha970 rfl rfl rfl ?_
    intro a971 ha971; clear ha970 a970
    refine wl_skip ha971 rfl rfl rfl ?_
    intro a972 ha972; clear ha971 a971
    refine wl_skip ha972 rfl rfl rfl ?_
    intro a973 ha973; clear ha972 a972
    refine wl_val ha973 rfl rfl rfl (op_pick_t ha973 rfl rfl rfl) ?_
    intro a974 ha974; clear ha973 a973
    refine wl_val ha974 rfl rfl rfl (op_move ha974 rfl rfl) ?_
    intro a975 ha975; clear ha974 a974
    refine wl_skip ha975 rfl rfl rfl ?_
    intro a976 ha976; clear ha975 a975
    refine wl_skip ha976 rfl rfl rfl ?_
    intro a977 ha977; clear ha976 a976
    refine wl_skip ha977 rfl rfl rfl ?_
    intro a978 ha978; clear ha977 a977
    refine wl_skip ha978 rfl rfl rfl ?_
    intro a979 ha979; clear ha978 a978
    refine wl_val ha979 rfl rfl rfl (op_pick_t ha979 rfl rfl rfl) ?_
    intro a980 ha980; clear ha979 a979
    refine wl_val ha980 rfl rfl rfl (op_move ha980 rfl rfl) ?_
    intro a981 ha981; clear ha980 a980
    refine wl_skip ha981 rfl rfl rfl ?_
    intro a982 ha982; clear ha981 a981
    refine wl_skip ha982 rfl rfl rfl ?_
    intro a983 ha983; clear ha982 a982
    refine wl_skip ha983 rfl rfl rfl ?_
    intro a984 ha984; clear ha983 a983
    refine wl_val ha984 rfl rfl rfl (op_pick_t ha984 rfl rfl rfl) ?_
    intro a985 ha985; clear ha984 a984
    refine wl_val ha985 rfl rfl rfl (op_move ha985 rfl rfl) ?_
    intro a986 ha986; clear ha985 a985
    refine wl_skip ha986 rfl rfl rfl ?_
    intro a987 ha987; clear ha986 a986
    refine wl_skip ha987 rfl rfl rfl ?_
    intro a988 ha988; clear ha987 a987
    refine wl_skip ha988 rfl rfl rfl ?_
    intro a989 ha989; clear ha988 a988
    refine wl_skip ha989 rfl rfl rfl ?_
    intro a990 ha990; clear ha989 a989
    refine wl_val ha990 rfl rfl rfl (op_pick_t ha990 rfl rfl rfl) ?_
    intro a991 ha991; clear ha990 a990
    refine wl_val ha991 rfl rfl rfl (op_move ha991 rfl rfl) ?_
    intro a992 ha992; clear ha991 a991
    refine wl_skip ha992 rfl rfl rfl ?_
    intro a993 ha993; clear ha992 a992
    refine wl_skip ha993 rfl rfl rfl ?_
    intro a994 ha994; clear ha993 a993
    refine wl_skip ha994 rfl rfl rfl ?_
    intro a995 ha995; clear ha994 a994
    refine wl_skip ha995 rfl rfl rfl ?_
    intro a996 ha996; clear ha995 a995
    refine wl_skip ha996 rfl rfl rfl ?_
    intro a997 ha997; clear ha996 a996
    refine wl_val ha997 rfl rfl rfl (op_pick_t ha997 rfl rfl rfl) ?_
    intro a998 ha998; clear ha997 a997
    refine wl_val ha998 rfl rfl rfl (op_move ha998 rfl rfl) ?_
    intro a999 ha999; clear ha998 a998
    refine wl_skip ha999 rfl rfl rfl ?_
    intro a1000 ha1000; clear ha999 a999
    refine wl_skip ha1000 rfl rfl rfl ?_
    intro a1001 ha1001; clear ha1000 a1000
    refine wl_skip ha1001 rfl rfl rfl ?_
    intro a1002 ha1002; clear ha1001 a1001
    refine wl_val ha1002 rfl rfl rfl (op_pick_t ha1002 rfl rfl rfl) ?_
    intro a1003 ha1003; clear ha1002 a1002
    refine wpList_nil ?_
    refine then_n ?_
    refine cond_t ha1003 rfl ?_
    refine wp_seq ?_
    clear ho19 ho57 ho71 ho117 hb133 ho142 ho156 ho169 ho182
    refine wp_region_lit ?_
    refine wl_val ha1003 rfl rfl rfl (op_assign ha1003 rfl rfl) ?_
    intro a1004 ha1004; clear ha1003 a1003
    refine wpList_nil ?_
    refine then_n ?_
    refine wp_ret ?_
    refine then_r ?_
    refine ret1 ha1004 rfl rfl ?_
    clear ha1004 a1004
    exact ret_mk hx184 (congrArg Value.bool (by first | rfl | (exact absurd rfl c200) | (simp at c8; done) | (rw [hwa] at *; omega) | (rw [hwb] at *; omega) | (rw [decide_eq_true_eq, hcv0]; have hd6 := hd6; omega) | (rw [decide_eq_true_eq, hcv0, hcv1]; omega) | (exact absurd (hd7 (by omega)) c200) | (exact absurd hae c200) | (rw [ha1] at c200; cases c200) | (exact absurd (hd7 (by omega)) c8) | (exact absurd hae c8) | (rw [ha1] at c8; cases c8) | omega))
  ·
   rw [decide_eq_false c194] at ha193
   refine wl_skip ha193 rfl rfl rfl ?_
   intro a1005 ha1005; clear ha193 a193
   refine wl_skip ha1005 rfl rfl rfl ?_
   intro a1006 ha1006; clear ha1005 a1005
   refine wl_skip ha1006 rfl rfl rfl ?_
   intro a1007 ha1007; clear ha1006 a1006
   refine wl_val ha1007 rfl rfl rfl (op_pick_t ha1007 rfl rfl rfl) ?_
   intro a1008 ha1008; clear ha1007 a1007
   refine wl_val ha1008 rfl rfl rfl (op_move ha1008 rfl rfl) ?_
   intro a1009 ha1009; clear ha1008 a1008
   refine wl_skip ha1009 rfl rfl rfl ?_
   intro a1010 ha1010; clear ha1009 a1009
   refine wl_skip ha1010 rfl rfl rfl ?_
   intro a1011 ha1011; clear ha1010 a1010
   refine wl_skip ha1011 rfl rfl rfl ?_
   intro a1012 ha1012; clear ha1011 a1011
   refine wl_val ha1012 rfl rfl rfl (op_pick_t ha1012 rfl rfl rfl) ?_
   intro a1013 ha1013; clear ha1012 a1012
   refine wl_val ha1013 rfl rfl rfl (op_move ha1013 rfl rfl) ?_
   intro a1014 ha1014; clear ha1013 a1013
   refine wl_skip ha1014 rfl rfl rfl ?_
   intro a1015 ha1015; clear ha1014 a1014
   refine wl_skip ha1015 rfl rfl rfl ?_
   intro a1016 ha1016; clear ha1015 a1015
   refine wl_skip ha1016 rfl rfl rfl ?_
   intro a1017 ha1017; clear ha1016 a1016
   refine wl_skip ha1017 rfl rfl rfl ?_
   intro a1018 ha1018; clear ha1017 a1017
   refine wl_val ha1018 rfl rfl rfl (op_pick_t ha1018 rfl rfl rfl) ?_
   intro a1019 ha1019; clear ha1018 a1018
   refine wl_val ha1019 rfl rfl rfl (op_move ha1019 rfl rfl) ?_
   intro a1020 ha1020; clear ha1019 a1019
   refine wl_skip ha1020 rfl rfl rfl ?_
   intro a1021 ha1021; clear ha1020 a1020
   refine wl_skip ha1021 rfl rfl rfl ?_
   intro a1022 ha1022; clear ha1021 a1021
   refine wl_skip ha1022 rfl rfl rfl ?_
   intro a1023 ha1023; clear ha1022 a1022
   refine wl_val ha1023 rfl rfl rfl (op_pick_t ha1023 rfl rfl rfl) ?_
   intro a1024 ha1024; clear ha1023 a1023
   refine wl_val ha1024 rfl rfl rfl (op_move ha1024 rfl rfl) ?_
   intro a1025 ha1025; clear ha1024 a1024
   refine wl_skip ha1025 rfl rfl rfl ?_
   intro a1026 ha1026; clear ha1025 a1025
   refine wl_skip ha1026 rfl rfl rfl ?_
   intro a1027 ha1027; clear ha1026 a1026
   refine wl_skip ha1027 rfl rfl rfl ?_
   intro a1028 ha1028; clear ha1027 a1027
   refine wl_val ha1028 rfl rfl rfl (op_pick_t ha1028 rfl rfl rfl) ?_
   intro a1029 ha1029; clear ha1028 a1028
   refine wl_val ha1029 rfl rfl rfl (op_move ha1029 rfl rfl) ?_
   intro a1030 ha1030; clear ha1029 a1029
   refine wl_skip ha1030 rfl rfl rfl ?_
   intro a1031 ha1031; clear ha1030 a1030
   refine wl_skip ha1031 rfl rfl rfl ?_
   intro a1032 ha1032; clear ha1031 a1031
   refine wl_skip ha1032 rfl rfl rfl ?_
   intro a1033 ha1033; clear ha1032 a1032
   refine wl_val ha1033 rfl rfl rfl (op_pick_t ha1033 rfl rfl rfl) ?_
   intro a1034 ha1034; clear ha1033 a1033
   refine wl_val ha1034 rfl rfl rfl (op_move ha1034 rfl rfl) ?_
   intro a1035 ha1035; clear ha1034 a1034
   refine wl_skip ha1035 rfl rfl rfl ?_
   intro a1036 ha1036; clear ha1035 a1035
   refine wl_skip ha1036 rfl rfl rfl ?_
   intro a1037 ha1037; clear ha1036 a1036
   refine wl_skip ha1037 rfl rfl rfl ?_
   intro a1038 ha1038; clear ha1037 a1037
   refine wl_val ha1038 rfl rfl rfl (op_pick_t ha1038 rfl rfl rfl) ?_
   intro a1039 ha1039; clear ha1038 a1038
   refine wl_val ha1039 rfl rfl rfl (op_move ha1039 rfl rfl) ?_
   intro a1040 ha1040; clear ha1039 a1039
   refine wl_skip ha1040 rfl rfl rfl ?_
   intro a1041 ha1041; clear ha1040 a1040
   refine wl_skip ha1041 rfl rfl rfl ?_
   intro a1042 ha1042; clear ha1041 a1041
   refine wl_skip ha1042 rfl rfl rfl ?_
   intro a1043 ha1043; clear ha1042 a1042
   refine wl_skip ha1043 rfl rfl rfl ?_
   intro a1044 ha1044; clear ha1043 a1043
   refine wl_val ha1044 rfl rfl rfl (op_pick_t ha1044 rfl rfl rfl) ?_
   intro a1045 ha1045; clear ha1044 a1044
   refine wl_val ha1045 rfl rfl rfl (op_move ha1045 rfl rfl) ?_
   intro a1046 ha1046; clear ha1045 a1045
   refine wl_skip ha1046 rfl rfl rfl ?_
   intro a1047 ha1047; clear ha1046 a1046
   refine wl_skip ha1047 rfl rfl rfl ?_
   intro a1048 ha1048; clear ha1047 a1047
   refine wl_skip ha1048 rfl rfl rfl ?_
   intro a1049 ha1049; clear ha1048 a1048
   refine wl_val ha1049 rfl rfl rfl (op_pick_t ha1049 rfl rfl rfl) ?_
   intro a1050 ha1050; clear ha1049 a1049
   refine wl_val ha1050 rfl rfl rfl (op_move ha1050 rfl rfl) ?_
   intro a1051 ha1051; clear ha1050 a1050
   refine wl_skip ha1051 rfl rfl rfl ?_
   intro a1052 ha1052; clear ha1051 a1051
   refine wl_skip ha1052 rfl rfl rfl ?_
   intro a1053 ha1053; clear ha1052 a1052
   refine wl_skip ha1053 rfl rfl rfl ?_
   intro a1054 ha1054; clear ha1053 a1053
   refine wl_skip ha1054 rfl rfl rfl ?_
   intro a1055 ha1055; clear ha1054 a1054
   refine wl_val ha1055 rfl rfl rfl (op_pick_t ha1055 rfl rfl rfl) ?_
   intro a1056 ha1056; clear ha1055 a1055
   refine wl_val ha1056 rfl rfl rfl (op_move ha1056 rfl rfl) ?_
   intro a1057 ha1057; clear ha1056 a1056
   refine wl_skip ha1057 rfl rfl rfl ?_
   intro a1058 ha1058; clear ha1057 a1057
   refine wl_skip ha1058 rfl rfl rfl ?_
   intro a1059 ha1059; clear ha1058 a1058
   refine wl_skip ha1059 rfl rfl rfl ?_
   intro a1060 ha1060; clear ha1059 a1059
   refine wl_skip ha1060 rfl rfl rfl ?_
   intro a1061 ha1061; clear ha1060 a1060
   refine wl_skip ha1061 rfl rfl rfl ?_
   intro a1062 ha1062; clear ha1061 a1061
   refine wl_val ha1062 rfl rfl rfl (op_pick_t ha1062 rfl rfl rfl) ?_
   intro a1063 ha1063; clear ha1062 a1062
   refine wl_val ha1063 rfl rfl rfl (op_move ha1063 rfl rfl) ?_
   intro a1064 ha1064; clear ha1063 a1063
   refine wl_skip ha1064 rfl rfl rfl ?_
   intro a1065 ha1065; clear ha1064 a1064
   refine wl_skip ha1065 rfl rfl rfl ?_
   intro a1066 ha1066; clear ha1065 a1065
   refine wl_skip ha1066 rfl rfl rfl ?_
   intro a1067 ha1067; clear ha1066 a1066
   refine wl_val ha1067 rfl rfl rfl (op_pick_t ha1067 rfl rfl rfl) ?_
   intro a1068 ha1068; clear ha1067 a1067
   refine wpList_nil ?_
   refine then_n ?_
   refine cond_t ha1068 rfl ?_
   refine wp_seq ?_
   clear ho19 ho57 ho71 ho117 hb133 ho142 ho156 ho169 ho182
   refine wp_region_lit ?_
   refine wl_val ha1068 rfl rfl rfl (op_assign ha1068 rfl rfl) ?_
   intro a1069 ha1069; clear ha1068 a1068
   refine wpList_nil ?_
   refine then_n ?_
   refine wp_ret ?_
   refine then_r ?_
   refine ret1 ha1069 rfl rfl ?_
   clear ha1069 a1069
   exact ret_mk hx184 (congrArg Value.bool (by first | rfl | (exact absurd rfl c194) | (simp at c8; done) | (rw [hwa] at *; omega) | (rw [hwb] at *; omega) | (rw [decide_eq_true_eq, hcv0]; have hd6 := hd6; omega) | (rw [decide_eq_true_eq, hcv0, hcv1]; omega) | (exact absurd (hd7 (by omega)) c194) | (exact absurd hae c194) | (rw [ha1] at c194; cases c194) | (exact absurd (hd7 (by omega)) c8) | (exact absurd hae c8) | (rw [ha1] at c8; cases c8) | omega))


end Go.Proofs.Ytocedhbefdaefaa
