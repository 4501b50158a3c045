/- A bike for a customer. -/
import Derived.Test.YthbkedflhmeohaaW4
import Derived.Test.YthbkedflhmeohaaL2
namespace Go.Proofs.Ythbkedflhmeohaa
open Go Go.RowKit

def cd3 (xs : List Cust) (n b : Str) : Int := if (cuB xs && wordB n) && wordB b then (if fnI xs n < 0 then 4 else 0) else 1
theorem cd3_ok {xs : List Cust} {n b : Str} (h : cd3 xs n b = 0) : cuB xs = true ∧ wordB n = true ∧ wordB b = true ∧ ¬ fnI xs n < 0 := by
  unfold cd3 at h
  split at h
  · rename_i h1
    simp only [Bool.and_eq_true] at h1
    split at h
    · cases h
    · exact ⟨h1.1.1, h1.1.2, h1.2, ‹_›⟩
  · cases h
def gvC (xs : List Cust) (n b : Str) : Int := if cd3 xs n b = 0 then (if 0 ≤ owI xs b then 5 else if (bikesAt xs (fnI xs n).toNat).length = 5 then 3 else 0) else cd3 xs n b
def gvL (xs : List Cust) (n b : Str) : List Cust := if gvC xs n b = 0 then setB xs (fnI xs n).toNat (liL b (bikesAt xs (fnI xs n).toNat)) else []
theorem gvL_bad {xs : List Cust} {n b : Str} (h : gvC xs n b ≠ 0) : gvL xs n b = [] := if_neg h
theorem cd3_1 {xs : List Cust} {n b : Str} (h : cuB xs = false ∨ wordB n = false ∨ wordB b = false) : cd3 xs n b = 1 := by
  unfold cd3; rw [if_neg]; simp only [Bool.and_eq_true]; rintro ⟨⟨h1, h2⟩, h3⟩
  rcases h with h | h | h
  · rw [h] at h1; cases h1
  · rw [h] at h2; cases h2
  · rw [h] at h3; cases h3
theorem cd3_4 {xs : List Cust} {n b : Str} (h1 : cuB xs = true) (h2 : wordB n = true) (h3 : wordB b = true) (h : fnI xs n < 0) : cd3 xs n b = 4 := by unfold cd3; rw [if_pos (by simp [h1, h2, h3]), if_pos h]
theorem cd3_0 {xs : List Cust} {n b : Str} (h1 : cuB xs = true) (h2 : wordB n = true) (h3 : wordB b = true) (h : ¬ fnI xs n < 0) : cd3 xs n b = 0 := by unfold cd3; rw [if_pos (by simp [h1, h2, h3]), if_neg h]
theorem gvC_c {xs : List Cust} {n b : Str} {k : Int} (h : cd3 xs n b = k) (hk : k ≠ 0) : gvC xs n b = k := by unfold gvC; rw [if_neg (by rw [h]; exact hk), h]
theorem gvC_5 {xs : List Cust} {n b : Str} (h : cd3 xs n b = 0) (h1 : 0 ≤ owI xs b) : gvC xs n b = 5 := by unfold gvC; rw [if_pos h, if_pos h1]
theorem gvC_3 {xs : List Cust} {n b : Str} {c : Cust} (h : cd3 xs n b = 0) (h1 : ¬ 0 ≤ owI xs b) (hc : xs[(fnI xs n).toNat]? = some c) (h2 : c.2.2.length = 5) : gvC xs n b = 3 := by unfold gvC; rw [if_pos h, if_neg h1, bikesAt_eq hc, if_pos h2]
theorem gvC_0 {xs : List Cust} {n b : Str} {c : Cust} (h : cd3 xs n b = 0) (h1 : ¬ 0 ≤ owI xs b) (hc : xs[(fnI xs n).toNat]? = some c) (h2 : ¬ c.2.2.length = 5) : gvC xs n b = 0 ∧ gvL xs n b = xs.set (fnI xs n).toNat (c.1, c.2.1, liL b c.2.2) := by
  have e : gvC xs n b = 0 := by unfold gvC; rw [if_pos h, if_neg h1, bikesAt_eq hc, if_neg h2]
  exact ⟨e, by unfold gvL; rw [if_pos e, setB_eq hc, bikesAt_eq hc]⟩
def seC (xs : List Cust) (b n : Str) : Int := if cd3 xs n b = 0 then (if owI xs b < 0 then 4 else if owI xs b = fnI xs n then 5 else if (bikesAt xs (fnI xs n).toNat).length = 5 then 3 else 0) else cd3 xs n b
def seL (xs : List Cust) (b n : Str) : List Cust := if seC xs b n = 0 then setB (setB xs (owI xs b).toNat (woL b (bikesAt xs (owI xs b).toNat))) (fnI xs n).toNat (liL b (bikesAt xs (fnI xs n).toNat)) else []
theorem seL_bad {xs : List Cust} {n b : Str} (h : seC xs b n ≠ 0) : seL xs b n = [] := if_neg h
theorem seC_c {xs : List Cust} {n b : Str} {k : Int} (h : cd3 xs n b = k) (hk : k ≠ 0) : seC xs b n = k := by unfold seC; rw [if_neg (by rw [h]; exact hk), h]
theorem seC_4 {xs : List Cust} {n b : Str} (h1 : cuB xs = true) (h2 : wordB n = true) (h3 : wordB b = true) (h : owI xs b < 0 ∨ fnI xs n < 0) : seC xs b n = 4 := by
  by_cases hf : fnI xs n < 0
  · exact seC_c (cd3_4 h1 h2 h3 hf) (by decide)
  · unfold seC; rw [if_pos (cd3_0 h1 h2 h3 hf), if_pos (h.resolve_right hf)]
theorem seC_5 {xs : List Cust} {n b : Str} (h : cd3 xs n b = 0) (h0 : ¬ owI xs b < 0) (h1 : owI xs b = fnI xs n) : seC xs b n = 5 := by unfold seC; rw [if_pos h, if_neg h0, if_pos h1]
theorem seC_3 {xs : List Cust} {n b : Str} {c : Cust} (h : cd3 xs n b = 0) (h0 : ¬ owI xs b < 0) (h1 : ¬ owI xs b = fnI xs n) (hc : xs[(fnI xs n).toNat]? = some c) (h2 : c.2.2.length = 5) : seC xs b n = 3 := by unfold seC; rw [if_pos h, if_neg h0, if_neg h1, bikesAt_eq hc, if_pos h2]
theorem seC_0 {xs : List Cust} {n b : Str} {c d : Cust} (h : cd3 xs n b = 0) (h0 : ¬ owI xs b < 0) (h1 : ¬ owI xs b = fnI xs n) (hc : xs[(fnI xs n).toNat]? = some c) (h2 : ¬ c.2.2.length = 5) (hd : xs[(owI xs b).toNat]? = some d) :
    seC xs b n = 0 ∧ seL xs b n = (xs.set (owI xs b).toNat (d.1, d.2.1, woL b d.2.2)).set (fnI xs n).toNat (c.1, c.2.1, liL b c.2.2) ∧ b ∉ c.2.2 := by
  obtain ⟨k1, k2, k3, k4⟩ := cd3_ok h
  have e : seC xs b n = 0 := by unfold seC; rw [if_pos h, if_neg h0, if_neg h1, bikesAt_eq hc, if_neg h2]
  have hne : (owI xs b).toNat ≠ (fnI xs n).toNat := by omega
  refine ⟨e, ?_, fun hb => ?_⟩
  · unfold seL; rw [if_pos e, setB_eq hd, bikesAt_eq hd, setB_eq (c := c) (by rw [List.getElem?_set_ne hne]; exact hc), bikesAt_eq hc]
  · obtain ⟨d', hd', hb'⟩ := owI_some h0
    exact hne (cu_only k1 hd' hc hb' hb)
theorem gvL_len (xs : List Cust) (n b : Str) : (gvL xs n b).length ≤ xs.length := by
  unfold gvL setB; split
  · split <;> simp
  · simp
theorem seL_len (xs : List Cust) (b n : Str) : (seL xs b n).length ≤ xs.length := by
  unfold seL setB; split
  · split <;> split <;> simp
  · simp
theorem set_self {α : Type} {xs : List α} {i : Nat} {x : α} (h : xs[i]? = some x) : xs.set i x = xs := by
  obtain ⟨hi, rfl⟩ := List.getElem?_eq_some_iff.1 h
  exact List.set_getElem_self hi
theorem some_eq {α : Type} {o : Option α} {x y : α} (h : o = some x) (k : o = some y) : y = x := by rw [h] at k; exact (Option.some.inj k).symm
def insL (bs acc : List Str) : List Str := bs.foldl (fun acc b => liL b acc) acc
theorem insL_mem {z : Str} : ∀ {bs acc : List Str}, z ∈ insL bs acc ↔ z ∈ acc ∨ z ∈ bs
  | [], acc => by simp [insL]
  | b :: bs, acc => by
    have := insL_mem (z := z) (bs := bs) (acc := liL b acc)
    unfold insL at this ⊢
    rw [List.foldl_cons, this, liL_mem, List.mem_cons]
    constructor
    · rintro ((e | e) | e) <;> simp [e]
    · rintro (e | e | e) <;> simp [e]
theorem insL_len : ∀ (bs acc : List Str), (insL bs acc).length = acc.length + bs.length
  | [], acc => by simp [insL]
  | b :: bs, acc => by
    have := insL_len bs (liL b acc); unfold insL at this ⊢
    rw [List.foldl_cons, this, liL_len, List.length_cons]; omega
theorem insL_snoc (bs acc : List Str) (b : Str) : insL (bs ++ [b]) acc = liL b (insL bs acc) := by unfold insL; rw [List.foldl_append]; rfl
def mcC (xs : List Cust) (p q : Str) : Int := if (cuB xs && wordB p) && wordB q then (if fnI xs p < 0 ∨ fnI xs q < 0 then 4 else if fnI xs p = fnI xs q then 5 else if 5 < (bikesAt xs (fnI xs p).toNat).length + (bikesAt xs (fnI xs q).toNat).length then 3 else 0) else 1
def mcO (xs : List Cust) (i k : Nat) (c d : Cust) : List Cust := (xs.set i (c.1, min c.2.1 d.2.1, insL d.2.2 c.2.2)).take k ++ (xs.set i (c.1, min c.2.1 d.2.1, insL d.2.2 c.2.2)).drop (k + 1)
def mcL (xs : List Cust) (p q : Str) : List Cust := if mcC xs p q = 0 then match xs[(fnI xs p).toNat]?, xs[(fnI xs q).toNat]? with
  | some c, some d => mcO xs (fnI xs p).toNat (fnI xs q).toNat c d
  | _, _ => []
  else []
theorem mcL_bad {xs : List Cust} {p q : Str} (h : mcC xs p q ≠ 0) : mcL xs p q = [] := if_neg h
theorem mcC_1 {xs : List Cust} {p q : Str} (h : cuB xs = false ∨ wordB p = false ∨ wordB q = false) : mcC xs p q = 1 := by
  unfold mcC; rw [if_neg]; simp only [Bool.and_eq_true]; rintro ⟨⟨h1, h2⟩, h3⟩
  rcases h with h | h | h
  · rw [h] at h1; cases h1
  · rw [h] at h2; cases h2
  · rw [h] at h3; cases h3
section
variable {xs : List Cust} {p q : Str} {c d : Cust} (h1 : cuB xs = true) (h2 : wordB p = true) (h3 : wordB q = true)
include h1 h2 h3
theorem mcC_4 (h : fnI xs p < 0 ∨ fnI xs q < 0) : mcC xs p q = 4 := by unfold mcC; rw [if_pos (by simp [h1, h2, h3]), if_pos h]
theorem mcC_5 (h : ¬ fnI xs p < 0) (h' : ¬ fnI xs q < 0) (h4 : fnI xs p = fnI xs q) : mcC xs p q = 5 := by unfold mcC; rw [if_pos (by simp [h1, h2, h3]), if_neg (by omega), if_pos h4]
theorem mcC_3 (h : ¬ fnI xs p < 0) (h' : ¬ fnI xs q < 0) (h4 : ¬ fnI xs p = fnI xs q) (hc : xs[(fnI xs p).toNat]? = some c) (hd : xs[(fnI xs q).toNat]? = some d) (h5 : 5 < c.2.2.length + d.2.2.length) : mcC xs p q = 3 := by
  unfold mcC; rw [if_pos (by simp [h1, h2, h3]), if_neg (by omega), if_neg h4, bikesAt_eq hc, bikesAt_eq hd, if_pos h5]
theorem mcC_0 (h : ¬ fnI xs p < 0) (h' : ¬ fnI xs q < 0) (h4 : ¬ fnI xs p = fnI xs q) (hc : xs[(fnI xs p).toNat]? = some c) (hd : xs[(fnI xs q).toNat]? = some d) (h5 : ¬ 5 < c.2.2.length + d.2.2.length) :
    mcC xs p q = 0 ∧ mcL xs p q = mcO xs (fnI xs p).toNat (fnI xs q).toNat c d := by
  have e : mcC xs p q = 0 := by unfold mcC; rw [if_pos (by simp [h1, h2, h3]), if_neg (by omega), if_neg h4, bikesAt_eq hc, bikesAt_eq hd, if_neg h5]
  exact ⟨e, by unfold mcL; rw [if_pos e, hc, hd]⟩
end
theorem mcL_len (xs : List Cust) (p q : Str) : (mcL xs p q).length ≤ xs.length := by
  unfold mcL; split
  · split
    · unfold mcO; simp; omega
    · simp
  · simp
/-- The next bike is not there yet. -/
theorem mc_new {xs : List Cust} (h : cuB xs = true) {i k j : Nat} {c d : Cust} {b : Str} (hc : xs[i]? = some c) (hd : xs[k]? = some d) (hik : i ≠ k) (hb : d.2.2[j]? = some b) : b ∉ insL (d.2.2.take j) c.2.2 := by
  intro hm
  rcases insL_mem.1 hm with e | e
  · exact hik (cu_only h hc hd e (List.mem_of_getElem? hb))
  · obtain ⟨q, hq⟩ := List.getElem?_of_mem e
    rw [List.getElem?_take] at hq
    split at hq
    · exact str_irr b (ups_at (bkB_ups (cuB_at h hd).1.bikes) ‹q < j› hq hb)
    · cases hq

theorem c_spec_l30Code (w0 : World) (v_list : Value) (list : List (Str × Int × List Str)) {S_list : Nat → Prop} (name : Str) (bike : Str) (h_list : Rds shCust S_list w0 v_list list) (g0 : list.length ≤ 1048576) (g1 : name.length ≤ 9223372036854775807) (g2 : bike.length ≤ 9223372036854775807) :
  Calls Try.prog 70 #[v_list, St name, St bike] w0 (Ret w0 (fun v _ => v = .int .i64 (cd3 list name bike))) := by
 refine enter (N := 26) Try.func70 rfl rfl rfl ?_
 intro a0 ha0
 have hx0 := Ext.rfl' w0
 have hl_list := h_list.length_le
 refine wp_seq ?_
 refine wp_region_lit ?_
 refine wl_val ha0 rfl rfl rfl (op_assign ha0 rfl rfl) ?_
 intro a1 ha1; clear ha0 a0
 refine wpList_nil ?_
 refine then_n ?_
 refine wp_seq ?_
 refine wp_block ?_
 refine wp_seq ?_
 refine wp_region_lit ?_
 refine wl_val ha1 rfl rfl rfl (op_move ha1 rfl rfl) ?_
 intro a2 ha2; clear ha1 a1
 refine wl_callR ha2 rfl rfl rfl (op_call ha2 rfl cb15 rfl) (c_spec_AreCustomers _ v_list list (h_list.ext pos_shCust hx0) (by first | assumption | omega | (simp; omega) | (intro c hc; have := cuOk_bd (cuB_el (by assumption) c hc); omega))) ?_
 rintro v3 w4 he5 rfl a6 ha6; clear ha2 a2
 have hx7 := hx0.trans' he5
 have hzhx7 := he5.size
 refine wl_val ha6 rfl rfl rfl (op_not ha6 rfl rfl) ?_
 intro a8 ha8; clear ha6 a6
 refine wl_val ha8 rfl rfl rfl (op_move ha8 rfl rfl) ?_
 intro a9 ha9; clear ha8 a8
 rcases Bool.eq_false_or_eq_true (cuB list) with c10 | c10
 ·
  rw [c10] at ha9
  have hlenc10 := cuB_len c10
  have hcuc10 := cuB_el c10
  refine wl_val ha9 rfl rfl rfl (op_move ha9 rfl rfl) ?_
  intro a11 ha11; clear ha9 a9
  refine wl_callR ha11 rfl rfl rfl (op_call ha11 rfl cb52 rfl) (c_spec_IsWord _ name (by first | assumption | omega | (simp; omega) | (intro c hc; have := cuOk_bd (cuB_el (by assumption) c hc); omega))) ?_
  rintro v12 w13 he14 rfl a15 ha15; clear ha11 a11
  have hx16 := hx7.trans' he14
  have hzhx16 := he14.size
  refine wl_val ha15 rfl rfl rfl (op_not ha15 rfl rfl) ?_
  intro a17 ha17; clear ha15 a15
  refine wl_val ha17 rfl rfl rfl (op_pick_f ha17 rfl rfl rfl) ?_
  intro a18 ha18; clear ha17 a17
  refine wl_val ha18 rfl rfl rfl (op_move ha18 rfl rfl) ?_
  intro a19 ha19; clear ha18 a18
  rcases Bool.eq_false_or_eq_true (wordB name) with c20 | c20
  ·
   rw [c20] at ha19
   refine wl_val ha19 rfl rfl rfl (op_move ha19 rfl rfl) ?_
   intro a21 ha21; clear ha19 a19
   refine wl_callR ha21 rfl rfl rfl (op_call ha21 rfl cb52 rfl) (c_spec_IsWord _ bike (by first | assumption | omega | (simp; omega) | (intro c hc; have := cuOk_bd (cuB_el (by assumption) c hc); omega))) ?_
   rintro v22 w23 he24 rfl a25 ha25; clear ha21 a21
   have hx26 := hx16.trans' he24
   have hzhx26 := he24.size
   refine wl_val ha25 rfl rfl rfl (op_not ha25 rfl rfl) ?_
   intro a27 ha27; clear ha25 a25
   refine wl_val ha27 rfl rfl rfl (op_pick_f ha27 rfl rfl rfl) ?_
   intro a28 ha28; clear ha27 a27
   refine wl_val ha28 rfl rfl rfl (op_assign ha28 rfl rfl) ?_
   intro a29 ha29; clear ha28 a28
   refine wpList_nil ?_
   refine then_n ?_
   rcases Bool.eq_false_or_eq_true (wordB bike) with c30 | c30
   ·
    rw [c30] at ha29
    refine cond_f ha29 rfl ?_
    refine wp_seq ?_
    refine wp_region_lit ?_
    refine wl_val ha29 rfl rfl rfl (op_move ha29 rfl rfl) ?_
    intro a31 ha31; clear ha29 a29
    refine wl_val ha31 rfl rfl rfl (op_move ha31 rfl rfl) ?_
    intro a32 ha32; clear ha31 a31
    refine wl_callR ha32 rfl rfl rfl (op_call ha32 rfl cb64 rfl) (c_spec_l30Find _ v_list list name (h_list.ext pos_shCust hx26)) ?_
    rintro v33 w34 he35 rfl a36 ha36; clear ha32 a32
    have hx37 := hx26.trans' he35
    have hzhx37 := he35.size
    refine wl_val ha36 rfl rfl rfl (op_lss ha36 rfl rfl rfl) ?_
    intro a38 ha38; clear ha36 a36
    refine wl_val ha38 rfl rfl rfl (op_assign ha38 rfl rfl) ?_
    intro a39 ha39; clear ha38 a38
    refine wpList_nil ?_
    refine then_n ?_
    by_cases c40 : (fnI list name : Int) < (0 : Int)
    ·
     rw [decide_eq_true c40] at ha39
     refine cond_t ha39 rfl ?_
     refine wp_seq ?_
     refine wp_region_lit ?_
     refine wl_val ha39 rfl rfl rfl (op_assign ha39 rfl rfl) ?_
     intro a41 ha41; clear ha39 a39
     refine wpList_nil ?_
     refine then_n ?_
     refine wp_ret ?_
     refine block_r ?_
     refine then_r ?_
     refine ret1 ha41 rfl rfl ?_
     clear ha41 a41
     exact ret_mk hx37 (int_eq (by exact (cd3_4 c10 c20 c30 c40).symm))
    ·
     rw [decide_eq_false c40] at ha39
     refine cond_f ha39 rfl ?_
     refine wp_skip ?_
     refine block_n ?_
     refine then_n ?_
     refine wp_seq ?_
     refine wp_region_lit ?_
     refine wl_val ha39 rfl rfl rfl (op_assign ha39 rfl rfl) ?_
     intro a42 ha42; clear ha39 a39
     refine wpList_nil ?_
     refine then_n ?_
     refine wp_ret ?_
     refine ret1 ha42 rfl rfl ?_
     clear ha42 a42
     exact ret_mk hx37 (int_eq (by exact (cd3_0 c10 c20 c30 c40).symm))
   ·
    rw [c30] at ha29
    refine cond_t ha29 rfl ?_
    refine wp_seq ?_
    refine wp_region_lit ?_
    refine wl_val ha29 rfl rfl rfl (op_assign ha29 rfl rfl) ?_
    intro a43 ha43; clear ha29 a29
    refine wpList_nil ?_
    refine then_n ?_
    refine wp_ret ?_
    refine block_r ?_
    refine then_r ?_
    refine ret1 ha43 rfl rfl ?_
    clear ha43 a43
    exact ret_mk hx26 (int_eq (by exact (cd3_1 (xs := list) (n := name) (b := bike) (.inr (.inr c30))).symm))
  ·
   rw [c20] at ha19
   refine wl_skip ha19 rfl rfl rfl ?_
   intro a44 ha44; clear ha19 a19
   refine wl_skip ha44 rfl rfl rfl ?_
   intro a45 ha45; clear ha44 a44
   refine wl_skip ha45 rfl rfl rfl ?_
   intro a46 ha46; clear ha45 a45
   refine wl_val ha46 rfl rfl rfl (op_pick_t ha46 rfl rfl rfl) ?_
   intro a47 ha47; clear ha46 a46
   refine wl_val ha47 rfl rfl rfl (op_assign ha47 rfl rfl) ?_
   intro a48 ha48; clear ha47 a47
   refine wpList_nil ?_
   refine then_n ?_
   refine cond_t ha48 rfl ?_
   refine wp_seq ?_
   refine wp_region_lit ?_
   refine wl_val ha48 rfl rfl rfl (op_assign ha48 rfl rfl) ?_
   intro a49 ha49; clear ha48 a48
   refine wpList_nil ?_
   refine then_n ?_
   refine wp_ret ?_
   refine block_r ?_
   refine then_r ?_
   refine ret1 ha49 rfl rfl ?_
   clear ha49 a49
   exact ret_mk hx16 (int_eq (by exact (cd3_1 (xs := list) (n := name) (b := bike) (.inr (.inl c20))).symm))
 ·
  rw [c10] at ha9
  refine wl_skip ha9 rfl rfl rfl ?_
  intro a50 ha50; clear ha9 a9
  refine wl_skip ha50 rfl rfl rfl ?_
  intro a51 ha51; clear ha50 a50
  refine wl_skip ha51 rfl rfl rfl ?_
  intro a52 ha52; clear ha51 a51
  refine wl_val ha52 rfl rfl rfl (op_pick_t ha52 rfl rfl rfl) ?_
  intro a53 ha53; clear ha52 a52
  refine wl_val ha53 rfl rfl rfl (op_move ha53 rfl rfl) ?_
  intro a54 ha54; clear ha53 a53
  refine wl_skip ha54 rfl rfl rfl ?_
  intro a55 ha55; clear ha54 a54
  refine wl_skip ha55 rfl rfl rfl ?_
  intro a56 ha56; clear ha55 a55
  refine wl_skip ha56 rfl rfl rfl ?_
  intro a57 ha57; clear ha56 a56
  refine wl_val ha57 rfl rfl rfl (op_pick_t ha57 rfl rfl rfl) ?_
  intro a58 ha58; clear ha57 a57
  refine wl_val ha58 rfl rfl rfl (op_assign ha58 rfl rfl) ?_
  intro a59 ha59; clear ha58 a58
  refine wpList_nil ?_
  refine then_n ?_
  refine cond_t ha59 rfl ?_
  refine wp_seq ?_
  refine wp_region_lit ?_
  refine wl_val ha59 rfl rfl rfl (op_assign ha59 rfl rfl) ?_
  intro a60 ha60; clear ha59 a59
  refine wpList_nil ?_
  refine then_n ?_
  refine wp_ret ?_
  refine block_r ?_
  refine then_r ?_
  refine ret1 ha60 rfl rfl ?_
  clear ha60 a60
  exact ret_mk hx7 (int_eq (by exact (cd3_1 (xs := list) (n := name) (b := bike) (.inl c10)).symm))

theorem c_impl_GiveBike (w0 : World) (v_list : Value) (list : List (Str × Int × List Str)) {S_list : Nat → Prop} (name : Str) (bike : Str) (h_list : Rds shCust S_list w0 v_list list) (g0 : list.length ≤ 1048576) (g1 : name.length ≤ 9223372036854775807) (g2 : bike.length ≤ 9223372036854775807) :
  Calls Try.prog 37 #[v_list, St name, St bike] w0 (Ret w0 (fun v w1 => ∃ r0 z0, v = .tuple #[r0, .int .i64 (gvC list name bike)] ∧ Own shCustN 55 w0.heap.size w0.heap.size w1.heap.size w1 r0 z0 ∧ Nst shStr 9 (fun x : Str × Int × List Str => x.2.2) w0.heap.size w1.heap.size w1 z0 ∧ z0.map (·.1) = (gvL list name bike))) := by
 refine enter (N := 53) Try.func37 rfl rfl rfl ?_
 intro a0 ha0
 have hx0 := Ext.rfl' w0
 have hl_list := h_list.length_le
 have hf_name : -1 ≤ fnI list name ∧ fnI list name < list.length := fdF_bd (namB name) list
 have hob : -1 ≤ owI list bike ∧ owI list bike < list.length := fdF_bd (hasB bike) list
 refine wp_seq ?_
 refine wp_region_lit ?_
 refine wl_val ha0 rfl rfl rfl (op_assign ha0 rfl rfl) ?_
 intro a1 ha1; clear ha0 a0
 refine wl_val ha1 rfl rfl rfl (op_assign ha1 rfl rfl) ?_
 intro a2 ha2; clear ha1 a1
 refine wpList_nil ?_
 refine then_n ?_
 refine wp_seq ?_
 refine wp_seq ?_
 refine wp_region_lit ?_
 refine wl_val ha2 rfl rfl rfl (op_move ha2 rfl rfl) ?_
 intro a3 ha3; clear ha2 a2
 refine wl_callR ha3 rfl rfl rfl (op_call ha3 rfl cb17 rfl) (c_impl_AreCustomers _ v_list list (h_list.ext pos_shCust hx0) (by first | assumption | omega | (simp; omega) | (intro c hc; have := cuOk_bd (cuB_el (by assumption) c hc); omega))) ?_
 rintro v4 w5 he6 rfl a7 ha7; clear ha3 a3
 have hx8 := hx0.trans' he6
 have hzhx8 := he6.size
 refine wl_val ha7 rfl rfl rfl (op_not ha7 rfl rfl) ?_
 intro a9 ha9; clear ha7 a7
 refine wl_val ha9 rfl rfl rfl (op_move ha9 rfl rfl) ?_
 intro a10 ha10; clear ha9 a9
 rcases Bool.eq_false_or_eq_true (cuB list) with c11 | c11
 ·
  rw [c11] at ha10
  have hlenc11 := cuB_len c11
  have hcuc11 := cuB_el c11
  refine wl_val ha10 rfl rfl rfl (op_move ha10 rfl rfl) ?_
  intro a12 ha12; clear ha10 a10
  refine wl_callR ha12 rfl rfl rfl (op_call ha12 rfl cb56 rfl) (c_impl_IsWord _ name (by first | assumption | omega | (simp; omega) | (intro c hc; have := cuOk_bd (cuB_el (by assumption) c hc); omega))) ?_
  rintro v13 w14 he15 rfl a16 ha16; clear ha12 a12
  have hx17 := hx8.trans' he15
  have hzhx17 := he15.size
  refine wl_val ha16 rfl rfl rfl (op_not ha16 rfl rfl) ?_
  intro a18 ha18; clear ha16 a16
  refine wl_val ha18 rfl rfl rfl (op_pick_f ha18 rfl rfl rfl) ?_
  intro a19 ha19; clear ha18 a18
  refine wl_val ha19 rfl rfl rfl (op_move ha19 rfl rfl) ?_
  intro a20 ha20; clear ha19 a19
  rcases Bool.eq_false_or_eq_true (wordB name) with c21 | c21
  ·
   rw [c21] at ha20
   refine wl_val ha20 rfl rfl rfl (op_move ha20 rfl rfl) ?_
   intro a22 ha22; clear ha20 a20
   refine wl_callR ha22 rfl rfl rfl (op_call ha22 rfl cb56 rfl) (c_impl_IsWord _ bike (by first | assumption | omega | (simp; omega) | (intro c hc; have := cuOk_bd (cuB_el (by assumption) c hc); omega))) ?_
   rintro v23 w24 he25 rfl a26 ha26; clear ha22 a22
   have hx27 := hx17.trans' he25
   have hzhx27 := he25.size
   refine wl_val ha26 rfl rfl rfl (op_not ha26 rfl rfl) ?_
   intro a28 ha28; clear ha26 a26
   refine wl_val ha28 rfl rfl rfl (op_pick_f ha28 rfl rfl rfl) ?_
   intro a29 ha29; clear ha28 a28
   refine wpList_nil ?_
   refine then_n ?_
   rcases Bool.eq_false_or_eq_true (wordB bike) with c30 | c30
   ·
    rw [c30] at ha29
    refine cond_f ha29 rfl ?_
    refine wp_skip ?_
    refine then_n ?_
    refine wp_seq ?_
    refine wp_region_lit ?_
    refine wl_val ha29 rfl rfl rfl (op_move ha29 rfl rfl) ?_
    intro a31 ha31; clear ha29 a29
    refine wl_val ha31 rfl rfl rfl (op_move ha31 rfl rfl) ?_
    intro a32 ha32; clear ha31 a31
    refine wl_callR ha32 rfl rfl rfl (op_call ha32 rfl cb66 rfl) (c_impl_findCustomer _ v_list list name (h_list.ext pos_shCust hx27)) ?_
    rintro v33 w34 he35 rfl a36 ha36; clear ha32 a32
    have hx37 := hx27.trans' he35
    have hzhx37 := he35.size
    refine wl_val ha36 rfl rfl rfl (op_assign ha36 rfl rfl) ?_
    intro a38 ha38; clear ha36 a36
    refine wpList_nil ?_
    refine then_n ?_
    refine wp_seq ?_
    refine wp_seq ?_
    refine wp_region_lit ?_
    refine wl_val ha38 rfl rfl rfl (op_move ha38 rfl rfl) ?_
    intro a39 ha39; clear ha38 a38
    refine wl_val ha39 rfl rfl rfl (op_lss ha39 rfl rfl rfl) ?_
    intro a40 ha40; clear ha39 a39
    refine wpList_nil ?_
    refine then_n ?_
    by_cases c41 : (fnI list name : Int) < (0 : Int)
    ·
     rw [decide_eq_true c41] at ha40
     refine cond_t ha40 rfl ?_
     refine wp_seq ?_
     refine wp_region_lit ?_
     refine wl_val ha40 rfl rfl rfl (op_assign ha40 rfl rfl) ?_
     intro a42 ha42; clear ha40 a40
     refine wl_val ha42 rfl rfl rfl (op_assign ha42 rfl rfl) ?_
     intro a43 ha43; clear ha42 a42
     refine wpList_nil ?_
     refine then_n ?_
     refine wp_ret ?_
     refine then_r ?_
     refine ret2 ha43 rfl rfl rfl ?_
     clear ha43 a43
     have hr := gvC_c (cd3_4 c11 c21 c30 c41) (by decide)
     have hr2 := gvL_bad (by rw [hr]; decide)
     refine ret_mk hx37 ⟨(.slice none 0 0), [], (tup2_eq rfl (int_eq (by exact hr.symm))), Own.nil _ _ _ _ _ _, Nst.nil _ _ _ _ _ _, ?_⟩
     ·
      rw [hr2]; rfl
    ·
     rw [decide_eq_false c41] at ha40
     refine cond_f ha40 rfl ?_
     refine wp_skip ?_
     refine then_n ?_
     refine wp_seq ?_
     refine wp_seq ?_
     refine wp_region_lit ?_
     refine wl_val ha40 rfl rfl rfl (op_move ha40 rfl rfl) ?_
     intro a44 ha44; clear ha40 a40
     refine wl_val ha44 rfl rfl rfl (op_move ha44 rfl rfl) ?_
     intro a45 ha45; clear ha44 a44
     refine wl_callR ha45 rfl rfl rfl (op_call ha45 rfl cb59 rfl) (c_impl_ownerOf _ v_list list bike (h_list.ext pos_shCust hx37)) ?_
     rintro v46 w47 he48 rfl a49 ha49; clear ha45 a45
     have hx50 := hx37.trans' he48
     have hzhx50 := he48.size
     refine wl_val ha49 rfl rfl rfl (op_geq ha49 rfl rfl rfl) ?_
     intro a51 ha51; clear ha49 a49
     refine wpList_nil ?_
     refine then_n ?_
     by_cases c52 : (0 : Int) ≤ (owI list bike : Int)
     ·
      rw [decide_eq_true c52] at ha51
      refine cond_t ha51 rfl ?_
      refine wp_seq ?_
      refine wp_region_lit ?_
      refine wl_val ha51 rfl rfl rfl (op_assign ha51 rfl rfl) ?_
      intro a53 ha53; clear ha51 a51
      refine wl_val ha53 rfl rfl rfl (op_assign ha53 rfl rfl) ?_
      intro a54 ha54; clear ha53 a53
      refine wpList_nil ?_
      refine then_n ?_
      refine wp_ret ?_
      refine then_r ?_
      refine ret2 ha54 rfl rfl rfl ?_
      clear ha54 a54
      have hr := gvC_5 (cd3_0 c11 c21 c30 c41) c52
      have hr2 := gvL_bad (by rw [hr]; decide)
      refine ret_mk hx50 ⟨(.slice none 0 0), [], (tup2_eq rfl (int_eq (by exact hr.symm))), Own.nil _ _ _ _ _ _, Nst.nil _ _ _ _ _ _, ?_⟩
      ·
       rw [hr2]; rfl
     ·
      rw [decide_eq_false c52] at ha51
      refine cond_f ha51 rfl ?_
      refine wp_skip ?_
      refine then_n ?_
      refine wp_seq ?_
      refine wp_seq ?_
      refine wp_region_lit ?_
      refine wl_val ha51 rfl rfl rfl (op_move ha51 rfl rfl) ?_
      intro a55 ha55; clear ha51 a51
      refine wl_val ha55 rfl rfl rfl (op_move ha55 rfl rfl) ?_
      intro a56 ha56; clear ha55 a55
      obtain ⟨x57, hx57⟩ := get_ex (xs := list) (j := ((fnI list name : Int)).toNat) (by omega)
      obtain ⟨p58, c59, hi60, hc61, hr62, hs63⟩ := Rds.at_ h_list hx57
      obtain ⟨v64, rfl, b65, b66, b67⟩ := inv_shCust hr62
      have hlb67 := b67.length_le
      have hbx57 := cuOk_bd (hcuc11 _ (List.mem_of_getElem? hx57))
      refine wl_val ha56 rfl rfl rfl (op_indexAddr ha56 rfl Try.underlying25 ti55 rfl rfl (by omega) hi60) ?_
      intro a68 ha68; clear ha56 a56
      refine wl_val ha68 rfl rfl rfl (op_fieldAddr (sz := 0) ha68 rfl Try.underlying55 rfl rfl ti34 rfl) ?_
      intro a69 ha69; clear ha68 a68
      refine wl_val ha69 rfl rfl rfl (op_loadF (off := 2) ha69 rfl Try.underlying34 rfl rfl (hc61.ext hx50) rfl) ?_
      intro a70 ha70; clear ha69 a69
      refine wl_val ha70 rfl rfl rfl (op_len_sl ha70 rfl Try.underlying34 rfl b67) ?_
      intro a71 ha71; clear ha70 a70
      refine wl_val ha71 rfl rfl rfl (op_eql ha71 rfl rfl rfl) ?_
      intro a72 ha72; clear ha71 a71
      refine wpList_nil ?_
      refine then_n ?_
      by_cases c73 : ((x57.2.2.length : Nat) : Int) = (5 : Int)
      ·
       rw [decide_eq_true c73] at ha72
       have hnc73 : x57.2.2.length = 5 := by omega
       refine cond_t ha72 rfl ?_
       refine wp_seq ?_
       refine wp_region_lit ?_
       refine wl_val ha72 rfl rfl rfl (op_assign ha72 rfl rfl) ?_
       intro a74 ha74; clear ha72 a72
       refine wl_val ha74 rfl rfl rfl (op_assign ha74 rfl rfl) ?_
       intro a75 ha75; clear ha74 a74
       refine wpList_nil ?_
       refine then_n ?_
       refine wp_ret ?_
       refine then_r ?_
       refine ret2 ha75 rfl rfl rfl ?_
       clear ha75 a75
       have hr := gvC_3 (cd3_0 c11 c21 c30 c41) c52 hx57 (by omega)
       have hr2 := gvL_bad (by rw [hr]; decide)
       refine ret_mk hx50 ⟨(.slice none 0 0), [], (tup2_eq rfl (int_eq (by exact hr.symm))), Own.nil _ _ _ _ _ _, Nst.nil _ _ _ _ _ _, ?_⟩
       ·
        rw [hr2]; rfl
      ·
       rw [decide_eq_false c73] at ha72
       have hnc73 : ¬ x57.2.2.length = 5 := by omega
       refine cond_f ha72 rfl ?_
       refine wp_skip ?_
       refine then_n ?_
       refine wp_seq ?_
       refine wp_region_lit ?_
       refine wl_val ha72 rfl rfl rfl (op_move ha72 rfl rfl) ?_
       intro a76 ha76; clear ha72 a72
       refine wl_callR ha76 rfl rfl rfl (op_call ha76 rfl cb67 rfl) (c_impl_copyCustomers _ v_list list (h_list.ext pos_shCust hx50) (by first | assumption | omega | (simp; omega) | (intro c hc; have := cuOk_bd (cuB_el (by assumption) c hc); omega)) (by first | assumption | omega | (simp; omega) | (intro c hc; have := cuOk_bd (cuB_el (by assumption) c hc); omega))) ?_
       rintro v77 w78 he79 ⟨z81, ho80, hN82, hE83⟩ a84 ha84; clear ha76 a76
       have hx85 := hx50.trans' he79
       have hzhx85 := he79.size
       have hlhE83 := absLen hE83
       refine wl_val ha84 rfl rfl rfl (op_assign ha84 rfl rfl) ?_
       intro a86 ha86; clear ha84 a84
       refine wpList_nil ?_
       refine then_n ?_
       refine wp_seq ?_
       refine wp_region_lit ?_
       refine wl_val ha86 rfl rfl rfl (op_move ha86 rfl rfl) ?_
       intro a87 ha87; clear ha86 a86
       refine wl_val ha87 rfl rfl rfl (op_move ha87 rfl rfl) ?_
       intro a88 ha88; clear ha87 a87
       refine wl_val ha88 rfl rfl rfl (op_move ha88 rfl rfl) ?_
       intro a89 ha89; clear ha88 a88
       refine wl_val ha89 rfl rfl rfl (op_move ha89 rfl rfl) ?_
       intro a90 ha90; clear ha89 a89
       obtain ⟨x91, hx91⟩ := get_ex (xs := z81) (j := ((fnI list name : Int)).toNat) (by omega)
       obtain ⟨p92, c93, hi94, hc95, hr96, hs97⟩ := Rds.at_ (ho80.rds pos_shCustN) hx91
       obtain ⟨rfl, b98, b99, b100⟩ := inv_shCustN hr96
       have hn101 : Own shStr 9 w47.heap.size w47.heap.size w78.heap.size w78 x91.2 x91.1.2.2 := hN82.get hx91
       obtain ⟨_, _⟩ : _ ∧ _ := hs97
       have hbzx91 := cuOk_bd (hcuc11 _ (List.mem_of_getElem? (abs_get hE83 hx91)))
       refine wl_val ha90 rfl rfl rfl (op_indexAddr ha90 rfl Try.underlying25 ti55 rfl rfl (by omega) hi94) ?_
       intro a102 ha102; clear ha90 a90
       refine wl_val ha102 rfl rfl rfl (op_fieldAddr (sz := 0) ha102 rfl Try.underlying55 rfl rfl ti34 rfl) ?_
       intro a103 ha103; clear ha102 a102
       refine wl_val ha103 rfl rfl rfl (op_loadF (off := 2) ha103 rfl Try.underlying34 rfl rfl hc95 rfl) ?_
       intro a104 ha104; clear ha103 a103
       refine wl_val ha104 rfl rfl rfl (op_move ha104 rfl rfl) ?_
       intro a105 ha105; clear ha104 a104
       refine wl_callR ha105 rfl rfl rfl (op_call ha105 rfl cb69 rfl) (c_impl_withBike _ x91.2 x91.1.2.2 bike (hn101.rds pos_shStr) (by first | assumption | omega | (simp; omega) | (intro c hc; have := cuOk_bd (cuB_el (by assumption) c hc); omega)) (by first | assumption | omega | (simp; omega) | (intro c hc; have := cuOk_bd (cuB_el (by assumption) c hc); omega))) ?_
       rintro v106 w107 he108 ho109 a110 ha110; clear ha105 a105
       have hx111 := hx85.trans' he108
       have hzhx111 := he108.size
       replace ho80 := ho80.ext he108
       replace hN82 := hN82.ext he108
       replace hn101 := hn101.ext he108
       replace hc95 := hc95.ext he108
       refine wl_val ha110 rfl rfl rfl (op_indexAddr ha110 rfl Try.underlying25 ti55 rfl rfl (by omega) hi94) ?_
       intro a112 ha112; clear ha110 a110
       refine wl_val ha112 rfl rfl rfl (op_fieldAddr (sz := 0) ha112 rfl Try.underlying55 rfl rfl ti34 rfl) ?_
       intro a113 ha113; clear ha112 a112
       refine wl_effS ha113 rfl rfl (op_setCells (s := shCustN) (off := 2) (ds := [v106]) (S' := fun _ => False) ha113 rfl ti34 rfl rfl ho109.cells1 rfl (by intro u hu; have hu : u ∈ ([v106] : List Value) := hu; simp only [List.mem_cons, List.mem_nil_iff, or_false] at hu; rcases hu with rfl <;> first | rfl | exact ho109.one) ho80 hi94 (by omega) (Nat.le_of_ble_eq_true rfl) hc95 rfl (mk_shCustN ((((x91.1.1, x91.1.2.1, (wbGo bike x91.1.2.2 false)) : Str × Int × List Str), (v106 : Value))) (by first | assumption | omega | (simp; done) | (dsimp only; omega) | (dsimp only; assumption) | exact ⟨by omega, by omega⟩) (by first | assumption | omega | (simp; done) | (dsimp only; omega) | (dsimp only; assumption) | exact ⟨by omega, by omega⟩) ho109.one) (fun _ h => h.elim)) ?_
       rintro w114 ⟨ho116, hst115, hz117⟩
       have hx118 := hx111.stp hst115 (by intro q hq; have hq0 := ho80.lt q hq; omega)
       have hzhx118 := hst115.size
       first | replace hN82 := hN82.stpF flat_shStr hst115 ho80 rfl | replace hN82 := hN82.stp hst115 (by intro q hq; have hq0 := ho80.lt q hq; omega)
       first | replace hn101 := hn101.stp hst115 (by intro q hq; have hq0 := ho80.lt q hq; omega) | replace hn101 := hn101.stpF flat_shStr hst115 (hn101.ne ho80 rfl)
       replace ho109 := ho109.stp hst115 (by intro q hq; have hq0 := ho80.lt q hq; omega)
       clear ho80
       have hlsho116 : ((z81.set (((fnI list name : Int)).toNat) ((((x91.1.1, x91.1.2.1, (wbGo bike x91.1.2.2 false)) : Str × Int × List Str), (v106 : Value))))).length = z81.length := List.length_set
       have hN119 : Nst shStr 9 (fun x : Str × Int × List Str => x.2.2) w47.heap.size w107.heap.size w114 ((z81.set (((fnI list name : Int)).toNat) ((((x91.1.1, x91.1.2.1, (wbGo bike x91.1.2.2 false)) : Str × Int × List Str), (v106 : Value))))) := hN82.set ho109 (by omega) (by omega) (by omega)
       refine wpList_nil ?_
       refine then_n ?_
       refine wp_seq ?_
       refine wp_region_lit ?_
       refine wl_val ha113 rfl rfl rfl (op_move ha113 rfl rfl) ?_
       intro a120 ha120; clear ha113 a113
       refine wl_val ha120 rfl rfl rfl (op_assign ha120 rfl rfl) ?_
       intro a121 ha121; clear ha120 a120
       refine wl_val ha121 rfl rfl rfl (op_assign ha121 rfl rfl) ?_
       intro a122 ha122; clear ha121 a121
       refine wpList_nil ?_
       refine then_n ?_
       refine wp_ret ?_
       refine ret2 ha122 rfl rfl rfl ?_
       clear ha122 a122
       obtain ⟨hr, hr2⟩ := gvC_0 (cd3_0 c11 c21 c30 c41) c52 hx57 (by omega)
       refine ret_mk hx118 ⟨v77, (z81.set (((fnI list name : Int)).toNat) ((((x91.1.1, x91.1.2.1, (wbGo bike x91.1.2.2 false)) : Str × Int × List Str), (v106 : Value)))), (tup2_eq rfl (int_eq (by exact hr.symm))), ho116.fin (by omega) (by omega) (by omega), hN119.fin (by omega) (by omega), ?_⟩
       ·
        have hq := some_eq hx57 (abs_get hE83 hx91)
        rw [hr2, List.map_set, hE83]
        simp only [hq, wb_li (owI_none (show owI list bike < 0 by omega) hx57)]
   ·
    rw [c30] at ha29
    refine cond_t ha29 rfl ?_
    refine wp_seq ?_
    refine wp_region_lit ?_
    refine wl_val ha29 rfl rfl rfl (op_assign ha29 rfl rfl) ?_
    intro a123 ha123; clear ha29 a29
    refine wl_val ha123 rfl rfl rfl (op_assign ha123 rfl rfl) ?_
    intro a124 ha124; clear ha123 a123
    refine wpList_nil ?_
    refine then_n ?_
    refine wp_ret ?_
    refine then_r ?_
    refine ret2 ha124 rfl rfl rfl ?_
    clear ha124 a124
    have hr := gvC_c (cd3_1 (xs := list) (n := name) (b := bike) (.inr (.inr c30))) (by decide)
    have hr2 := gvL_bad (by rw [hr]; decide)
    refine ret_mk hx27 ⟨(.slice none 0 0), [], (tup2_eq rfl (int_eq (by exact hr.symm))), Own.nil _ _ _ _ _ _, Nst.nil _ _ _ _ _ _, ?_⟩
    ·
     rw [hr2]; rfl
  ·
   rw [c21] at ha20
   refine wl_skip ha20 rfl rfl rfl ?_
   intro a125 ha125; clear ha20 a20
   refine wl_skip ha125 rfl rfl rfl ?_
   intro a126 ha126; clear ha125 a125
   refine wl_skip ha126 rfl rfl rfl ?_
   intro a127 ha127; clear ha126 a126
   refine wl_val ha127 rfl rfl rfl (op_pick_t ha127 rfl rfl rfl) ?_
   intro a128 ha128; clear ha127 a127
   refine wpList_nil ?_
   refine then_n ?_
   refine cond_t ha128 rfl ?_
   refine wp_seq ?_
   refine wp_region_lit ?_
   refine wl_val ha128 rfl rfl rfl (op_assign ha128 rfl rfl) ?_
   intro a129 ha129; clear ha128 a128
   refine wl_val ha129 rfl rfl rfl (op_assign ha129 rfl rfl) ?_
   intro a130 ha130; clear ha129 a129
   refine wpList_nil ?_
   refine then_n ?_
   refine wp_ret ?_
   refine then_r ?_
   refine ret2 ha130 rfl rfl rfl ?_
   clear ha130 a130
   have hr := gvC_c (cd3_1 (xs := list) (n := name) (b := bike) (.inr (.inl c21))) (by decide)
   have hr2 := gvL_bad (by rw [hr]; decide)
   refine ret_mk hx17 ⟨(.slice none 0 0), [], (tup2_eq rfl (int_eq (by exact hr.symm))), Own.nil _ _ _ _ _ _, Nst.nil _ _ _ _ _ _, ?_⟩
   ·
    rw [hr2]; rfl
 ·
  rw [c11] at ha10
  refine wl_skip ha10 rfl rfl rfl ?_
  intro a131 ha131; clear ha10 a10
  refine wl_skip ha131 rfl rfl rfl ?_
  intro a132 ha132; clear ha131 a131
  refine wl_skip ha132 rfl rfl rfl ?_
  intro a133 ha133; clear ha132 a132
  refine wl_val ha133 rfl rfl rfl (op_pick_t ha133 rfl rfl rfl) ?_
  intro a134 ha134; clear ha133 a133
  refine wl_val ha134 rfl rfl rfl (op_move ha134 rfl rfl) ?_
  intro a135 ha135; clear ha134 a134
  refine wl_skip ha135 rfl rfl rfl ?_
  intro a136 ha136; clear ha135 a135
  refine wl_skip ha136 rfl rfl rfl ?_
  intro a137 ha137; clear ha136 a136
  refine wl_skip ha137 rfl rfl rfl ?_
  intro a138 ha138; clear ha137 a137
  refine wl_val ha138 rfl rfl rfl (op_pick_t ha138 rfl rfl rfl) ?_
  intro a139 ha139; clear ha138 a138
  refine wpList_nil ?_
  refine then_n ?_
  refine cond_t ha139 rfl ?_
  refine wp_seq ?_
  refine wp_region_lit ?_
  refine wl_val ha139 rfl rfl rfl (op_assign ha139 rfl rfl) ?_
  intro a140 ha140; clear ha139 a139
  refine wl_val ha140 rfl rfl rfl (op_assign ha140 rfl rfl) ?_
  intro a141 ha141; clear ha140 a140
  refine wpList_nil ?_
  refine then_n ?_
  refine wp_ret ?_
  refine then_r ?_
  refine ret2 ha141 rfl rfl rfl ?_
  clear ha141 a141
  have hr := gvC_c (cd3_1 (xs := list) (n := name) (b := bike) (.inl c11)) (by decide)
  have hr2 := gvL_bad (by rw [hr]; decide)
  refine ret_mk hx8 ⟨(.slice none 0 0), [], (tup2_eq rfl (int_eq (by exact hr.symm))), Own.nil _ _ _ _ _ _, Nst.nil _ _ _ _ _ _, ?_⟩
  ·
   rw [hr2]; rfl

theorem c_spec_GiveBike (w0 : World) (v_list : Value) (list : List (Str × Int × List Str)) {S_list : Nat → Prop} (name : Str) (bike : Str) (h_list : Rds shCust S_list w0 v_list list) (g0 : list.length ≤ 1048576) (g1 : name.length ≤ 9223372036854775807) (g2 : bike.length ≤ 9223372036854775807) :
  Calls Try.prog 36 #[v_list, St name, St bike] w0 (Ret w0 (fun v w1 => ∃ r0 z0, v = .tuple #[r0, .int .i64 (gvC list name bike)] ∧ Own shCustN 55 w0.heap.size w0.heap.size w1.heap.size w1 r0 z0 ∧ Nst shStr 9 (fun x : Str × Int × List Str => x.2.2) w0.heap.size w1.heap.size w1 z0 ∧ z0.map (·.1) = (gvL list name bike))) := by
 refine enter (N := 48) Try.func36 rfl rfl rfl ?_
 intro a0 ha0
 have hx0 := Ext.rfl' w0
 have hl_list := h_list.length_le
 have hf_name : -1 ≤ fnI list name ∧ fnI list name < list.length := fdF_bd (namB name) list
 have hob : -1 ≤ owI list bike ∧ owI list bike < list.length := fdF_bd (hasB bike) list
 refine wp_seq ?_
 refine wp_region_lit ?_
 refine wl_val ha0 rfl rfl rfl (op_assign ha0 rfl rfl) ?_
 intro a1 ha1; clear ha0 a0
 refine wl_val ha1 rfl rfl rfl (op_assign ha1 rfl rfl) ?_
 intro a2 ha2; clear ha1 a1
 refine wpList_nil ?_
 refine then_n ?_
 refine wp_seq ?_
 refine wp_region_lit ?_
 refine wl_val ha2 rfl rfl rfl (op_move ha2 rfl rfl) ?_
 intro a3 ha3; clear ha2 a2
 refine wl_val ha3 rfl rfl rfl (op_move ha3 rfl rfl) ?_
 intro a4 ha4; clear ha3 a3
 refine wl_val ha4 rfl rfl rfl (op_move ha4 rfl rfl) ?_
 intro a5 ha5; clear ha4 a4
 refine wl_callR ha5 rfl rfl rfl (op_call ha5 rfl cb70 rfl) (c_spec_l30Code _ v_list list name bike (h_list.ext pos_shCust hx0) (by first | assumption | omega | (simp; omega) | (intro c hc; have := cuOk_bd (cuB_el (by assumption) c hc); omega)) (by first | assumption | omega | (simp; omega) | (intro c hc; have := cuOk_bd (cuB_el (by assumption) c hc); omega)) (by first | assumption | omega | (simp; omega) | (intro c hc; have := cuOk_bd (cuB_el (by assumption) c hc); omega))) ?_
 rintro v6 w7 he8 rfl a9 ha9; clear ha5 a5
 have hx10 := hx0.trans' he8
 have hzhx10 := he8.size
 refine wl_val ha9 rfl rfl rfl (op_assign ha9 rfl rfl) ?_
 intro a11 ha11; clear ha9 a9
 refine wpList_nil ?_
 refine then_n ?_
 refine wp_seq ?_
 refine wp_seq ?_
 refine wp_region_lit ?_
 refine wl_val ha11 rfl rfl rfl (op_move ha11 rfl rfl) ?_
 intro a12 ha12; clear ha11 a11
 refine wl_val ha12 rfl rfl rfl ((op_neq ha12 rfl rfl rfl).to (congrArg Value.bool decide_not)) ?_
 intro a13 ha13; clear ha12 a12
 refine wpList_nil ?_
 refine then_n ?_
 by_cases c14 : (cd3 list name bike : Int) = (0 : Int)
 ·
  rw [decide_eq_true c14] at ha13
  obtain ⟨hk1c14, hk2c14, hk3c14, hk4c14⟩ := cd3_ok c14
  have hlenc14 := cuB_len hk1c14
  have hcuc14 := cuB_el hk1c14
  refine cond_f ha13 rfl ?_
  refine wp_skip ?_
  refine then_n ?_
  refine wp_seq ?_
  refine wp_region_lit ?_
  refine wl_val ha13 rfl rfl rfl (op_move ha13 rfl rfl) ?_
  intro a15 ha15; clear ha13 a13
  refine wl_val ha15 rfl rfl rfl (op_move ha15 rfl rfl) ?_
  intro a16 ha16; clear ha15 a15
  refine wl_callR ha16 rfl rfl rfl (op_call ha16 rfl cb64 rfl) (c_spec_l30Find _ v_list list name (h_list.ext pos_shCust hx10)) ?_
  rintro v17 w18 he19 rfl a20 ha20; clear ha16 a16
  have hx21 := hx10.trans' he19
  have hzhx21 := he19.size
  refine wl_val ha20 rfl rfl rfl (op_assign ha20 rfl rfl) ?_
  intro a22 ha22; clear ha20 a20
  refine wpList_nil ?_
  refine then_n ?_
  refine wp_seq ?_
  refine wp_block ?_
  refine wp_seq ?_
  refine wp_region_lit ?_
  refine wl_val ha22 rfl rfl rfl (op_move ha22 rfl rfl) ?_
  intro a23 ha23; clear ha22 a22
  refine wl_val ha23 rfl rfl rfl (op_move ha23 rfl rfl) ?_
  intro a24 ha24; clear ha23 a23
  refine wl_callR ha24 rfl rfl rfl (op_call ha24 rfl cb54 rfl) (c_spec_l30Owner _ v_list list bike (h_list.ext pos_shCust hx21)) ?_
  rintro v25 w26 he27 rfl a28 ha28; clear ha24 a24
  have hx29 := hx21.trans' he27
  have hzhx29 := he27.size
  refine wl_val ha28 rfl rfl rfl (op_geq ha28 rfl rfl rfl) ?_
  intro a30 ha30; clear ha28 a28
  refine wl_val ha30 rfl rfl rfl (op_assign ha30 rfl rfl) ?_
  intro a31 ha31; clear ha30 a30
  refine wpList_nil ?_
  refine then_n ?_
  by_cases c32 : (0 : Int) ≤ (owI list bike : Int)
  ·
   rw [decide_eq_true c32] at ha31
   refine cond_t ha31 rfl ?_
   refine wp_seq ?_
   refine wp_region_lit ?_
   refine wl_val ha31 rfl rfl rfl (op_assign ha31 rfl rfl) ?_
   intro a33 ha33; clear ha31 a31
   refine wl_val ha33 rfl rfl rfl (op_assign ha33 rfl rfl) ?_
   intro a34 ha34; clear ha33 a33
   refine wpList_nil ?_
   refine then_n ?_
   refine wp_ret ?_
   refine block_r ?_
   refine then_r ?_
   refine ret2 ha34 rfl rfl rfl ?_
   clear ha34 a34
   have hr := gvC_5 c14 c32
   have hr2 := gvL_bad (by rw [hr]; decide)
   refine ret_mk hx29 ⟨(.slice none 0 0), [], (tup2_eq rfl (int_eq (by exact hr.symm))), Own.nil _ _ _ _ _ _, Nst.nil _ _ _ _ _ _, ?_⟩
   ·
    rw [hr2]; rfl
  ·
   rw [decide_eq_false c32] at ha31
   refine cond_f ha31 rfl ?_
   refine wp_seq ?_
   refine wp_region_lit ?_
   refine wl_val ha31 rfl rfl rfl (op_move ha31 rfl rfl) ?_
   intro a35 ha35; clear ha31 a31
   refine wl_val ha35 rfl rfl rfl (op_move ha35 rfl rfl) ?_
   intro a36 ha36; clear ha35 a35
   obtain ⟨x37, hx37⟩ := get_ex (xs := list) (j := ((fnI list name : Int)).toNat) (by omega)
   obtain ⟨p38, c39, hi40, hc41, hr42, hs43⟩ := Rds.at_ h_list hx37
   obtain ⟨v44, rfl, b45, b46, b47⟩ := inv_shCust hr42
   have hlb47 := b47.length_le
   have hbx37 := cuOk_bd (hcuc14 _ (List.mem_of_getElem? hx37))
   refine wl_val ha36 rfl rfl rfl (op_indexAddr ha36 rfl Try.underlying25 ti55 rfl rfl (by omega) hi40) ?_
   intro a48 ha48; clear ha36 a36
   refine wl_val ha48 rfl rfl rfl (op_fieldAddr (sz := 0) ha48 rfl Try.underlying55 rfl rfl ti34 rfl) ?_
   intro a49 ha49; clear ha48 a48
   refine wl_val ha49 rfl rfl rfl (op_loadF (off := 2) ha49 rfl Try.underlying34 rfl rfl (hc41.ext hx29) rfl) ?_
   intro a50 ha50; clear ha49 a49
   refine wl_val ha50 rfl rfl rfl (op_len_sl ha50 rfl Try.underlying34 rfl b47) ?_
   intro a51 ha51; clear ha50 a50
   refine wl_val ha51 rfl rfl rfl (op_eql ha51 rfl rfl rfl) ?_
   intro a52 ha52; clear ha51 a51
   refine wl_val ha52 rfl rfl rfl (op_assign ha52 rfl rfl) ?_
   intro a53 ha53; clear ha52 a52
   refine wpList_nil ?_
   refine then_n ?_
   by_cases c54 : ((x37.2.2.length : Nat) : Int) = (5 : Int)
   ·
    rw [decide_eq_true c54] at ha53
    have hnc54 : x37.2.2.length = 5 := by omega
    refine cond_t ha53 rfl ?_
    refine wp_seq ?_
    refine wp_region_lit ?_
    refine wl_val ha53 rfl rfl rfl (op_assign ha53 rfl rfl) ?_
    intro a55 ha55; clear ha53 a53
    refine wl_val ha55 rfl rfl rfl (op_assign ha55 rfl rfl) ?_
    intro a56 ha56; clear ha55 a55
    refine wpList_nil ?_
    refine then_n ?_
    refine wp_ret ?_
    refine block_r ?_
    refine then_r ?_
    refine ret2 ha56 rfl rfl rfl ?_
    clear ha56 a56
    have hr := gvC_3 c14 c32 hx37 (by omega)
    have hr2 := gvL_bad (by rw [hr]; decide)
    refine ret_mk hx29 ⟨(.slice none 0 0), [], (tup2_eq rfl (int_eq (by exact hr.symm))), Own.nil _ _ _ _ _ _, Nst.nil _ _ _ _ _ _, ?_⟩
    ·
     rw [hr2]; rfl
   ·
    rw [decide_eq_false c54] at ha53
    have hnc54 : ¬ x37.2.2.length = 5 := by omega
    refine cond_f ha53 rfl ?_
    refine wp_skip ?_
    refine block_n ?_
    refine then_n ?_
    refine wp_seq ?_
    refine wp_region_lit ?_
    refine wl_val ha53 rfl rfl rfl (op_move ha53 rfl rfl) ?_
    intro a57 ha57; clear ha53 a53
    refine wl_callR ha57 rfl rfl rfl (op_call ha57 rfl cb65 rfl) (c_spec_l30Copy _ v_list list (h_list.ext pos_shCust hx29) (by first | assumption | omega | (simp; omega) | (intro c hc; have := cuOk_bd (cuB_el (by assumption) c hc); omega)) (by first | assumption | omega | (simp; omega) | (intro c hc; have := cuOk_bd (cuB_el (by assumption) c hc); omega))) ?_
    rintro v58 w59 he60 ⟨z62, ho61, hN63, hE64⟩ a65 ha65; clear ha57 a57
    have hx66 := hx29.trans' he60
    have hzhx66 := he60.size
    have hlhE64 := absLen hE64
    refine wl_val ha65 rfl rfl rfl (op_assign ha65 rfl rfl) ?_
    intro a67 ha67; clear ha65 a65
    refine wpList_nil ?_
    refine then_n ?_
    refine wp_seq ?_
    refine wp_region_lit ?_
    refine wl_val ha67 rfl rfl rfl (op_move ha67 rfl rfl) ?_
    intro a68 ha68; clear ha67 a67
    refine wl_val ha68 rfl rfl rfl (op_move ha68 rfl rfl) ?_
    intro a69 ha69; clear ha68 a68
    refine wl_val ha69 rfl rfl rfl (op_move ha69 rfl rfl) ?_
    intro a70 ha70; clear ha69 a69
    refine wl_val ha70 rfl rfl rfl (op_move ha70 rfl rfl) ?_
    intro a71 ha71; clear ha70 a70
    refine wl_val ha71 rfl rfl rfl (op_indexAddr ha71 rfl Try.underlying25 ti55 rfl rfl (by omega) hi40) ?_
    intro a72 ha72; clear ha71 a71
    refine wl_val ha72 rfl rfl rfl (op_fieldAddr (sz := 0) ha72 rfl Try.underlying55 rfl rfl ti34 rfl) ?_
    intro a73 ha73; clear ha72 a72
    refine wl_val ha73 rfl rfl rfl (op_loadF (off := 2) ha73 rfl Try.underlying34 rfl rfl (hc41.ext hx66) rfl) ?_
    intro a74 ha74; clear ha73 a73
    refine wl_val ha74 rfl rfl rfl (op_move ha74 rfl rfl) ?_
    intro a75 ha75; clear ha74 a74
    refine wl_callR ha75 rfl rfl rfl (op_call ha75 rfl cb68 rfl) (c_spec_l30Insert _ v44 x37.2.2 bike (b47.ext pos_shStr hx66) (by first | assumption | omega | (simp; omega) | (intro c hc; have := cuOk_bd (cuB_el (by assumption) c hc); omega)) (by first | assumption | omega | (simp; omega) | (intro c hc; have := cuOk_bd (cuB_el (by assumption) c hc); omega))) ?_
    rintro v76 w77 he78 ho79 a80 ha80; clear ha75 a75
    have hx81 := hx66.trans' he78
    have hzhx81 := he78.size
    replace ho61 := ho61.ext he78
    replace hN63 := hN63.ext he78
    obtain ⟨x82, hx82⟩ := get_ex (xs := z62) (j := ((fnI list name : Int)).toNat) (by omega)
    obtain ⟨p83, c84, hi85, hc86, hr87, hs88⟩ := Rds.at_ (ho61.rds pos_shCustN) hx82
    obtain ⟨rfl, b89, b90, b91⟩ := inv_shCustN hr87
    have hn92 : Own shStr 9 w26.heap.size w26.heap.size w59.heap.size w77 x82.2 x82.1.2.2 := hN63.get hx82
    obtain ⟨_, _⟩ : _ ∧ _ := hs88
    have hbzx82 := cuOk_bd (hcuc14 _ (List.mem_of_getElem? (abs_get hE64 hx82)))
    refine wl_val ha80 rfl rfl rfl (op_indexAddr ha80 rfl Try.underlying25 ti55 rfl rfl (by omega) hi85) ?_
    intro a93 ha93; clear ha80 a80
    refine wl_val ha93 rfl rfl rfl (op_fieldAddr (sz := 0) ha93 rfl Try.underlying55 rfl rfl ti34 rfl) ?_
    intro a94 ha94; clear ha93 a93
    refine wl_effS ha94 rfl rfl (op_setCells (s := shCustN) (off := 2) (ds := [v76]) (S' := fun _ => False) ha94 rfl ti34 rfl rfl ho79.cells1 rfl (by intro u hu; have hu : u ∈ ([v76] : List Value) := hu; simp only [List.mem_cons, List.mem_nil_iff, or_false] at hu; rcases hu with rfl <;> first | rfl | exact ho79.one) ho61 hi85 (by omega) (Nat.le_of_ble_eq_true rfl) hc86 rfl (mk_shCustN ((((x82.1.1, x82.1.2.1, (liL bike x37.2.2)) : Str × Int × List Str), (v76 : Value))) (by first | assumption | omega | (simp; done) | (dsimp only; omega) | (dsimp only; assumption) | exact ⟨by omega, by omega⟩) (by first | assumption | omega | (simp; done) | (dsimp only; omega) | (dsimp only; assumption) | exact ⟨by omega, by omega⟩) ho79.one) (fun _ h => h.elim)) ?_
    rintro w95 ⟨ho97, hst96, hz98⟩
    have hx99 := hx81.stp hst96 (by intro q hq; have hq0 := ho61.lt q hq; omega)
    have hzhx99 := hst96.size
    first | replace hN63 := hN63.stpF flat_shStr hst96 ho61 rfl | replace hN63 := hN63.stp hst96 (by intro q hq; have hq0 := ho61.lt q hq; omega)
    replace ho79 := ho79.stp hst96 (by intro q hq; have hq0 := ho61.lt q hq; omega)
    first | replace hn92 := hn92.stp hst96 (by intro q hq; have hq0 := ho61.lt q hq; omega) | replace hn92 := hn92.stpF flat_shStr hst96 (hn92.ne ho61 rfl)
    clear ho61
    have hlsho97 : ((z62.set (((fnI list name : Int)).toNat) ((((x82.1.1, x82.1.2.1, (liL bike x37.2.2)) : Str × Int × List Str), (v76 : Value))))).length = z62.length := List.length_set
    have hN100 : Nst shStr 9 (fun x : Str × Int × List Str => x.2.2) w26.heap.size w77.heap.size w95 ((z62.set (((fnI list name : Int)).toNat) ((((x82.1.1, x82.1.2.1, (liL bike x37.2.2)) : Str × Int × List Str), (v76 : Value))))) := hN63.set ho79 (by omega) (by omega) (by omega)
    refine wpList_nil ?_
    refine then_n ?_
    refine wp_seq ?_
    refine wp_region_lit ?_
    refine wl_val ha94 rfl rfl rfl (op_move ha94 rfl rfl) ?_
    intro a101 ha101; clear ha94 a94
    refine wl_val ha101 rfl rfl rfl (op_assign ha101 rfl rfl) ?_
    intro a102 ha102; clear ha101 a101
    refine wl_val ha102 rfl rfl rfl (op_assign ha102 rfl rfl) ?_
    intro a103 ha103; clear ha102 a102
    refine wpList_nil ?_
    refine then_n ?_
    refine wp_ret ?_
    refine ret2 ha103 rfl rfl rfl ?_
    clear ha103 a103
    obtain ⟨hr, hr2⟩ := gvC_0 c14 c32 hx37 (by omega)
    refine ret_mk hx99 ⟨v58, (z62.set (((fnI list name : Int)).toNat) ((((x82.1.1, x82.1.2.1, (liL bike x37.2.2)) : Str × Int × List Str), (v76 : Value)))), (tup2_eq rfl (int_eq (by exact hr.symm))), ho97.fin (by omega) (by omega) (by omega), hN100.fin (by omega) (by omega), ?_⟩
    ·
     have hq := some_eq hx37 (abs_get hE64 hx82)
     rw [hr2, List.map_set, hE64]
     simp only [hq]
 ·
  rw [decide_eq_false c14] at ha13
  refine cond_t ha13 rfl ?_
  refine wp_seq ?_
  refine wp_region_lit ?_
  refine wl_val ha13 rfl rfl rfl (op_move ha13 rfl rfl) ?_
  intro a104 ha104; clear ha13 a13
  refine wl_val ha104 rfl rfl rfl (op_assign ha104 rfl rfl) ?_
  intro a105 ha105; clear ha104 a104
  refine wl_val ha105 rfl rfl rfl (op_assign ha105 rfl rfl) ?_
  intro a106 ha106; clear ha105 a105
  refine wpList_nil ?_
  refine then_n ?_
  refine wp_ret ?_
  refine then_r ?_
  refine ret2 ha106 rfl rfl rfl ?_
  clear ha106 a106
  have hr := gvC_c (n := name) (b := bike) (k := cd3 list name bike) rfl c14
  have hr2 := gvL_bad (by rw [hr]; exact c14)
  refine ret_mk hx10 ⟨(.slice none 0 0), [], (tup2_eq rfl (int_eq (by exact hr.symm))), Own.nil _ _ _ _ _ _, Nst.nil _ _ _ _ _ _, ?_⟩
  ·
   rw [hr2]; rfl


end Go.Proofs.Ythbkedflhmeohaa
