/- Questions over customers. -/
import Derived.Test.YthbkedflhmeohaaW2
namespace Go.Proofs.Ythbkedflhmeohaa
open Go Go.RowKit

def ownN (xs : List Cust) (b : Str) : Str := if cuB xs && wordB b then (if owI xs b < 0 then [] else (xs[(owI xs b).toNat]?).elim [] (·.1)) else []
def ownC (xs : List Cust) (b : Str) : Int := if cuB xs && wordB b then (if owI xs b < 0 then 4 else 0) else 1
def pfB (p : Str) (c : Cust) : Bool := decide (p.length ≤ c.1.length) && decide (c.1.take p.length = p)
def pfL (p : Str) : List Cust → List Str
  | [] => []
  | c :: cs => if pfB p c then c.1 :: pfL p cs else pfL p cs
theorem pfL_len (p : Str) : ∀ (xs : List Cust), (pfL p xs).length ≤ xs.length
  | [] => by simp [pfL]
  | c :: cs => by have := pfL_len p cs; rw [pfL]; split <;> simp <;> omega
def nbC (c : Cust) : Int := (c.2.2.length : Nat)
/-- One more, behind those that are not greater. -/
def insK {α : Type} (key : α → Int) (x : α) : List α → List α
  | [] => [x]
  | y :: ys => if key x < key y then x :: y :: ys else y :: insK key x ys
theorem insK_len {α : Type} (key : α → Int) (x : α) : ∀ (xs : List α), (insK key x xs).length = xs.length + 1
  | [] => rfl
  | y :: ys => by rw [insK]; split <;> simp [insK_len key x ys]
theorem insK_map {α β : Type} {f : α → β} {key : α → Int} {key' : β → Int} {x : α} : ∀ {xs : List α}, key' (f x) = key x → (∀ y ∈ xs, key' (f y) = key y) → (insK key x xs).map f = insK key' (f x) (xs.map f)
  | [], _, _ => rfl
  | y :: ys, hx, h => by
    rw [insK, List.map_cons, insK, hx, h y (by simp)]; split
    · rfl
    · rw [List.map_cons, insK_map hx fun z hz => h z (by simp [hz])]
theorem insK_mem {α : Type} {key : α → Int} {x z : α} : ∀ {xs : List α}, z ∈ insK key x xs ↔ z = x ∨ z ∈ xs
  | [] => by simp [insK]
  | y :: ys => by
    rw [insK]; split
    · simp
    · rw [List.mem_cons, insK_mem, List.mem_cons]
      constructor
      · rintro (e | e | e) <;> simp [e]
      · rintro (e | e | e) <;> simp [e]
abbrev UpK {α : Type} (key : α → Int) (xs : List α) : Prop := xs.Pairwise fun x y => key x ≤ key y
theorem insK_up {α : Type} {key : α → Int} {x : α} : ∀ {xs : List α}, UpK key xs → UpK key (insK key x xs)
  | [], _ => by simp [insK, UpK]
  | y :: ys, h => by
    have h' := List.pairwise_cons.1 h
    rw [insK]; split
    · refine List.Pairwise.cons (fun z hz => ?_) h
      rcases List.mem_cons.1 hz with e | e
      · subst e; omega
      · have := h'.1 z e; omega
    · refine List.Pairwise.cons (fun z hz => ?_) (insK_up h'.2)
      rcases insK_mem.1 hz with e | e
      · subst e; omega
      · exact h'.1 z e
theorem insK_cut {α : Type} {key : α → Int} {x : α} : ∀ {xs : List α} {k : Nat}, (∀ j y, j < k → xs[j]? = some y → key y ≤ key x) → (∀ j y, k ≤ j → xs[j]? = some y → key x < key y) → insK key x xs = xs.take k ++ x :: xs.drop k
  | [], k, _, _ => by simp [insK]
  | y :: ys, 0, _, h => by rw [insK, if_pos (h 0 y (Nat.le_refl _) rfl)]; rfl
  | y :: ys, k + 1, h, h' => by
    rw [insK, if_neg (by have := h 0 y (by omega) rfl; omega), insK_cut (k := k) (fun j z hj hz => h (j + 1) z (by omega) (by simpa using hz)) (fun j z hj hz => h' (j + 1) z (by omega) (by simpa using hz))]
    rfl
theorem upK_at {α : Type} {key : α → Int} {xs : List α} (h : UpK key xs) {i j : Nat} {x y : α} (hij : i ≤ j) (hx : xs[i]? = some x) (hy : xs[j]? = some y) : key x ≤ key y := by
  obtain ⟨hi, rfl⟩ := List.getElem?_eq_some_iff.1 hx
  obtain ⟨hj, rfl⟩ := List.getElem?_eq_some_iff.1 hy
  rcases Nat.lt_or_ge i j with q | q
  · exact List.pairwise_iff_getElem.1 h _ _ hi hj q
  · have : i = j := by omega
    subst this; exact Int.le_refl _
theorem insK_back {α : Type} {key : α → Int} {x : α} {xs : List α} {k : Nat} (h : UpK key xs) (hk : ∀ j y, k ≤ j → xs[j]? = some y → key x < key y) (h0 : k = 0 ∨ ∃ b, xs[k - 1]? = some b ∧ ¬ key x < key b) : insK key x xs = xs.take k ++ x :: xs.drop k := by
  refine insK_cut (fun j y hj hy => ?_) hk
  rcases h0 with h0 | ⟨b, hb, h1⟩
  · omega
  · have := upK_at h (show j ≤ k - 1 by omega) hy hb; omega
theorem insK_front {α : Type} {key : α → Int} {x : α} {xs : List α} {k : Nat} (h : UpK key xs) (hk : ∀ j y, j < k → xs[j]? = some y → key y ≤ key x) (h0 : xs.length ≤ k ∨ ∃ b, xs[k]? = some b ∧ ¬ key b ≤ key x) : insK key x xs = xs.take k ++ x :: xs.drop k := by
  refine insK_cut hk (fun j y hj hy => ?_)
  rcases h0 with h0 | ⟨b, hb, h1⟩
  · have := (List.getElem?_eq_some_iff.1 hy).1; omega
  · have := upK_at h hj hb hy; omega
def sinK (c : Cust) : Int := c.2.1
def ordGo : List Cust → List Cust → List Cust
  | [], acc => acc
  | c :: cs, acc => ordGo cs (insK sinK c acc)
def ordS (xs : List Cust) : List Cust := ordGo xs []
theorem ordGo_len : ∀ (xs acc : List Cust), (ordGo xs acc).length = acc.length + xs.length
  | [], acc => by simp [ordGo]
  | c :: cs, acc => by rw [ordGo, ordGo_len cs, insK_len, List.length_cons]; omega
theorem ordS_len (xs : List Cust) : (ordS xs).length = xs.length := by unfold ordS; rw [ordGo_len]; simp
def lsL (xs : List Cust) (most : Int) : List Str := ((ordS xs).map (·.1)).take most.toNat
def codeL (xs : List Cust) (m : Int) : Int := if cuB xs then if (decide (0 ≤ m) && decide (m ≤ 20)) = true then 0 else 2 else 1
theorem codeL_ok {xs : List Cust} {m : Int} (h : cuB xs = true) (h' : (decide (0 ≤ m) && decide (m ≤ 20)) = true) : codeL xs m = 0 := by unfold codeL; rw [if_pos h, if_pos h']
/-- The key of a place. -/
def keyI (xs : List Cust) (i : Int) : Int := (xs[i.toNat]?).elim 0 sinK
def getC (xs : List Cust) (i : Int) : Cust := (xs[i.toNat]?).getD ([], 0, [])
theorem keyI_get {xs : List Cust} {i : Int} (h : i.toNat < xs.length) : sinK (getC xs i) = keyI xs i := by
  obtain ⟨x, hx⟩ := get_ex h
  unfold getC keyI; rw [hx]; rfl
theorem getC_eq {xs : List Cust} {i : Nat} {c : Cust} (h : xs[i]? = some c) : getC xs (i : Int) = c := by unfold getC; rw [Int.toNat_natCast, h]; rfl

theorem c_impl_OwnerOf (w0 : World) (v_list : Value) (list : List (Str × Int × List Str)) {S_list : Nat → Prop} (bike : Str) (h_list : Rds shCust S_list w0 v_list list) (g0 : list.length ≤ 1048576) (g1 : bike.length ≤ 9223372036854775807) :
  Calls Try.prog 22 #[v_list, St bike] w0 (Ret w0 (fun v _ => v = .tuple #[St (ownN list bike), .int .i64 (ownC list bike)])) := by
 refine enter (N := 25) Try.func22 rfl rfl rfl ?_
 intro a0 ha0
 have hx0 := Ext.rfl' w0
 have hl_list := h_list.length_le
 have hob := fdF_bd (hasB bike) list
 have hob : -1 ≤ owI list bike ∧ owI list bike < list.length := fdF_bd (hasB bike) list
 refine wp_seq ?_
 refine wp_region_lit ?_
 refine wl_val ha0 rfl rfl rfl (op_assign ha0 rfl rfl) ?_
 intro a1 ha1; clear ha0 a0
 refine wl_val ha1 rfl rfl rfl (op_assign ha1 rfl rfl) ?_
 intro a2 ha2; clear ha1 a1
 refine wpList_nil ?_
 refine then_n ?_
 refine wp_seq ?_
 refine wp_seq ?_
 refine wp_region_lit ?_
 refine wl_val ha2 rfl rfl rfl (op_move ha2 rfl rfl) ?_
 intro a3 ha3; clear ha2 a2
 refine wl_callR ha3 rfl rfl rfl (op_call ha3 rfl cb17 rfl) (c_impl_AreCustomers _ v_list list (h_list.ext pos_shCust hx0) (by first | assumption | omega | (simp; omega))) ?_
 rintro v4 w5 he6 rfl a7 ha7; clear ha3 a3
 have hx8 := hx0.trans' he6
 have hzhx8 := he6.size
 refine wl_val ha7 rfl rfl rfl (op_not ha7 rfl rfl) ?_
 intro a9 ha9; clear ha7 a7
 refine wl_val ha9 rfl rfl rfl (op_move ha9 rfl rfl) ?_
 intro a10 ha10; clear ha9 a9
 rcases Bool.eq_false_or_eq_true (cuB list) with c11 | c11
 ·
  rw [c11] at ha10
  have hlenc11 := cuB_len c11
  have hcuc11 := cuB_el c11
  refine wl_val ha10 rfl rfl rfl (op_move ha10 rfl rfl) ?_
  intro a12 ha12; clear ha10 a10
  refine wl_callR ha12 rfl rfl rfl (op_call ha12 rfl cb56 rfl) (c_impl_IsWord _ bike (by first | assumption | omega | (simp; omega))) ?_
  rintro v13 w14 he15 rfl a16 ha16; clear ha12 a12
  have hx17 := hx8.trans' he15
  have hzhx17 := he15.size
  refine wl_val ha16 rfl rfl rfl (op_not ha16 rfl rfl) ?_
  intro a18 ha18; clear ha16 a16
  refine wl_val ha18 rfl rfl rfl (op_pick_f ha18 rfl rfl rfl) ?_
  intro a19 ha19; clear ha18 a18
  refine wpList_nil ?_
  refine then_n ?_
  rcases Bool.eq_false_or_eq_true (wordB bike) with c20 | c20
  ·
   rw [c20] at ha19
   refine cond_f ha19 rfl ?_
   refine wp_skip ?_
   refine then_n ?_
   refine wp_seq ?_
   refine wp_region_lit ?_
   refine wl_val ha19 rfl rfl rfl (op_move ha19 rfl rfl) ?_
   intro a21 ha21; clear ha19 a19
   refine wl_val ha21 rfl rfl rfl (op_move ha21 rfl rfl) ?_
   intro a22 ha22; clear ha21 a21
   refine wl_callR ha22 rfl rfl rfl (op_call ha22 rfl cb59 rfl) (c_impl_ownerOf _ v_list list bike (h_list.ext pos_shCust hx17)) ?_
   rintro v23 w24 he25 rfl a26 ha26; clear ha22 a22
   have hx27 := hx17.trans' he25
   have hzhx27 := he25.size
   refine wl_val ha26 rfl rfl rfl (op_assign ha26 rfl rfl) ?_
   intro a28 ha28; clear ha26 a26
   refine wpList_nil ?_
   refine then_n ?_
   refine wp_seq ?_
   refine wp_seq ?_
   refine wp_region_lit ?_
   refine wl_val ha28 rfl rfl rfl (op_move ha28 rfl rfl) ?_
   intro a29 ha29; clear ha28 a28
   refine wl_val ha29 rfl rfl rfl (op_lss ha29 rfl rfl rfl) ?_
   intro a30 ha30; clear ha29 a29
   refine wpList_nil ?_
   refine then_n ?_
   by_cases c31 : (owI list bike : Int) < (0 : Int)
   ·
    rw [decide_eq_true c31] at ha30
    refine cond_t ha30 rfl ?_
    refine wp_seq ?_
    refine wp_region_lit ?_
    refine wl_val ha30 rfl rfl rfl (op_assign ha30 rfl rfl) ?_
    intro a32 ha32; clear ha30 a30
    refine wl_val ha32 rfl rfl rfl (op_assign ha32 rfl rfl) ?_
    intro a33 ha33; clear ha32 a32
    refine wpList_nil ?_
    refine then_n ?_
    refine wp_ret ?_
    refine then_r ?_
    refine ret2 ha33 rfl rfl rfl ?_
    clear ha33 a33
    exact ret_mk hx27 (tup2_eq (congrArg St (by simp [ownN, c11, c20, c31])) (int_eq (by simp [ownC, c11, c20, c31])))
   ·
    rw [decide_eq_false c31] at ha30
    refine cond_f ha30 rfl ?_
    refine wp_skip ?_
    refine then_n ?_
    refine wp_seq ?_
    refine wp_region_lit ?_
    refine wl_val ha30 rfl rfl rfl (op_move ha30 rfl rfl) ?_
    intro a34 ha34; clear ha30 a30
    refine wl_val ha34 rfl rfl rfl (op_move ha34 rfl rfl) ?_
    intro a35 ha35; clear ha34 a34
    obtain ⟨x36, hx36⟩ := get_ex (xs := list) (j := ((owI list bike : Int)).toNat) (by omega)
    obtain ⟨p37, c38, hi39, hc40, hr41, hs42⟩ := Rds.at_ h_list hx36
    obtain ⟨v43, rfl, b44, b45, b46⟩ := inv_shCust hr41
    have hlb46 := b46.length_le
    have hbx36 := cuOk_bd (hcuc11 _ (List.mem_of_getElem? hx36))
    refine wl_val ha35 rfl rfl rfl (op_indexAddr ha35 rfl Try.underlying25 ti55 rfl rfl (by omega) hi39) ?_
    intro a47 ha47; clear ha35 a35
    refine wl_val ha47 rfl rfl rfl (op_fieldAddr (sz := 0) ha47 rfl Try.underlying55 rfl rfl ti9 rfl) ?_
    intro a48 ha48; clear ha47 a47
    refine wl_val ha48 rfl rfl rfl (op_loadF (off := 0) ha48 rfl Try.underlying9 rfl rfl (hc40.ext hx27) rfl) ?_
    intro a49 ha49; clear ha48 a48
    refine wl_val ha49 rfl rfl rfl (op_assign ha49 rfl rfl) ?_
    intro a50 ha50; clear ha49 a49
    refine wl_val ha50 rfl rfl rfl (op_assign ha50 rfl rfl) ?_
    intro a51 ha51; clear ha50 a50
    refine wpList_nil ?_
    refine then_n ?_
    refine wp_ret ?_
    refine ret2 ha51 rfl rfl rfl ?_
    clear ha51 a51
    exact ret_mk hx27 (tup2_eq (congrArg St (by simp [ownN, c11, c20, c31, hx36])) (int_eq (by simp [ownC, c11, c20, c31, hx36])))
  ·
   rw [c20] at ha19
   refine cond_t ha19 rfl ?_
   refine wp_seq ?_
   refine wp_region_lit ?_
   refine wl_val ha19 rfl rfl rfl (op_assign ha19 rfl rfl) ?_
   intro a52 ha52; clear ha19 a19
   refine wl_val ha52 rfl rfl rfl (op_assign ha52 rfl rfl) ?_
   intro a53 ha53; clear ha52 a52
   refine wpList_nil ?_
   refine then_n ?_
   refine wp_ret ?_
   refine then_r ?_
   refine ret2 ha53 rfl rfl rfl ?_
   clear ha53 a53
   exact ret_mk hx17 (tup2_eq (congrArg St (by simp [ownN, c11, c20])) (int_eq (by simp [ownC, c11, c20])))
 ·
  rw [c11] at ha10
  refine wl_skip ha10 rfl rfl rfl ?_
  intro a54 ha54; clear ha10 a10
  refine wl_skip ha54 rfl rfl rfl ?_
  intro a55 ha55; clear ha54 a54
  refine wl_skip ha55 rfl rfl rfl ?_
  intro a56 ha56; clear ha55 a55
  refine wl_val ha56 rfl rfl rfl (op_pick_t ha56 rfl rfl rfl) ?_
  intro a57 ha57; clear ha56 a56
  refine wpList_nil ?_
  refine then_n ?_
  refine cond_t ha57 rfl ?_
  refine wp_seq ?_
  refine wp_region_lit ?_
  refine wl_val ha57 rfl rfl rfl (op_assign ha57 rfl rfl) ?_
  intro a58 ha58; clear ha57 a57
  refine wl_val ha58 rfl rfl rfl (op_assign ha58 rfl rfl) ?_
  intro a59 ha59; clear ha58 a58
  refine wpList_nil ?_
  refine then_n ?_
  refine wp_ret ?_
  refine then_r ?_
  refine ret2 ha59 rfl rfl rfl ?_
  clear ha59 a59
  exact ret_mk hx8 (tup2_eq (congrArg St (by simp [ownN, c11])) (int_eq (by simp [ownC, c11])))

theorem c_spec_OwnerOf (w0 : World) (v_list : Value) (list : List (Str × Int × List Str)) {S_list : Nat → Prop} (bike : Str) (h_list : Rds shCust S_list w0 v_list list) (g0 : list.length ≤ 1048576) (g1 : bike.length ≤ 9223372036854775807) :
  Calls Try.prog 21 #[v_list, St bike] w0 (Ret w0 (fun v _ => v = .tuple #[St (ownN list bike), .int .i64 (ownC list bike)])) := by
 refine enter (N := 25) Try.func21 rfl rfl rfl ?_
 intro a0 ha0
 have hx0 := Ext.rfl' w0
 have hl_list := h_list.length_le
 have hob := fdF_bd (hasB bike) list
 have hob : -1 ≤ owI list bike ∧ owI list bike < list.length := fdF_bd (hasB bike) list
 refine wp_seq ?_
 refine wp_region_lit ?_
 refine wl_val ha0 rfl rfl rfl (op_assign ha0 rfl rfl) ?_
 intro a1 ha1; clear ha0 a0
 refine wl_val ha1 rfl rfl rfl (op_assign ha1 rfl rfl) ?_
 intro a2 ha2; clear ha1 a1
 refine wpList_nil ?_
 refine then_n ?_
 refine wp_seq ?_
 refine wp_seq ?_
 refine wp_region_lit ?_
 refine wl_val ha2 rfl rfl rfl (op_move ha2 rfl rfl) ?_
 intro a3 ha3; clear ha2 a2
 refine wl_callR ha3 rfl rfl rfl (op_call ha3 rfl cb15 rfl) (c_spec_AreCustomers _ v_list list (h_list.ext pos_shCust hx0) (by first | assumption | omega | (simp; omega))) ?_
 rintro v4 w5 he6 rfl a7 ha7; clear ha3 a3
 have hx8 := hx0.trans' he6
 have hzhx8 := he6.size
 refine wl_val ha7 rfl rfl rfl (op_not ha7 rfl rfl) ?_
 intro a9 ha9; clear ha7 a7
 refine wl_val ha9 rfl rfl rfl (op_move ha9 rfl rfl) ?_
 intro a10 ha10; clear ha9 a9
 rcases Bool.eq_false_or_eq_true (cuB list) with c11 | c11
 ·
  rw [c11] at ha10
  have hlenc11 := cuB_len c11
  have hcuc11 := cuB_el c11
  refine wl_val ha10 rfl rfl rfl (op_move ha10 rfl rfl) ?_
  intro a12 ha12; clear ha10 a10
  refine wl_callR ha12 rfl rfl rfl (op_call ha12 rfl cb52 rfl) (c_spec_IsWord _ bike (by first | assumption | omega | (simp; omega))) ?_
  rintro v13 w14 he15 rfl a16 ha16; clear ha12 a12
  have hx17 := hx8.trans' he15
  have hzhx17 := he15.size
  refine wl_val ha16 rfl rfl rfl (op_not ha16 rfl rfl) ?_
  intro a18 ha18; clear ha16 a16
  refine wl_val ha18 rfl rfl rfl (op_pick_f ha18 rfl rfl rfl) ?_
  intro a19 ha19; clear ha18 a18
  refine wpList_nil ?_
  refine then_n ?_
  rcases Bool.eq_false_or_eq_true (wordB bike) with c20 | c20
  ·
   rw [c20] at ha19
   refine cond_f ha19 rfl ?_
   refine wp_skip ?_
   refine then_n ?_
   refine wp_seq ?_
   refine wp_region_lit ?_
   refine wl_val ha19 rfl rfl rfl (op_move ha19 rfl rfl) ?_
   intro a21 ha21; clear ha19 a19
   refine wl_val ha21 rfl rfl rfl (op_move ha21 rfl rfl) ?_
   intro a22 ha22; clear ha21 a21
   refine wl_callR ha22 rfl rfl rfl (op_call ha22 rfl cb54 rfl) (c_spec_l30Owner _ v_list list bike (h_list.ext pos_shCust hx17)) ?_
   rintro v23 w24 he25 rfl a26 ha26; clear ha22 a22
   have hx27 := hx17.trans' he25
   have hzhx27 := he25.size
   refine wl_val ha26 rfl rfl rfl (op_assign ha26 rfl rfl) ?_
   intro a28 ha28; clear ha26 a26
   refine wpList_nil ?_
   refine then_n ?_
   refine wp_seq ?_
   refine wp_seq ?_
   refine wp_region_lit ?_
   refine wl_val ha28 rfl rfl rfl (op_move ha28 rfl rfl) ?_
   intro a29 ha29; clear ha28 a28
   refine wl_val ha29 rfl rfl rfl (op_lss ha29 rfl rfl rfl) ?_
   intro a30 ha30; clear ha29 a29
   refine wpList_nil ?_
   refine then_n ?_
   by_cases c31 : (owI list bike : Int) < (0 : Int)
   ·
    rw [decide_eq_true c31] at ha30
    refine cond_t ha30 rfl ?_
    refine wp_seq ?_
    refine wp_region_lit ?_
    refine wl_val ha30 rfl rfl rfl (op_assign ha30 rfl rfl) ?_
    intro a32 ha32; clear ha30 a30
    refine wl_val ha32 rfl rfl rfl (op_assign ha32 rfl rfl) ?_
    intro a33 ha33; clear ha32 a32
    refine wpList_nil ?_
    refine then_n ?_
    refine wp_ret ?_
    refine then_r ?_
    refine ret2 ha33 rfl rfl rfl ?_
    clear ha33 a33
    exact ret_mk hx27 (tup2_eq (congrArg St (by simp [ownN, c11, c20, c31])) (int_eq (by simp [ownC, c11, c20, c31])))
   ·
    rw [decide_eq_false c31] at ha30
    refine cond_f ha30 rfl ?_
    refine wp_skip ?_
    refine then_n ?_
    refine wp_seq ?_
    refine wp_region_lit ?_
    refine wl_val ha30 rfl rfl rfl (op_move ha30 rfl rfl) ?_
    intro a34 ha34; clear ha30 a30
    refine wl_val ha34 rfl rfl rfl (op_move ha34 rfl rfl) ?_
    intro a35 ha35; clear ha34 a34
    obtain ⟨x36, hx36⟩ := get_ex (xs := list) (j := ((owI list bike : Int)).toNat) (by omega)
    obtain ⟨p37, c38, hi39, hc40, hr41, hs42⟩ := Rds.at_ h_list hx36
    obtain ⟨v43, rfl, b44, b45, b46⟩ := inv_shCust hr41
    have hlb46 := b46.length_le
    have hbx36 := cuOk_bd (hcuc11 _ (List.mem_of_getElem? hx36))
    refine wl_val ha35 rfl rfl rfl (op_indexAddr ha35 rfl Try.underlying25 ti55 rfl rfl (by omega) hi39) ?_
    intro a47 ha47; clear ha35 a35
    refine wl_val ha47 rfl rfl rfl (op_fieldAddr (sz := 0) ha47 rfl Try.underlying55 rfl rfl ti9 rfl) ?_
    intro a48 ha48; clear ha47 a47
    refine wl_val ha48 rfl rfl rfl (op_loadF (off := 0) ha48 rfl Try.underlying9 rfl rfl (hc40.ext hx27) rfl) ?_
    intro a49 ha49; clear ha48 a48
    refine wl_val ha49 rfl rfl rfl (op_assign ha49 rfl rfl) ?_
    intro a50 ha50; clear ha49 a49
    refine wl_val ha50 rfl rfl rfl (op_assign ha50 rfl rfl) ?_
    intro a51 ha51; clear ha50 a50
    refine wpList_nil ?_
    refine then_n ?_
    refine wp_ret ?_
    refine ret2 ha51 rfl rfl rfl ?_
    clear ha51 a51
    exact ret_mk hx27 (tup2_eq (congrArg St (by simp [ownN, c11, c20, c31, hx36])) (int_eq (by simp [ownC, c11, c20, c31, hx36])))
  ·
   rw [c20] at ha19
   refine cond_t ha19 rfl ?_
   refine wp_seq ?_
   refine wp_region_lit ?_
   refine wl_val ha19 rfl rfl rfl (op_assign ha19 rfl rfl) ?_
   intro a52 ha52; clear ha19 a19
   refine wl_val ha52 rfl rfl rfl (op_assign ha52 rfl rfl) ?_
   intro a53 ha53; clear ha52 a52
   refine wpList_nil ?_
   refine then_n ?_
   refine wp_ret ?_
   refine then_r ?_
   refine ret2 ha53 rfl rfl rfl ?_
   clear ha53 a53
   exact ret_mk hx17 (tup2_eq (congrArg St (by simp [ownN, c11, c20])) (int_eq (by simp [ownC, c11, c20])))
 ·
  rw [c11] at ha10
  refine wl_skip ha10 rfl rfl rfl ?_
  intro a54 ha54; clear ha10 a10
  refine wl_skip ha54 rfl rfl rfl ?_
  intro a55 ha55; clear ha54 a54
  refine wl_skip ha55 rfl rfl rfl ?_
  intro a56 ha56; clear ha55 a55
  refine wl_val ha56 rfl rfl rfl (op_pick_t ha56 rfl rfl rfl) ?_
  intro a57 ha57; clear ha56 a56
  refine wpList_nil ?_
  refine then_n ?_
  refine cond_t ha57 rfl ?_
  refine wp_seq ?_
  refine wp_region_lit ?_
  refine wl_val ha57 rfl rfl rfl (op_assign ha57 rfl rfl) ?_
  intro a58 ha58; clear ha57 a57
  refine wl_val ha58 rfl rfl rfl (op_assign ha58 rfl rfl) ?_
  intro a59 ha59; clear ha58 a58
  refine wpList_nil ?_
  refine then_n ?_
  refine wp_ret ?_
  refine then_r ?_
  refine ret2 ha59 rfl rfl rfl ?_
  clear ha59 a59
  exact ret_mk hx8 (tup2_eq (congrArg St (by simp [ownN, c11])) (int_eq (by simp [ownC, c11])))

theorem c_impl_CountBikes (w0 : World) (v_list : Value) (list : List (Str × Int × List Str)) {S_list : Nat → Prop} (h_list : Rds shCust S_list w0 v_list list) (g0 : list.length ≤ 1048576) :
  Calls Try.prog 20 #[v_list] w0 (Ret w0 (fun v _ => v = .tuple #[.int .i64 (if cuB list then sumI nbC list else 0), .int .i64 (if cuB list then 0 else 1)])) := by
 refine enter (N := 23) Try.func20 rfl rfl rfl ?_
 intro a0 ha0
 have hx0 := Ext.rfl' w0
 have hl_list := h_list.length_le
 refine wp_seq ?_
 refine wp_region_lit ?_
 refine wl_val ha0 rfl rfl rfl (op_assign ha0 rfl rfl) ?_
 intro a1 ha1; clear ha0 a0
 refine wl_val ha1 rfl rfl rfl (op_assign ha1 rfl rfl) ?_
 intro a2 ha2; clear ha1 a1
 refine wpList_nil ?_
 refine then_n ?_
 refine wp_seq ?_
 refine wp_seq ?_
 refine wp_region_lit ?_
 refine wl_val ha2 rfl rfl rfl (op_move ha2 rfl rfl) ?_
 intro a3 ha3; clear ha2 a2
 refine wl_callR ha3 rfl rfl rfl (op_call ha3 rfl cb17 rfl) (c_impl_AreCustomers _ v_list list (h_list.ext pos_shCust hx0) (by first | assumption | omega | (simp; omega))) ?_
 rintro v4 w5 he6 rfl a7 ha7; clear ha3 a3
 have hx8 := hx0.trans' he6
 have hzhx8 := he6.size
 refine wl_val ha7 rfl rfl rfl (op_not ha7 rfl rfl) ?_
 intro a9 ha9; clear ha7 a7
 refine wpList_nil ?_
 refine then_n ?_
 rcases Bool.eq_false_or_eq_true (cuB list) with c10 | c10
 ·
  rw [c10] at ha9
  have hlenc10 := cuB_len c10
  have hcuc10 := cuB_el c10
  refine cond_f ha9 rfl ?_
  refine wp_skip ?_
  refine then_n ?_
  refine wp_seq ?_
  refine wp_region_lit ?_
  refine wl_val ha9 rfl rfl rfl (op_assign ha9 rfl rfl) ?_
  intro a11 ha11; clear ha9 a9
  refine wpList_nil ?_
  refine then_n ?_
  refine wp_seq ?_
  refine wp_seq ?_
  refine wp_region_lit ?_
  refine wl_val ha11 rfl rfl rfl (op_move ha11 rfl rfl) ?_
  intro a12 ha12; clear ha11 a11
  refine wl_val ha12 rfl rfl rfl (op_len_sl ha12 rfl Try.underlying25 rfl h_list) ?_
  intro a13 ha13; clear ha12 a12
  refine wl_val ha13 rfl rfl rfl (op_move ha13 rfl rfl) ?_
  intro a14 ha14; clear ha13 a13
  refine wpList_nil ?_
  refine then_n ?_
  refine wp_block ?_
  refine loop_inv (X := Nat × Int) (fun (⟨i, q⟩ : Nat × Int) fr wl => Sl 23 fr [(4, .int .i64 q), (10, v_list), (11, .int .i64 ((list.length : Nat) : Int)), (12, .int .i64 ((i : Nat) : Int))] ∧ Ext w0 wl ∧ w5.heap.size ≤ wl.heap.size ∧ (i ≤ list.length) ∧ (0 ≤ q) ∧ (q ≤ 5 * (i : Int)) ∧ (q + sumI nbC (list.drop i) = sumI nbC list)) (fun (⟨i, q⟩ : Nat × Int) => list.length - i) (0, (0 : Int)) ?_ ?_
  ·
   exact ⟨(Sl.cons_ ha14 rfl (int_eq (by omega)) (Sl.cons_ ha14 rfl rfl (Sl.cons_ ha14 rfl rfl (Sl.cons_ ha14 rfl (int_eq (by omega)) (Sl.nil_ ha14))))), hx8, (by omega), (by omega), (by omega), (by omega), (by simp)⟩
  ·
   clear ha14 a14
   rintro ⟨i, q⟩ a17 w15 ⟨ha17, hx16, hzl18, hi, hq0, hq1, hF⟩
   have hzhx16 := hx16.size
   refine wp_seq ?_
   refine wp_region_lit ?_
   refine wl_val ha17 rfl rfl rfl (op_lss ha17 rfl rfl rfl) ?_
   intro a19 ha19; clear ha17 a17
   refine wpList_nil ?_
   refine then_n ?_
   refine wp_seq ?_
   by_cases c20 : ((i : Nat) : Int) < ((list.length : Nat) : Int)
   ·
    rw [decide_eq_true c20] at ha19
    refine cond_t ha19 rfl ?_
    refine wp_skip ?_
    refine then_n ?_
    refine wp_seq ?_
    refine wp_block ?_
    refine wp_seq ?_
    refine wp_region_lit ?_
    obtain ⟨x21, hx21⟩ := get_ex (xs := list) (j := i) (by omega)
    obtain ⟨p22, c23, hi24, hc25, hr26, hs27⟩ := Rds.at_ h_list hx21
    obtain ⟨v28, rfl, b29, b30, b31⟩ := inv_shCust hr26
    have hlb31 := b31.length_le
    have hbx21 := cuOk_bd (hcuc10 _ (List.mem_of_getElem? hx21))
    refine wl_val ha19 rfl rfl rfl (op_indexAddr ha19 rfl Try.underlying25 ti55 rfl rfl (by omega) hi24) ?_
    intro a32 ha32; clear ha19 a19
    refine wl_val ha32 rfl rfl rfl (op_loadS ha32 rfl Try.underlying55 ti55 rfl rfl (hc25.ext hx16)) ?_
    intro a33 ha33; clear ha32 a32
    refine wl_eff ha33 rfl rfl rfl (op_alloc' rfl ti55 rfl) ?_
    rintro _ w35 ⟨rfl, he36, hb37, hz38⟩ a39 ha39; clear ha33 a33
    have hx40 := hx16.trans' he36
    have hzhx40 := he36.size
    refine wl_effS ha39 rfl rfl (op_storeAll' ha39 rfl ti55 rfl rfl hb37 rfl rfl (by intro u hu; have hu : u ∈ ([St x21.1, .int .i64 x21.2.1, v28] : List Value) := hu; simp only [List.mem_cons, List.mem_nil_iff, or_false] at hu; rcases hu with rfl | rfl | rfl <;> first | rfl | exact b31.one) rfl) ?_
    rintro w41 ⟨hb43, hst42, hz44⟩
    have hx45 := hx40.stp hst42 (by intro q hq; cases hq; exact (by omega))
    have hzhx45 := hst42.size
    clear hb37
    refine wpList_nil ?_
    refine then_n ?_
    refine wp_region_lit ?_
    refine wl_val ha39 rfl rfl rfl (op_move ha39 rfl rfl) ?_
    intro a46 ha46; clear ha39 a39
    refine wl_val ha46 rfl rfl rfl (op_fieldAddr (sz := 0) ha46 rfl Try.underlying55 rfl rfl ti34 rfl) ?_
    intro a47 ha47; clear ha46 a46
    refine wl_val ha47 rfl rfl rfl (op_loadF (off := 2) ha47 rfl Try.underlying34 rfl rfl hb43.cells rfl) ?_
    intro a48 ha48; clear ha47 a47
    refine wl_val ha48 rfl rfl rfl (op_len_sl ha48 rfl Try.underlying34 rfl b31) ?_
    intro a49 ha49; clear ha48 a48
    refine wl_val ha49 rfl rfl rfl ((op_add ha49 rfl rfl rfl).int (IntWalk.i64_in _ (by omega))) ?_
    intro a50 ha50; clear ha49 a49
    refine wl_val ha50 rfl rfl rfl (op_assign ha50 rfl rfl) ?_
    intro a51 ha51; clear ha50 a50
    refine wpList_nil ?_
    refine block_n ?_
    refine then_n ?_
    refine wp_region_lit ?_
    refine wl_val ha51 rfl rfl rfl ((op_add ha51 rfl rfl rfl).int (IntWalk.i64_in _ (by omega))) ?_
    intro a52 ha52; clear ha51 a51
    refine wl_val ha52 rfl rfl rfl (op_move ha52 rfl rfl) ?_
    intro a53 ha53; clear ha52 a52
    refine wpList_nil ?_
    refine round_end (x := (i, q)) ((i + 1), (q + ((x21.2.2.length : Nat) : Int))) ?_ ?_
    ·
     refine ⟨(Sl.cons_ ha53 rfl (int_eq (by omega)) (Sl.cons_ ha53 rfl rfl (Sl.cons_ ha53 rfl rfl (Sl.cons_ ha53 rfl (int_eq (by omega)) (Sl.nil_ ha53))))), hx45, (by omega), (by omega), (by omega), (by omega), (by have hnb : nbC x21 = (x21.2.2.length : Nat) := rfl; rw [drop_cons hx21] at hF; simp only [sumI] at hF; omega)⟩
    ·show (list.length - ((i + 1)) : Nat) < list.length - i; omega
   ·
    rw [decide_eq_false c20] at ha19
    refine cond_f ha19 rfl ?_
    refine wp_exit ?_
    refine then_e ?_
    refine then_e ?_
    refine block_hit ?_
    refine then_n ?_
    refine wp_seq ?_
    refine wp_region_lit ?_
    refine wl_val ha19 rfl rfl rfl (op_move ha19 rfl rfl) ?_
    intro a54 ha54; clear ha19 a19
    refine wl_val ha54 rfl rfl rfl (op_assign ha54 rfl rfl) ?_
    intro a55 ha55; clear ha54 a54
    refine wl_val ha55 rfl rfl rfl (op_assign ha55 rfl rfl) ?_
    intro a56 ha56; clear ha55 a55
    refine wpList_nil ?_
    refine then_n ?_
    refine wp_ret ?_
    refine ret2 ha56 rfl rfl rfl ?_
    clear ha56 a56
    exact ret_mk hx16 (tup2_eq (int_eq (by rw [drop_nil (by omega)] at hF; simp only [sumI] at hF; simp [c10, c20]; omega)) (int_eq (by simp [c10, c20])))
 ·
  rw [c10] at ha9
  refine cond_t ha9 rfl ?_
  refine wp_seq ?_
  refine wp_region_lit ?_
  refine wl_val ha9 rfl rfl rfl (op_assign ha9 rfl rfl) ?_
  intro a57 ha57; clear ha9 a9
  refine wl_val ha57 rfl rfl rfl (op_assign ha57 rfl rfl) ?_
  intro a58 ha58; clear ha57 a57
  refine wpList_nil ?_
  refine then_n ?_
  refine wp_ret ?_
  refine then_r ?_
  refine ret2 ha58 rfl rfl rfl ?_
  clear ha58 a58
  exact ret_mk hx8 (tup2_eq (int_eq (by simp [c10])) (int_eq (by simp [c10])))

theorem c_spec_CountBikes (w0 : World) (v_list : Value) (list : List (Str × Int × List Str)) {S_list : Nat → Prop} (h_list : Rds shCust S_list w0 v_list list) (g0 : list.length ≤ 1048576) :
  Calls Try.prog 19 #[v_list] w0 (Ret w0 (fun v _ => v = .tuple #[.int .i64 (if cuB list then sumI nbC list else 0), .int .i64 (if cuB list then 0 else 1)])) := by
 refine enter (N := 24) Try.func19 rfl rfl rfl ?_
 intro a0 ha0
 have hx0 := Ext.rfl' w0
 have hl_list := h_list.length_le
 refine wp_seq ?_
 refine wp_region_lit ?_
 refine wl_val ha0 rfl rfl rfl (op_assign ha0 rfl rfl) ?_
 intro a1 ha1; clear ha0 a0
 refine wl_val ha1 rfl rfl rfl (op_assign ha1 rfl rfl) ?_
 intro a2 ha2; clear ha1 a1
 refine wpList_nil ?_
 refine then_n ?_
 refine wp_seq ?_
 refine wp_seq ?_
 refine wp_region_lit ?_
 refine wl_val ha2 rfl rfl rfl (op_move ha2 rfl rfl) ?_
 intro a3 ha3; clear ha2 a2
 refine wl_callR ha3 rfl rfl rfl (op_call ha3 rfl cb15 rfl) (c_spec_AreCustomers _ v_list list (h_list.ext pos_shCust hx0) (by first | assumption | omega | (simp; omega))) ?_
 rintro v4 w5 he6 rfl a7 ha7; clear ha3 a3
 have hx8 := hx0.trans' he6
 have hzhx8 := he6.size
 refine wl_val ha7 rfl rfl rfl (op_not ha7 rfl rfl) ?_
 intro a9 ha9; clear ha7 a7
 refine wpList_nil ?_
 refine then_n ?_
 rcases Bool.eq_false_or_eq_true (cuB list) with c10 | c10
 ·
  rw [c10] at ha9
  have hlenc10 := cuB_len c10
  have hcuc10 := cuB_el c10
  refine cond_f ha9 rfl ?_
  refine wp_skip ?_
  refine then_n ?_
  refine wp_seq ?_
  refine wp_region_lit ?_
  refine wl_val ha9 rfl rfl rfl (op_assign ha9 rfl rfl) ?_
  intro a11 ha11; clear ha9 a9
  refine wpList_nil ?_
  refine then_n ?_
  refine wp_seq ?_
  refine wp_seq ?_
  refine wp_region_lit ?_
  refine wl_val ha11 rfl rfl rfl (op_assign ha11 rfl rfl) ?_
  intro a12 ha12; clear ha11 a11
  refine wpList_nil ?_
  refine then_n ?_
  refine wp_block ?_
  refine loop_inv (X := Nat × Int) (fun (⟨i, q⟩ : Nat × Int) fr wl => Sl 24 fr [(0, v_list), (4, .int .i64 q), (5, .int .i64 ((i : Nat) : Int))] ∧ Ext w0 wl ∧ w5.heap.size ≤ wl.heap.size ∧ (i ≤ list.length) ∧ (0 ≤ q) ∧ (q ≤ 5 * (i : Int)) ∧ (q + sumI nbC (list.drop i) = sumI nbC list)) (fun (⟨i, q⟩ : Nat × Int) => list.length - i) (0, (0 : Int)) ?_ ?_
  ·
   exact ⟨(Sl.cons_ ha12 rfl rfl (Sl.cons_ ha12 rfl (int_eq (by omega)) (Sl.cons_ ha12 rfl (int_eq (by omega)) (Sl.nil_ ha12)))), hx8, (by omega), (by omega), (by omega), (by omega), (by simp)⟩
  ·
   clear ha12 a12
   rintro ⟨i, q⟩ a15 w13 ⟨ha15, hx14, hzl16, hi, hq0, hq1, hF⟩
   have hzhx14 := hx14.size
   refine wp_seq ?_
   refine wp_seq ?_
   refine wp_region_lit ?_
   refine wl_val ha15 rfl rfl rfl (op_move ha15 rfl rfl) ?_
   intro a17 ha17; clear ha15 a15
   refine wl_val ha17 rfl rfl rfl (op_move ha17 rfl rfl) ?_
   intro a18 ha18; clear ha17 a17
   refine wl_val ha18 rfl rfl rfl (op_len_sl ha18 rfl Try.underlying25 rfl h_list) ?_
   intro a19 ha19; clear ha18 a18
   refine wl_val ha19 rfl rfl rfl (op_lss ha19 rfl rfl rfl) ?_
   intro a20 ha20; clear ha19 a19
   refine wpList_nil ?_
   refine then_n ?_
   by_cases c21 : ((i : Nat) : Int) < ((list.length : Nat) : Int)
   ·
    rw [decide_eq_true c21] at ha20
    refine cond_t ha20 rfl ?_
    refine wp_skip ?_
    refine then_n ?_
    refine wp_seq ?_
    refine wp_block ?_
    refine wp_region_lit ?_
    refine wl_val ha20 rfl rfl rfl (op_move ha20 rfl rfl) ?_
    intro a22 ha22; clear ha20 a20
    refine wl_val ha22 rfl rfl rfl (op_move ha22 rfl rfl) ?_
    intro a23 ha23; clear ha22 a22
    refine wl_val ha23 rfl rfl rfl (op_move ha23 rfl rfl) ?_
    intro a24 ha24; clear ha23 a23
    obtain ⟨x25, hx25⟩ := get_ex (xs := list) (j := i) (by omega)
    obtain ⟨p26, c27, hi28, hc29, hr30, hs31⟩ := Rds.at_ h_list hx25
    obtain ⟨v32, rfl, b33, b34, b35⟩ := inv_shCust hr30
    have hlb35 := b35.length_le
    have hbx25 := cuOk_bd (hcuc10 _ (List.mem_of_getElem? hx25))
    refine wl_val ha24 rfl rfl rfl (op_indexAddr ha24 rfl Try.underlying25 ti55 rfl rfl (by omega) hi28) ?_
    intro a36 ha36; clear ha24 a24
    refine wl_val ha36 rfl rfl rfl (op_fieldAddr (sz := 0) ha36 rfl Try.underlying55 rfl rfl ti34 rfl) ?_
    intro a37 ha37; clear ha36 a36
    refine wl_val ha37 rfl rfl rfl (op_loadF (off := 2) ha37 rfl Try.underlying34 rfl rfl (hc29.ext hx14) rfl) ?_
    intro a38 ha38; clear ha37 a37
    refine wl_val ha38 rfl rfl rfl (op_len_sl ha38 rfl Try.underlying34 rfl b35) ?_
    intro a39 ha39; clear ha38 a38
    refine wl_val ha39 rfl rfl rfl ((op_add ha39 rfl rfl rfl).int (IntWalk.i64_in _ (by omega))) ?_
    intro a40 ha40; clear ha39 a39
    refine wl_val ha40 rfl rfl rfl (op_assign ha40 rfl rfl) ?_
    intro a41 ha41; clear ha40 a40
    refine wpList_nil ?_
    refine block_n ?_
    refine then_n ?_
    refine wp_region_lit ?_
    refine wl_val ha41 rfl rfl rfl (op_move ha41 rfl rfl) ?_
    intro a42 ha42; clear ha41 a41
    refine wl_val ha42 rfl rfl rfl ((op_add ha42 rfl rfl rfl).int (IntWalk.i64_in _ (by omega))) ?_
    intro a43 ha43; clear ha42 a42
    refine wl_val ha43 rfl rfl rfl (op_assign ha43 rfl rfl) ?_
    intro a44 ha44; clear ha43 a43
    refine wpList_nil ?_
    refine round_end (x := (i, q)) ((i + 1), (q + ((x25.2.2.length : Nat) : Int))) ?_ ?_
    ·
     refine ⟨(Sl.cons_ ha44 rfl rfl (Sl.cons_ ha44 rfl (int_eq (by omega)) (Sl.cons_ ha44 rfl (int_eq (by omega)) (Sl.nil_ ha44)))), hx14, (by omega), (by omega), (by omega), (by omega), (by have hnb : nbC x25 = (x25.2.2.length : Nat) := rfl; rw [drop_cons hx25] at hF; simp only [sumI] at hF; omega)⟩
    ·show (list.length - ((i + 1)) : Nat) < list.length - i; omega
   ·
    rw [decide_eq_false c21] at ha20
    refine cond_f ha20 rfl ?_
    refine wp_exit ?_
    refine then_e ?_
    refine then_e ?_
    refine block_hit ?_
    refine then_n ?_
    refine wp_seq ?_
    refine wp_region_lit ?_
    refine wl_val ha20 rfl rfl rfl (op_move ha20 rfl rfl) ?_
    intro a45 ha45; clear ha20 a20
    refine wl_val ha45 rfl rfl rfl (op_assign ha45 rfl rfl) ?_
    intro a46 ha46; clear ha45 a45
    refine wl_val ha46 rfl rfl rfl (op_assign ha46 rfl rfl) ?_
    intro a47 ha47; clear ha46 a46
    refine wpList_nil ?_
    refine then_n ?_
    refine wp_ret ?_
    refine ret2 ha47 rfl rfl rfl ?_
    clear ha47 a47
    exact ret_mk hx14 (tup2_eq (int_eq (by rw [drop_nil (by omega)] at hF; simp only [sumI] at hF; simp [c10, c21]; omega)) (int_eq (by simp [c10, c21])))
 ·
  rw [c10] at ha9
  refine cond_t ha9 rfl ?_
  refine wp_seq ?_
  refine wp_region_lit ?_
  refine wl_val ha9 rfl rfl rfl (op_assign ha9 rfl rfl) ?_
  intro a48 ha48; clear ha9 a9
  refine wl_val ha48 rfl rfl rfl (op_assign ha48 rfl rfl) ?_
  intro a49 ha49; clear ha48 a48
  refine wpList_nil ?_
  refine then_n ?_
  refine wp_ret ?_
  refine then_r ?_
  refine ret2 ha49 rfl rfl rfl ?_
  clear ha49 a49
  exact ret_mk hx8 (tup2_eq (int_eq (by simp [c10])) (int_eq (by simp [c10])))

theorem c_impl_WithPrefix (w0 : World) (v_list : Value) (list : List (Str × Int × List Str)) {S_list : Nat → Prop} (prefx : Str) (h_list : Rds shCust S_list w0 v_list list) (g0 : list.length ≤ 1048576) (g1 : prefx.length ≤ 9223372036854775807) :
  Calls Try.prog 24 #[v_list, St prefx] w0 (Ret w0 (fun v w1 => ∃ r0, v = .tuple #[r0, .int .i64 (if cuB list then 0 else 1)] ∧ Own shStr 9 w0.heap.size w0.heap.size w1.heap.size w1 r0 (if cuB list then pfL prefx list else []))) := by
 refine enter (N := 40) Try.func24 rfl rfl rfl ?_
 intro a0 ha0
 have hx0 := Ext.rfl' w0
 have hl_list := h_list.length_le
 refine wp_seq ?_
 refine wp_region_lit ?_
 refine wl_val ha0 rfl rfl rfl (op_assign ha0 rfl rfl) ?_
 intro a1 ha1; clear ha0 a0
 refine wl_val ha1 rfl rfl rfl (op_assign ha1 rfl rfl) ?_
 intro a2 ha2; clear ha1 a1
 refine wpList_nil ?_
 refine then_n ?_
 refine wp_seq ?_
 refine wp_seq ?_
 refine wp_region_lit ?_
 refine wl_val ha2 rfl rfl rfl (op_move ha2 rfl rfl) ?_
 intro a3 ha3; clear ha2 a2
 refine wl_callR ha3 rfl rfl rfl (op_call ha3 rfl cb17 rfl) (c_impl_AreCustomers _ v_list list (h_list.ext pos_shCust hx0) (by first | assumption | omega | (simp; omega))) ?_
 rintro v4 w5 he6 rfl a7 ha7; clear ha3 a3
 have hx8 := hx0.trans' he6
 have hzhx8 := he6.size
 refine wl_val ha7 rfl rfl rfl (op_not ha7 rfl rfl) ?_
 intro a9 ha9; clear ha7 a7
 refine wpList_nil ?_
 refine then_n ?_
 rcases Bool.eq_false_or_eq_true (cuB list) with c10 | c10
 ·
  rw [c10] at ha9
  have hlenc10 := cuB_len c10
  have hcuc10 := cuB_el c10
  refine cond_f ha9 rfl ?_
  refine wp_skip ?_
  refine then_n ?_
  refine wp_seq ?_
  refine wp_region_lit ?_
  refine wl_val ha9 rfl rfl rfl (op_assign ha9 rfl rfl) ?_
  intro a11 ha11; clear ha9 a9
  refine wpList_nil ?_
  refine then_n ?_
  refine wp_seq ?_
  refine wp_seq ?_
  refine wp_region_lit ?_
  refine wl_val ha11 rfl rfl rfl (op_move ha11 rfl rfl) ?_
  intro a12 ha12; clear ha11 a11
  refine wl_val ha12 rfl rfl rfl (op_len_sl ha12 rfl Try.underlying25 rfl h_list) ?_
  intro a13 ha13; clear ha12 a12
  refine wl_val ha13 rfl rfl rfl (op_move ha13 rfl rfl) ?_
  intro a14 ha14; clear ha13 a13
  refine wpList_nil ?_
  refine then_n ?_
  refine wp_block ?_
  refine loop_inv (X := Nat × Value × (List Str)) (fun (⟨i, v, acc⟩ : Nat × Value × (List Str)) fr wl => Sl 40 fr [(1, St prefx), (6, v), (12, v_list), (13, .int .i64 ((list.length : Nat) : Int)), (14, .int .i64 ((i : Nat) : Int))] ∧ Ext w0 wl ∧ Own shStr 9 w5.heap.size w5.heap.size wl.heap.size wl v acc ∧ w5.heap.size ≤ wl.heap.size ∧ (i ≤ list.length) ∧ (acc.length ≤ i) ∧ (acc ++ pfL prefx (list.drop i) = pfL prefx list)) (fun (⟨i, v, acc⟩ : Nat × Value × (List Str)) => list.length - i) (0, (.slice none 0 0), []) ?_ ?_
  ·
   exact ⟨(Sl.cons_ ha14 rfl rfl (Sl.cons_ ha14 rfl rfl (Sl.cons_ ha14 rfl rfl (Sl.cons_ ha14 rfl rfl (Sl.cons_ ha14 rfl (int_eq (by omega)) (Sl.nil_ ha14)))))), hx8, (Own.nil _ _ _ _ _ _), (by omega), (by omega), (by simp), (by rfl)⟩
  ·
   clear ha14 a14
   rintro ⟨i, v, acc⟩ a18 w15 ⟨ha18, hx16, hf17, hzl19, hi, hl, hF⟩
   have hzhx16 := hx16.size
   refine wp_seq ?_
   refine wp_region_lit ?_
   refine wl_val ha18 rfl rfl rfl (op_lss ha18 rfl rfl rfl) ?_
   intro a20 ha20; clear ha18 a18
   refine wpList_nil ?_
   refine then_n ?_
   refine wp_seq ?_
   by_cases c21 : ((i : Nat) : Int) < ((list.length : Nat) : Int)
   ·
    rw [decide_eq_true c21] at ha20
    refine cond_t ha20 rfl ?_
    refine wp_skip ?_
    refine then_n ?_
    refine wp_seq ?_
    refine wp_block ?_
    refine wp_seq ?_
    refine wp_region_lit ?_
    obtain ⟨x22, hx22⟩ := get_ex (xs := list) (j := i) (by omega)
    obtain ⟨p23, c24, hi25, hc26, hr27, hs28⟩ := Rds.at_ h_list hx22
    obtain ⟨v29, rfl, b30, b31, b32⟩ := inv_shCust hr27
    have hlb32 := b32.length_le
    have hbx22 := cuOk_bd (hcuc10 _ (List.mem_of_getElem? hx22))
    refine wl_val ha20 rfl rfl rfl (op_indexAddr ha20 rfl Try.underlying25 ti55 rfl rfl (by omega) hi25) ?_
    intro a33 ha33; clear ha20 a20
    refine wl_val ha33 rfl rfl rfl (op_loadS ha33 rfl Try.underlying55 ti55 rfl rfl (hc26.ext hx16)) ?_
    intro a34 ha34; clear ha33 a33
    refine wl_eff ha34 rfl rfl rfl (op_alloc' rfl ti55 rfl) ?_
    rintro _ w36 ⟨rfl, he37, hb38, hz39⟩ a40 ha40; clear ha34 a34
    have hx41 := hx16.trans' he37
    have hzhx41 := he37.size
    replace hf17 := hf17.ext he37
    refine wl_effS ha40 rfl rfl (op_storeAll' ha40 rfl ti55 rfl rfl hb38 rfl rfl (by intro u hu; have hu : u ∈ ([St x22.1, .int .i64 x22.2.1, v29] : List Value) := hu; simp only [List.mem_cons, List.mem_nil_iff, or_false] at hu; rcases hu with rfl | rfl | rfl <;> first | rfl | exact b32.one) rfl) ?_
    rintro w42 ⟨hb44, hst43, hz45⟩
    have hx46 := hx41.stp hst43 (by intro q hq; cases hq; exact (by omega))
    have hzhx46 := hst43.size
    replace hf17 := hf17.stp hst43 (by intro q hq; cases hq; omega)
    clear hb38
    refine wpList_nil ?_
    refine then_n ?_
    refine wp_seq ?_
    refine wp_region_lit ?_
    refine wl_val ha40 rfl rfl rfl (op_fieldAddr (sz := 0) ha40 rfl Try.underlying55 rfl rfl ti9 rfl) ?_
    intro a47 ha47; clear ha40 a40
    refine wl_val ha47 rfl rfl rfl (op_loadF (off := 0) ha47 rfl Try.underlying9 rfl rfl hb44.cells rfl) ?_
    intro a48 ha48; clear ha47 a47
    refine wl_val ha48 rfl rfl rfl (op_len_str ha48 rfl Try.underlying9 rfl) ?_
    intro a49 ha49; clear ha48 a48
    refine wl_val ha49 rfl rfl rfl (op_move ha49 rfl rfl) ?_
    intro a50 ha50; clear ha49 a49
    refine wl_val ha50 rfl rfl rfl (op_len_str ha50 rfl Try.underlying9 rfl) ?_
    intro a51 ha51; clear ha50 a50
    refine wl_val ha51 rfl rfl rfl (op_geq ha51 rfl rfl rfl) ?_
    intro a52 ha52; clear ha51 a51
    refine wl_val ha52 rfl rfl rfl (op_move ha52 rfl rfl) ?_
    intro a53 ha53; clear ha52 a52
    by_cases c54 : ((prefx.length : Nat) : Int) ≤ ((x22.1.length : Nat) : Int)
    ·
     rw [decide_eq_true c54] at ha53
     refine wl_val ha53 rfl rfl rfl (op_fieldAddr (sz := 0) ha53 rfl Try.underlying55 rfl rfl ti9 rfl) ?_
     intro a55 ha55; clear ha53 a53
     refine wl_val ha55 rfl rfl rfl (op_loadF (off := 0) ha55 rfl Try.underlying9 rfl rfl hb44.cells rfl) ?_
     intro a56 ha56; clear ha55 a55
     refine wl_val ha56 rfl rfl rfl (op_move ha56 rfl rfl) ?_
     intro a57 ha57; clear ha56 a56
     refine wl_val ha57 rfl rfl rfl (op_len_str ha57 rfl Try.underlying9 rfl) ?_
     intro a58 ha58; clear ha57 a57
     refine wl_val ha58 rfl rfl rfl (op_slice_str_t (j := prefx.length) (by omega) ha58 rfl Try.underlying9 rfl rfl (by omega)) ?_
     intro a59 ha59; clear ha58 a58
     refine wl_val ha59 rfl rfl rfl (op_move ha59 rfl rfl) ?_
     intro a60 ha60; clear ha59 a59
     refine wl_val ha60 rfl rfl rfl (op_seql ha60 rfl rfl rfl) ?_
     intro a61 ha61; clear ha60 a60
     refine wl_val ha61 rfl rfl rfl (op_pick_t ha61 rfl rfl rfl) ?_
     intro a62 ha62; clear ha61 a61
     refine wpList_nil ?_
     refine then_n ?_
     by_cases c63 : x22.1.take prefx.length = prefx
     ·
      rw [decide_eq_true c63] at ha62
      refine cond_t ha62 rfl ?_
      refine wp_region_lit ?_
      refine wl_val ha62 rfl rfl rfl (op_move ha62 rfl rfl) ?_
      intro a64 ha64; clear ha62 a62
      refine wl_val ha64 rfl rfl rfl (op_fieldAddr (sz := 0) ha64 rfl Try.underlying55 rfl rfl ti9 rfl) ?_
      intro a65 ha65; clear ha64 a64
      refine wl_val ha65 rfl rfl rfl (op_loadF (off := 0) ha65 rfl Try.underlying9 rfl rfl hb44.cells rfl) ?_
      intro a66 ha66; clear ha65 a65
      refine wl_eff ha66 rfl rfl rfl (op_buildSlice (s := shStr) (xs := [x22.1]) (cs := [St x22.1]) (vs := [(0, St x22.1)]) (S := fun _ => False) (le := w42.heap.size) ha66 rfl pos_shStr Try.underlying34 ti9 rfl rfl (by decide) (by kernel_rfl) (Els.single (mk_shStr x22.1 (by first | assumption | omega | (simp; omega)))) (fun _ h => h.elim)) ?_
      rintro v67 w68 ⟨ho69, he70, hob71⟩ a72 ha72; clear ha66 a66
      have hx73 := hx46.trans' he70
      have hzhx73 := he70.size
      replace hf17 := hf17.ext he70
      replace hb44 := hb44.ext he70
      refine wl_eff ha72 rfl rfl rfl (op_append (ts := #[]) (s := shStr) ha72 rfl Try.underlying34 ti9 rfl pos_shStr rfl rfl hf17 (ho69.rds pos_shStr) (by omega) (by omega) (by first | omega | (simp; omega)) (by first | omega | (simp; omega)) (.inl flat_shStr)) ?_
      rintro v74 w75 ⟨ho76, hst77, hob78⟩ a79 ha79; clear ha72 a72
      have hx80 := hx73.stp hst77 (by intro q hq; have hq0 := hf17.lt q hq; omega)
      have hzhx80 := hst77.size
      replace hb44 := hb44.stp hst77 (by intro q hq; have hq0 := hf17.lt q hq; omega)
      replace ho69 := ho69.stp hst77 (by intro q hq; have hq0 := hf17.lt q hq; omega)
      have hsp81 : ∀ q, Value.ownBlock v74 = some q → Value.ownBlock v67 ≠ some q := by intro q hq hb; have hq0 := ho69.lt q hb; rcases hob78 with h | h; (rw [h] at hq; first | (have hq1 := hf17.lt q hq; omega)); (rw [h] at hq; cases hq; omega)
      refine wl_val ha79 rfl rfl rfl (op_assign ha79 rfl rfl) ?_
      intro a82 ha82; clear ha79 a79
      refine wpList_nil ?_
      refine block_n ?_
      refine then_n ?_
      refine wp_region_lit ?_
      refine wl_val ha82 rfl rfl rfl ((op_add ha82 rfl rfl rfl).int (IntWalk.i64_in _ (by omega))) ?_
      intro a83 ha83; clear ha82 a82
      refine wl_val ha83 rfl rfl rfl (op_move ha83 rfl rfl) ?_
      intro a84 ha84; clear ha83 a83
      refine wpList_nil ?_
      refine round_end (x := (i, v, acc)) ((i + 1), v74, (acc ++ [x22.1])) ?_ ?_
      ·
       refine ⟨(Sl.cons_ ha84 rfl rfl (Sl.cons_ ha84 rfl rfl (Sl.cons_ ha84 rfl rfl (Sl.cons_ ha84 rfl rfl (Sl.cons_ ha84 rfl (int_eq (by omega)) (Sl.nil_ ha84)))))), hx80, (ho76.fin (by omega) (by omega) (by omega)), (by omega), (by omega), (by first | omega | (simp; omega)), (by rw [drop_cons hx22, pfL, if_pos (by simp [pfB, c10, c21, c54, c63] <;> omega)] at hF; rw [← hF]; simp)⟩
      ·show (list.length - ((i + 1)) : Nat) < list.length - i; omega
     ·
      rw [decide_eq_false c63] at ha62
      refine cond_f ha62 rfl ?_
      refine wp_skip ?_
      refine block_n ?_
      refine then_n ?_
      refine wp_region_lit ?_
      refine wl_val ha62 rfl rfl rfl ((op_add ha62 rfl rfl rfl).int (IntWalk.i64_in _ (by omega))) ?_
      intro a85 ha85; clear ha62 a62
      refine wl_val ha85 rfl rfl rfl (op_move ha85 rfl rfl) ?_
      intro a86 ha86; clear ha85 a85
      refine wpList_nil ?_
      refine round_end (x := (i, v, acc)) ((i + 1), v, acc) ?_ ?_
      ·
       refine ⟨(Sl.cons_ ha86 rfl rfl (Sl.cons_ ha86 rfl rfl (Sl.cons_ ha86 rfl rfl (Sl.cons_ ha86 rfl rfl (Sl.cons_ ha86 rfl (int_eq (by omega)) (Sl.nil_ ha86)))))), hx46, (hf17.fin (by omega) (by omega) (by omega)), (by omega), (by omega), (by first | omega | (simp; omega)), (by rw [drop_cons hx22, pfL, if_neg (by simp [pfB, c10, c21, c54, c63] <;> omega)] at hF; exact hF)⟩
      ·show (list.length - ((i + 1)) : Nat) < list.length - i; omega
    ·
     rw [decide_eq_false c54] at ha53
     refine wl_skip ha53 rfl rfl rfl ?_
     intro a87 ha87; clear ha53 a53
     refine wl_skip ha87 rfl rfl rfl ?_
     intro a88 ha88; clear ha87 a87
     refine wl_skip ha88 rfl rfl rfl ?_
     intro a89 ha89; clear ha88 a88
     refine wl_skip ha89 rfl rfl rfl ?_
     intro a90 ha90; clear ha89 a89
     refine wl_skip ha90 rfl rfl rfl ?_
     intro a91 ha91; clear ha90 a90
     refine wl_skip ha91 rfl rfl rfl ?_
     intro a92 ha92; clear ha91 a91
     refine wl_skip ha92 rfl rfl rfl ?_
     intro a93 ha93; clear ha92 a92
     refine wl_val ha93 rfl rfl rfl (op_pick_f ha93 rfl rfl rfl) ?_
     intro a94 ha94; clear ha93 a93
     refine wpList_nil ?_
     refine then_n ?_
     refine cond_f ha94 rfl ?_
     refine wp_skip ?_
     refine block_n ?_
     refine then_n ?_
     refine wp_region_lit ?_
     refine wl_val ha94 rfl rfl rfl ((op_add ha94 rfl rfl rfl).int (IntWalk.i64_in _ (by omega))) ?_
     intro a95 ha95; clear ha94 a94
     refine wl_val ha95 rfl rfl rfl (op_move ha95 rfl rfl) ?_
     intro a96 ha96; clear ha95 a95
     refine wpList_nil ?_
     refine round_end (x := (i, v, acc)) ((i + 1), v, acc) ?_ ?_
     ·
      refine ⟨(Sl.cons_ ha96 rfl rfl (Sl.cons_ ha96 rfl rfl (Sl.cons_ ha96 rfl rfl (Sl.cons_ ha96 rfl rfl (Sl.cons_ ha96 rfl (int_eq (by omega)) (Sl.nil_ ha96)))))), hx46, (hf17.fin (by omega) (by omega) (by omega)), (by omega), (by omega), (by first | omega | (simp; omega)), (by rw [drop_cons hx22, pfL, if_neg (by simp [pfB, c10, c21, c54] <;> omega)] at hF; exact hF)⟩
     ·show (list.length - ((i + 1)) : Nat) < list.length - i; omega
   ·
    rw [decide_eq_false c21] at ha20
    refine cond_f ha20 rfl ?_
    refine wp_exit ?_
    refine then_e ?_
    refine then_e ?_
    refine block_hit ?_
    refine then_n ?_
    refine wp_seq ?_
    refine wp_region_lit ?_
    refine wl_val ha20 rfl rfl rfl (op_move ha20 rfl rfl) ?_
    intro a97 ha97; clear ha20 a20
    refine wl_val ha97 rfl rfl rfl (op_assign ha97 rfl rfl) ?_
    intro a98 ha98; clear ha97 a97
    refine wl_val ha98 rfl rfl rfl (op_assign ha98 rfl rfl) ?_
    intro a99 ha99; clear ha98 a98
    refine wpList_nil ?_
    refine then_n ?_
    refine wp_ret ?_
    refine ret2 ha99 rfl rfl rfl ?_
    clear ha99 a99
    refine ret_mk hx16 ⟨v, (tup2_eq rfl (int_eq (by simp [c10, c21]))), ?_⟩
    ·refine (hf17.fin (by omega) (by omega) (by omega)).cast ?_
     rw [drop_nil (by omega), pfL, List.append_nil] at hF
     rw [hF]; simp [c10, c21]
 ·
  rw [c10] at ha9
  refine cond_t ha9 rfl ?_
  refine wp_seq ?_
  refine wp_region_lit ?_
  refine wl_val ha9 rfl rfl rfl (op_assign ha9 rfl rfl) ?_
  intro a100 ha100; clear ha9 a9
  refine wl_val ha100 rfl rfl rfl (op_assign ha100 rfl rfl) ?_
  intro a101 ha101; clear ha100 a100
  refine wpList_nil ?_
  refine then_n ?_
  refine wp_ret ?_
  refine then_r ?_
  refine ret2 ha101 rfl rfl rfl ?_
  clear ha101 a101
  refine ret_mk hx8 ⟨.slice none 0 0, (tup2_eq rfl (int_eq (by simp [c10]))), ?_⟩
  ·refine Own.nil_ _ _ _ _ _ _ ?_
   simp [c10]

theorem c_spec_WithPrefix (w0 : World) (v_list : Value) (list : List (Str × Int × List Str)) {S_list : Nat → Prop} (prefx : Str) (h_list : Rds shCust S_list w0 v_list list) (g0 : list.length ≤ 1048576) (g1 : prefx.length ≤ 9223372036854775807) :
  Calls Try.prog 23 #[v_list, St prefx] w0 (Ret w0 (fun v w1 => ∃ r0, v = .tuple #[r0, .int .i64 (if cuB list then 0 else 1)] ∧ Own shStr 9 w0.heap.size w0.heap.size w1.heap.size w1 r0 (if cuB list then pfL prefx list else []))) := by
 refine enter (N := 42) Try.func23 rfl rfl rfl ?_
 intro a0 ha0
 have hx0 := Ext.rfl' w0
 have hl_list := h_list.length_le
 refine wp_seq ?_
 refine wp_region_lit ?_
 refine wl_val ha0 rfl rfl rfl (op_assign ha0 rfl rfl) ?_
 intro a1 ha1; clear ha0 a0
 refine wl_val ha1 rfl rfl rfl (op_assign ha1 rfl rfl) ?_
 intro a2 ha2; clear ha1 a1
 refine wpList_nil ?_
 refine then_n ?_
 refine wp_seq ?_
 refine wp_seq ?_
 refine wp_region_lit ?_
 refine wl_val ha2 rfl rfl rfl (op_move ha2 rfl rfl) ?_
 intro a3 ha3; clear ha2 a2
 refine wl_callR ha3 rfl rfl rfl (op_call ha3 rfl cb15 rfl) (c_spec_AreCustomers _ v_list list (h_list.ext pos_shCust hx0) (by first | assumption | omega | (simp; omega))) ?_
 rintro v4 w5 he6 rfl a7 ha7; clear ha3 a3
 have hx8 := hx0.trans' he6
 have hzhx8 := he6.size
 refine wl_val ha7 rfl rfl rfl (op_not ha7 rfl rfl) ?_
 intro a9 ha9; clear ha7 a7
 refine wpList_nil ?_
 refine then_n ?_
 rcases Bool.eq_false_or_eq_true (cuB list) with c10 | c10
 ·
  rw [c10] at ha9
  have hlenc10 := cuB_len c10
  have hcuc10 := cuB_el c10
  refine cond_f ha9 rfl ?_
  refine wp_skip ?_
  refine then_n ?_
  refine wp_seq ?_
  refine wp_region_lit ?_
  refine wl_eff ha9 rfl rfl rfl (op_buildSlice (s := shStr) (xs := ([] : List Str)) (cs := []) (vs := []) (S := fun _ => False) (le := w5.heap.size) ha9 rfl pos_shStr Try.underlying34 ti9 rfl rfl (by decide) (by kernel_rfl) rfl (fun _ h => h.elim)) ?_
  rintro v11 w12 ⟨ho13, he14, hob15⟩ a16 ha16; clear ha9 a9
  have hx17 := hx8.trans' he14
  have hzhx17 := he14.size
  refine wl_val ha16 rfl rfl rfl (op_assign ha16 rfl rfl) ?_
  intro a18 ha18; clear ha16 a16
  refine wpList_nil ?_
  refine then_n ?_
  refine wp_seq ?_
  refine wp_seq ?_
  refine wp_region_lit ?_
  refine wl_val ha18 rfl rfl rfl (op_assign ha18 rfl rfl) ?_
  intro a19 ha19; clear ha18 a18
  refine wpList_nil ?_
  refine then_n ?_
  refine wp_block ?_
  refine loop_inv (X := Nat × Value × (List Str)) (fun (⟨i, v, acc⟩ : Nat × Value × (List Str)) fr wl => Sl 42 fr [(0, v_list), (1, St prefx), (6, v), (7, .int .i64 ((i : Nat) : Int))] ∧ Ext w0 wl ∧ Own shStr 9 w5.heap.size w5.heap.size wl.heap.size wl v acc ∧ w12.heap.size ≤ wl.heap.size ∧ (i ≤ list.length) ∧ (acc.length ≤ i) ∧ (acc ++ pfL prefx (list.drop i) = pfL prefx list)) (fun (⟨i, v, acc⟩ : Nat × Value × (List Str)) => list.length - i) (0, v11, ([] : List Str)) ?_ ?_
  ·
   exact ⟨(Sl.cons_ ha19 rfl rfl (Sl.cons_ ha19 rfl rfl (Sl.cons_ ha19 rfl rfl (Sl.cons_ ha19 rfl (int_eq (by omega)) (Sl.nil_ ha19))))), hx17, (ho13.fin (by omega) (by omega) (by omega)), (by omega), (by omega), (by simp), (by rfl)⟩
  ·
   clear ha19 a19
   rintro ⟨i, v, acc⟩ a23 w20 ⟨ha23, hx21, hf22, hzl24, hi, hl, hF⟩
   have hzhx21 := hx21.size
   refine wp_seq ?_
   refine wp_seq ?_
   refine wp_region_lit ?_
   refine wl_val ha23 rfl rfl rfl (op_move ha23 rfl rfl) ?_
   intro a25 ha25; clear ha23 a23
   refine wl_val ha25 rfl rfl rfl (op_move ha25 rfl rfl) ?_
   intro a26 ha26; clear ha25 a25
   refine wl_val ha26 rfl rfl rfl (op_len_sl ha26 rfl Try.underlying25 rfl h_list) ?_
   intro a27 ha27; clear ha26 a26
   refine wl_val ha27 rfl rfl rfl (op_lss ha27 rfl rfl rfl) ?_
   intro a28 ha28; clear ha27 a27
   refine wpList_nil ?_
   refine then_n ?_
   by_cases c29 : ((i : Nat) : Int) < ((list.length : Nat) : Int)
   ·
    rw [decide_eq_true c29] at ha28
    refine cond_t ha28 rfl ?_
    refine wp_skip ?_
    refine then_n ?_
    refine wp_seq ?_
    refine wp_block ?_
    refine wp_seq ?_
    refine wp_region_lit ?_
    refine wl_val ha28 rfl rfl rfl (op_move ha28 rfl rfl) ?_
    intro a30 ha30; clear ha28 a28
    refine wl_val ha30 rfl rfl rfl (op_move ha30 rfl rfl) ?_
    intro a31 ha31; clear ha30 a30
    obtain ⟨x32, hx32⟩ := get_ex (xs := list) (j := i) (by omega)
    obtain ⟨p33, c34, hi35, hc36, hr37, hs38⟩ := Rds.at_ h_list hx32
    obtain ⟨v39, rfl, b40, b41, b42⟩ := inv_shCust hr37
    have hlb42 := b42.length_le
    have hbx32 := cuOk_bd (hcuc10 _ (List.mem_of_getElem? hx32))
    refine wl_val ha31 rfl rfl rfl (op_indexAddr ha31 rfl Try.underlying25 ti55 rfl rfl (by omega) hi35) ?_
    intro a43 ha43; clear ha31 a31
    refine wl_val ha43 rfl rfl rfl (op_fieldAddr (sz := 0) ha43 rfl Try.underlying55 rfl rfl ti9 rfl) ?_
    intro a44 ha44; clear ha43 a43
    refine wl_val ha44 rfl rfl rfl (op_loadF (off := 0) ha44 rfl Try.underlying9 rfl rfl (hc36.ext hx21) rfl) ?_
    intro a45 ha45; clear ha44 a44
    refine wl_val ha45 rfl rfl rfl (op_assign ha45 rfl rfl) ?_
    intro a46 ha46; clear ha45 a45
    refine wpList_nil ?_
    refine then_n ?_
    refine wp_seq ?_
    refine wp_region_lit ?_
    refine wl_val ha46 rfl rfl rfl (op_move ha46 rfl rfl) ?_
    intro a47 ha47; clear ha46 a46
    refine wl_val ha47 rfl rfl rfl (op_len_str ha47 rfl Try.underlying9 rfl) ?_
    intro a48 ha48; clear ha47 a47
    refine wl_val ha48 rfl rfl rfl (op_move ha48 rfl rfl) ?_
    intro a49 ha49; clear ha48 a48
    refine wl_val ha49 rfl rfl rfl (op_len_str ha49 rfl Try.underlying9 rfl) ?_
    intro a50 ha50; clear ha49 a49
    refine wl_val ha50 rfl rfl rfl (op_geq ha50 rfl rfl rfl) ?_
    intro a51 ha51; clear ha50 a50
    refine wl_val ha51 rfl rfl rfl (op_move ha51 rfl rfl) ?_
    intro a52 ha52; clear ha51 a51
    by_cases c53 : ((prefx.length : Nat) : Int) ≤ ((x32.1.length : Nat) : Int)
    ·
     rw [decide_eq_true c53] at ha52
     refine wl_val ha52 rfl rfl rfl (op_move ha52 rfl rfl) ?_
     intro a54 ha54; clear ha52 a52
     refine wl_val ha54 rfl rfl rfl (op_move ha54 rfl rfl) ?_
     intro a55 ha55; clear ha54 a54
     refine wl_val ha55 rfl rfl rfl (op_len_str ha55 rfl Try.underlying9 rfl) ?_
     intro a56 ha56; clear ha55 a55
     refine wl_val ha56 rfl rfl rfl (op_slice_str_t (j := prefx.length) (by omega) ha56 rfl Try.underlying9 rfl rfl (by omega)) ?_
     intro a57 ha57; clear ha56 a56
     refine wl_val ha57 rfl rfl rfl (op_move ha57 rfl rfl) ?_
     intro a58 ha58; clear ha57 a57
     refine wl_val ha58 rfl rfl rfl (op_seql ha58 rfl rfl rfl) ?_
     intro a59 ha59; clear ha58 a58
     refine wl_val ha59 rfl rfl rfl (op_pick_t ha59 rfl rfl rfl) ?_
     intro a60 ha60; clear ha59 a59
     refine wpList_nil ?_
     refine then_n ?_
     by_cases c61 : x32.1.take prefx.length = prefx
     ·
      rw [decide_eq_true c61] at ha60
      refine cond_t ha60 rfl ?_
      refine wp_region_lit ?_
      refine wl_val ha60 rfl rfl rfl (op_move ha60 rfl rfl) ?_
      intro a62 ha62; clear ha60 a60
      refine wl_val ha62 rfl rfl rfl (op_move ha62 rfl rfl) ?_
      intro a63 ha63; clear ha62 a62
      refine wl_eff ha63 rfl rfl rfl (op_buildSlice (s := shStr) (xs := [x32.1]) (cs := [St x32.1]) (vs := [(0, St x32.1)]) (S := fun _ => False) (le := w20.heap.size) ha63 rfl pos_shStr Try.underlying34 ti9 rfl rfl (by decide) (by kernel_rfl) (Els.single (mk_shStr x32.1 (by first | assumption | omega | (simp; omega)))) (fun _ h => h.elim)) ?_
      rintro v64 w65 ⟨ho66, he67, hob68⟩ a69 ha69; clear ha63 a63
      have hx70 := hx21.trans' he67
      have hzhx70 := he67.size
      replace hf22 := hf22.ext he67
      refine wl_eff ha69 rfl rfl rfl (op_append (ts := #[]) (s := shStr) ha69 rfl Try.underlying34 ti9 rfl pos_shStr rfl rfl hf22 (ho66.rds pos_shStr) (by omega) (by omega) (by first | omega | (simp; omega)) (by first | omega | (simp; omega)) (.inl flat_shStr)) ?_
      rintro v71 w72 ⟨ho73, hst74, hob75⟩ a76 ha76; clear ha69 a69
      have hx77 := hx70.stp hst74 (by intro q hq; have hq0 := hf22.lt q hq; omega)
      have hzhx77 := hst74.size
      replace ho66 := ho66.stp hst74 (by intro q hq; have hq0 := hf22.lt q hq; omega)
      have hsp78 : ∀ q, Value.ownBlock v71 = some q → Value.ownBlock v64 ≠ some q := by intro q hq hb; have hq0 := ho66.lt q hb; rcases hob75 with h | h; (rw [h] at hq; first | (have hq1 := hf22.lt q hq; omega)); (rw [h] at hq; cases hq; omega)
      refine wl_val ha76 rfl rfl rfl (op_assign ha76 rfl rfl) ?_
      intro a79 ha79; clear ha76 a76
      refine wpList_nil ?_
      refine block_n ?_
      refine then_n ?_
      refine wp_region_lit ?_
      refine wl_val ha79 rfl rfl rfl (op_move ha79 rfl rfl) ?_
      intro a80 ha80; clear ha79 a79
      refine wl_val ha80 rfl rfl rfl ((op_add ha80 rfl rfl rfl).int (IntWalk.i64_in _ (by omega))) ?_
      intro a81 ha81; clear ha80 a80
      refine wl_val ha81 rfl rfl rfl (op_assign ha81 rfl rfl) ?_
      intro a82 ha82; clear ha81 a81
      refine wpList_nil ?_
      refine round_end (x := (i, v, acc)) ((i + 1), v71, (acc ++ [x32.1])) ?_ ?_
      ·
       refine ⟨(Sl.cons_ ha82 rfl rfl (Sl.cons_ ha82 rfl rfl (Sl.cons_ ha82 rfl rfl (Sl.cons_ ha82 rfl (int_eq (by omega)) (Sl.nil_ ha82))))), hx77, (ho73.fin (by omega) (by omega) (by omega)), (by omega), (by omega), (by first | omega | (simp; omega)), (by rw [drop_cons hx32, pfL, if_pos (by simp [pfB, c10, c29, c53, c61] <;> omega)] at hF; rw [← hF]; simp)⟩
      ·show (list.length - ((i + 1)) : Nat) < list.length - i; omega
     ·
      rw [decide_eq_false c61] at ha60
      refine cond_f ha60 rfl ?_
      refine wp_skip ?_
      refine block_n ?_
      refine then_n ?_
      refine wp_region_lit ?_
      refine wl_val ha60 rfl rfl rfl (op_move ha60 rfl rfl) ?_
      intro a83 ha83; clear ha60 a60
      refine wl_val ha83 rfl rfl rfl ((op_add ha83 rfl rfl rfl).int (IntWalk.i64_in _ (by omega))) ?_
      intro a84 ha84; clear ha83 a83
      refine wl_val ha84 rfl rfl rfl (op_assign ha84 rfl rfl) ?_
      intro a85 ha85; clear ha84 a84
      refine wpList_nil ?_
      refine round_end (x := (i, v, acc)) ((i + 1), v, acc) ?_ ?_
      ·
       refine ⟨(Sl.cons_ ha85 rfl rfl (Sl.cons_ ha85 rfl rfl (Sl.cons_ ha85 rfl rfl (Sl.cons_ ha85 rfl (int_eq (by omega)) (Sl.nil_ ha85))))), hx21, (hf22.fin (by omega) (by omega) (by omega)), (by omega), (by omega), (by first | omega | (simp; omega)), (by rw [drop_cons hx32, pfL, if_neg (by simp [pfB, c10, c29, c53, c61] <;> omega)] at hF; exact hF)⟩
      ·show (list.length - ((i + 1)) : Nat) < list.length - i; omega
    ·
     rw [decide_eq_false c53] at ha52
     refine wl_skip ha52 rfl rfl rfl ?_
     intro a86 ha86; clear ha52 a52
     refine wl_skip ha86 rfl rfl rfl ?_
     intro a87 ha87; clear ha86 a86
     refine wl_skip ha87 rfl rfl rfl ?_
     intro a88 ha88; clear ha87 a87
     refine wl_skip ha88 rfl rfl rfl ?_
     intro a89 ha89; clear ha88 a88
     refine wl_skip ha89 rfl rfl rfl ?_
     intro a90 ha90; clear ha89 a89
     refine wl_skip ha90 rfl rfl rfl ?_
     intro a91 ha91; clear ha90 a90
     refine wl_val ha91 rfl rfl rfl (op_pick_f ha91 rfl rfl rfl) ?_
     intro a92 ha92; clear ha91 a91
     refine wpList_nil ?_
     refine then_n ?_
     refine cond_f ha92 rfl ?_
     refine wp_skip ?_
     refine block_n ?_
     refine then_n ?_
     refine wp_region_lit ?_
     refine wl_val ha92 rfl rfl rfl (op_move ha92 rfl rfl) ?_
     intro a93 ha93; clear ha92 a92
     refine wl_val ha93 rfl rfl rfl ((op_add ha93 rfl rfl rfl).int (IntWalk.i64_in _ (by omega))) ?_
     intro a94 ha94; clear ha93 a93
     refine wl_val ha94 rfl rfl rfl (op_assign ha94 rfl rfl) ?_
     intro a95 ha95; clear ha94 a94
     refine wpList_nil ?_
     refine round_end (x := (i, v, acc)) ((i + 1), v, acc) ?_ ?_
     ·
      refine ⟨(Sl.cons_ ha95 rfl rfl (Sl.cons_ ha95 rfl rfl (Sl.cons_ ha95 rfl rfl (Sl.cons_ ha95 rfl (int_eq (by omega)) (Sl.nil_ ha95))))), hx21, (hf22.fin (by omega) (by omega) (by omega)), (by omega), (by omega), (by first | omega | (simp; omega)), (by rw [drop_cons hx32, pfL, if_neg (by simp [pfB, c10, c29, c53] <;> omega)] at hF; exact hF)⟩
     ·show (list.length - ((i + 1)) : Nat) < list.length - i; omega
   ·
    rw [decide_eq_false c29] at ha28
    refine cond_f ha28 rfl ?_
    refine wp_exit ?_
    refine then_e ?_
    refine then_e ?_
    refine block_hit ?_
    refine then_n ?_
    refine wp_seq ?_
    refine wp_region_lit ?_
    refine wl_val ha28 rfl rfl rfl (op_move ha28 rfl rfl) ?_
    intro a96 ha96; clear ha28 a28
    refine wl_val ha96 rfl rfl rfl (op_assign ha96 rfl rfl) ?_
    intro a97 ha97; clear ha96 a96
    refine wl_val ha97 rfl rfl rfl (op_assign ha97 rfl rfl) ?_
    intro a98 ha98; clear ha97 a97
    refine wpList_nil ?_
    refine then_n ?_
    refine wp_ret ?_
    refine ret2 ha98 rfl rfl rfl ?_
    clear ha98 a98
    refine ret_mk hx21 ⟨v, (tup2_eq rfl (int_eq (by simp [c10, c29]))), ?_⟩
    ·refine (hf22.fin (by omega) (by omega) (by omega)).cast ?_
     rw [drop_nil (by omega), pfL, List.append_nil] at hF
     rw [hF]; simp [c10, c29]
 ·
  rw [c10] at ha9
  refine cond_t ha9 rfl ?_
  refine wp_seq ?_
  refine wp_region_lit ?_
  refine wl_val ha9 rfl rfl rfl (op_assign ha9 rfl rfl) ?_
  intro a99 ha99; clear ha9 a9
  refine wl_val ha99 rfl rfl rfl (op_assign ha99 rfl rfl) ?_
  intro a100 ha100; clear ha99 a99
  refine wpList_nil ?_
  refine then_n ?_
  refine wp_ret ?_
  refine then_r ?_
  refine ret2 ha100 rfl rfl rfl ?_
  clear ha100 a100
  refine ret_mk hx8 ⟨.slice none 0 0, (tup2_eq rfl (int_eq (by simp [c10]))), ?_⟩
  ·refine Own.nil_ _ _ _ _ _ _ ?_
   simp [c10]


end Go.Proofs.Ythbkedflhmeohaa
