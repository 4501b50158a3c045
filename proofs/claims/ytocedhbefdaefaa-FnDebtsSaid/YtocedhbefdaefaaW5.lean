/- Who owes something. -/
import Derived.Test.YtocedhbefdaefaaW3
namespace Go.Proofs.Ytocedhbefdaefaa
open Go Go.RowKit

/-- Texts that rise strictly. -/
abbrev UpS (xs : List Str) : Prop := xs.Pairwise (fun x y => x < y)
theorem ups_ext : ∀ {a b : List Str}, UpS a → UpS b → (∀ z, z ∈ a ↔ z ∈ b) → a = b
  | [], [], _, _, _ => rfl
  | [], y :: ys, _, _, h => by have := (h y).2 (by simp); simp at this
  | x :: xs, [], _, _, h => by have := (h x).1 (by simp); simp at this
  | x :: xs, y :: ys, ha, hb, h => by
    rw [UpS, List.pairwise_cons] at ha hb
    have e : x = y := by
      rcases List.mem_cons.1 ((h x).1 (by simp)) with e | hx
      · exact e
      · rcases List.mem_cons.1 ((h y).2 (by simp)) with e | hy
        · exact e.symm
        · exact absurd (ha.1 y hy) (str_as (hb.1 x hx))
    subst e
    rw [ups_ext ha.2 hb.2 fun z => ?_]
    constructor
    · intro hz
      rcases List.mem_cons.1 ((h z).1 (by simp [hz])) with e | hz2
      · subst e; exact absurd (ha.1 z hz) (str_irr z)
      · exact hz2
    · intro hz
      rcases List.mem_cons.1 ((h z).2 (by simp [hz])) with e | hz2
      · subst e; exact absurd (hb.1 z hz) (str_irr z)
      · exact hz2
/-- A text at its place, once. -/
def insU (x : Str) : List Str → List Str
  | [] => [x]
  | y :: ys => if y < x then y :: insU x ys else if y = x then y :: ys else x :: y :: ys
theorem insU_mem {x z : Str} : ∀ {xs : List Str}, z ∈ insU x xs ↔ z = x ∨ z ∈ xs
  | [] => by simp [insU]
  | y :: ys => by
    rw [insU]; split
    · rw [List.mem_cons, insU_mem, List.mem_cons]
      constructor
      · rintro (e | e | e) <;> simp [e]
      · rintro (e | e | e) <;> simp [e]
    · split
      · rename_i e; subst e; simp
      · simp
theorem insU_up {x : Str} : ∀ {xs : List Str}, UpS xs → UpS (insU x xs)
  | [], _ => by simp [insU, UpS]
  | y :: ys, h => by
    have h' := List.pairwise_cons.1 h
    rw [insU]; split
    · refine List.Pairwise.cons (fun z hz => ?_) (insU_up h'.2)
      rcases insU_mem.1 hz with e | e
      · subst e; assumption
      · exact h'.1 z e
    · split
      · exact h
      · have hxy := ((str_le ‹¬ y < x›).resolve_right fun e => ‹¬ y = x› e.symm)
        refine List.Pairwise.cons (fun z hz => ?_) h
        rcases List.mem_cons.1 hz with e | e
        · subst e; exact hxy
        · exact str_tr hxy (h'.1 z e)
theorem insU_len (x : Str) : ∀ (xs : List Str), (insU x xs).length ≤ xs.length + 1
  | [] => by simp [insU]
  | y :: ys => by
    have := insU_len x ys
    rw [insU]; split
    · simp only [List.length_cons]; omega
    · split <;> simp
theorem ups_at {xs : List Str} (h : UpS xs) {i j : Nat} {x y : Str} (hij : i < j) (hx : xs[i]? = some x) (hy : xs[j]? = some y) : x < y := by
  obtain ⟨hi, rfl⟩ := List.getElem?_eq_some_iff.1 hx
  obtain ⟨hj, rfl⟩ := List.getElem?_eq_some_iff.1 hy
  exact List.pairwise_iff_getElem.1 h _ _ hi hj hij
theorem insU_has {x : Str} : ∀ {xs : List Str}, UpS xs → x ∈ xs → insU x xs = xs
  | y :: ys, h, hm => by
    have h' := List.pairwise_cons.1 h
    rw [insU]
    rcases List.mem_cons.1 hm with e | e
    · subst e; rw [if_neg (str_irr x), if_pos rfl]
    · rw [if_pos (h'.1 x e), insU_has h'.2 e]
theorem insU_cut {x : Str} : ∀ {xs : List Str} {k : Nat}, (∀ j y, j < k → xs[j]? = some y → y < x) → (∀ j y, k ≤ j → xs[j]? = some y → x < y) → insU x xs = xs.take k ++ x :: xs.drop k
  | [], k, _, _ => by simp [insU]
  | y :: ys, 0, _, h => by
    have := h 0 y (Nat.le_refl _) rfl
    rw [insU, if_neg (str_as this), if_neg (fun e => str_ne this e.symm)]; rfl
  | y :: ys, k + 1, h, h' => by
    rw [insU, if_pos (h 0 y (by omega) rfl), insU_cut (k := k) (fun j z hj hz => h (j + 1) z (by omega) (by simpa using hz)) (fun j z hj hz => h' (j + 1) z (by omega) (by simpa using hz))]
    rfl
/-- Gone through from behind: what stands from k on is greater; what stands in front of it is not. -/
theorem insU_back {x : Str} {xs : List Str} {k : Nat} (h : UpS xs) (hk : ∀ j y, k ≤ j → xs[j]? = some y → x < y) (h0 : k = 0 ∨ ∃ b, xs[k - 1]? = some b ∧ ¬ x < b ∧ ¬ b = x) : insU x xs = xs.take k ++ x :: xs.drop k := by
  refine insU_cut (fun j y hj hy => ?_) hk
  rcases h0 with h0 | ⟨b, hb, h1, h2⟩
  · omega
  · have hbx := (str_le h1).resolve_right h2
    by_cases e : j = k - 1
    · subst e; rw [hb] at hy; cases hy; exact hbx
    · exact str_tr (ups_at h (by omega) hy hb) hbx
theorem insU_front {x : Str} {xs : List Str} {k : Nat} (h : UpS xs) (hk : ∀ j y, j < k → xs[j]? = some y → y < x) (h0 : xs.length ≤ k ∨ ∃ b, xs[k]? = some b ∧ ¬ b < x ∧ ¬ b = x) : insU x xs = xs.take k ++ x :: xs.drop k := by
  refine insU_cut hk (fun j y hj hy => ?_)
  rcases h0 with h0 | ⟨b, hb, h1, h2⟩
  · have := (List.getElem?_eq_some_iff.1 hy).1; omega
  · have hbx := (str_le h1).resolve_right (fun e => h2 e.symm)
    by_cases e : j = k
    · subst e; rw [hb] at hy; cases hy; exact hbx
    · exact str_tr hbx (ups_at h (by omega) hb hy)
/-- What 'append, copy, store' makes of a list. -/
theorem ins_eq {α : Type} {acc : List α} {k : Nat} {x z : α} (hk : k ≤ acc.length) :
    (((acc ++ [z]).take (k + 1) ++ ((acc ++ [z]).drop k).take (min ((acc ++ [z]).length - (k + 1)) ((acc ++ [z]).length - k)) ++ (acc ++ [z]).drop (k + 1 + min ((acc ++ [z]).length - (k + 1)) ((acc ++ [z]).length - k))).set k x) = acc.take k ++ x :: acc.drop k := by
  have hl : (acc ++ [z]).length = acc.length + 1 := by simp
  have e1 : min ((acc ++ [z]).length - (k + 1)) ((acc ++ [z]).length - k) = acc.length - k := by omega
  rw [e1]
  have e2 : (acc ++ [z]).drop (k + 1 + (acc.length - k)) = [] := List.drop_of_length_le (by omega)
  have e3 : ((acc ++ [z]).drop k).take (acc.length - k) = acc.drop k := by
    rw [List.drop_append_of_le_length hk, List.take_append_of_le_length (by rw [List.length_drop]; omega), List.take_of_length_le (by rw [List.length_drop]; omega)]
  rw [e2, e3, List.append_nil]
  have hlt : k < (acc ++ [z]).length := by omega
  obtain ⟨q, hq⟩ := get_ex hlt
  rw [take_snoc hq, List.take_append_of_le_length hk, List.append_assoc, List.set_append_right _ _ (by rw [List.length_take]; omega), List.length_take, Nat.min_eq_left hk, Nat.sub_self]
  rfl

def nmGo (full : List Ent) : List Ent → List Str → List Str
  | [], acc => acc
  | e :: es, acc => if e.2.1 = 0 ∧ ¬ owS e.2.2.1 full = 0 then nmGo full es (insU e.2.2.1 acc) else nmGo full es acc
def dbtN (xs : List Ent) : List Str := nmGo xs xs []
def dbtC (xs : List Ent) : List Int := (dbtN xs).map fun n => owS n xs
def spN (full : List Ent) : List Ent → List Str → List Str
  | [], acc => acc
  | e :: es, acc => if 0 < owS e.2.2.1 full then spN full es (insU e.2.2.1 acc) else spN full es acc
theorem nmGo_len (full : List Ent) : ∀ (es : List Ent) (acc : List Str), (nmGo full es acc).length ≤ acc.length + es.length
  | [], acc => by simp [nmGo]
  | e :: es, acc => by
    have h1 := nmGo_len full es acc
    have h2 := nmGo_len full es (insU e.2.2.1 acc)
    have h3 := insU_len e.2.2.1 acc
    rw [nmGo, List.length_cons]; split <;> omega
theorem dbtN_len (xs : List Ent) : (dbtN xs).length ≤ xs.length := by have := nmGo_len xs xs []; simpa [dbtN] using this
theorem nmGo_up (full : List Ent) : ∀ (es : List Ent) (acc : List Str), UpS acc → UpS (nmGo full es acc)
  | [], _, h => h
  | e :: es, acc, h => by
    rw [nmGo]; split
    · exact nmGo_up full es _ (insU_up h)
    · exact nmGo_up full es _ h
theorem spN_up (full : List Ent) : ∀ (es : List Ent) (acc : List Str), UpS acc → UpS (spN full es acc)
  | [], _, h => h
  | e :: es, acc, h => by
    rw [spN]; split
    · exact spN_up full es _ (insU_up h)
    · exact spN_up full es _ h
theorem nmGo_mem (full : List Ent) (z : Str) : ∀ (es : List Ent) (acc : List Str), z ∈ nmGo full es acc ↔ z ∈ acc ∨ ∃ e ∈ es, e.2.1 = 0 ∧ e.2.2.1 = z ∧ ¬ owS z full = 0
  | [], acc => by simp [nmGo]
  | e :: es, acc => by
    rw [nmGo]; split
    · rename_i h
      rw [nmGo_mem full z es, insU_mem]
      constructor
      · rintro ((e1 | e1) | ⟨y, h1, h2⟩)
        · subst e1; exact .inr ⟨e, by simp, h.1, rfl, h.2⟩
        · exact .inl e1
        · exact .inr ⟨y, by simp [h1], h2⟩
      · rintro (e1 | ⟨y, h1, h2, h3, h4⟩)
        · exact .inl (.inr e1)
        · rcases List.mem_cons.1 h1 with e2 | e2
          · subst e2; exact .inl (.inl h3.symm)
          · exact .inr ⟨y, e2, h2, h3, h4⟩
    · rename_i h
      rw [nmGo_mem full z es]
      constructor
      · rintro (e1 | ⟨y, h1, h2⟩)
        · exact .inl e1
        · exact .inr ⟨y, by simp [h1], h2⟩
      · rintro (e1 | ⟨y, h1, h2, h3, h4⟩)
        · exact .inl e1
        · rcases List.mem_cons.1 h1 with e2 | e2
          · subst e2; subst h3; exact absurd ⟨h2, h4⟩ h
          · exact .inr ⟨y, e2, h2, h3, h4⟩
theorem spN_mem (full : List Ent) (z : Str) : ∀ (es : List Ent) (acc : List Str), z ∈ spN full es acc ↔ z ∈ acc ∨ ∃ e ∈ es, e.2.2.1 = z ∧ 0 < owS z full
  | [], acc => by simp [spN]
  | e :: es, acc => by
    rw [spN]; split
    · rename_i h
      rw [spN_mem full z es, insU_mem]
      constructor
      · rintro ((e1 | e1) | ⟨y, h1, h2⟩)
        · subst e1; exact .inr ⟨e, by simp, rfl, h⟩
        · exact .inl e1
        · exact .inr ⟨y, by simp [h1], h2⟩
      · rintro (e1 | ⟨y, h1, h3, h4⟩)
        · exact .inl (.inr e1)
        · rcases List.mem_cons.1 h1 with e2 | e2
          · subst e2; exact .inl (.inl h3.symm)
          · exact .inr ⟨y, e2, h3, h4⟩
    · rename_i h
      rw [spN_mem full z es]
      constructor
      · rintro (e1 | ⟨y, h1, h2⟩)
        · exact .inl e1
        · exact .inr ⟨y, by simp [h1], h2⟩
      · rintro (e1 | ⟨y, h1, h3, h4⟩)
        · exact .inl e1
        · rcases List.mem_cons.1 h1 with e2 | e2
          · subst e2; subst h3; exact absurd h4 h
          · exact .inr ⟨y, e2, h3, h4⟩
theorem owS_snoc (n : Str) (xs : List Ent) (e : Ent) : owS n (xs ++ [e]) = owS n xs + owE n e := by
  unfold owS; rw [sumI_append]; simp [sumI]
/-- Nobody owes less than nothing. -/
theorem owS_nn {xs : List Ent} (h : dbB xs = true) (n : Str) : ∀ i, i ≤ xs.length → 0 ≤ owS n (xs.take i)
  | 0, _ => by simp [sumI]
  | i + 1, hi => by
    obtain ⟨e, he⟩ := get_ex (xs := xs) (j := i) (by omega)
    have h1 := owS_nn h n i (by omega)
    have h2 := upB_get (dbB_up h) (show i < xs.length by omega)
    have h3 := ent_bd (dbAt_ent h2 he)
    have h4 := take_snoc he
    rw [dbAt_eq he] at h2
    simp only [Bool.and_eq_true, Bool.or_eq_true, Bool.not_eq_true', decide_eq_false_iff_not] at h2
    rw [h4] at h2 ⊢
    have h5 := owS_snoc n (xs.take i) e
    have h6 := owE_def n e
    by_cases c1 : e.2.2.1 = n
    · by_cases c2 : e.2.1 = 1
      · rw [c1] at h2; have := h2.2; omega
      · rw [if_pos c1, if_neg c2] at h6; split at h6 <;> omega
    · rw [if_neg c1] at h6; omega
theorem owS_nonneg {xs : List Ent} (h : dbB xs = true) (n : Str) : 0 ≤ owS n xs := by
  have := owS_nn h n xs.length (Nat.le_refl _); rwa [List.take_length] at this
theorem owS_sale {n : Str} : ∀ {xs : List Ent}, (∀ e ∈ xs, entB e = true) → 0 < owS n xs → ∃ e ∈ xs, e.2.1 = 0 ∧ e.2.2.1 = n
  | [], _, h => by simp [sumI] at h
  | e :: es, he, h => by
    by_cases c : e.2.1 = 0 ∧ e.2.2.1 = n
    · exact ⟨e, by simp, c⟩
    · have h6 := owE_def n e
      have h3 := ent_bd (he e (by simp))
      have h7 : owE n e ≤ 0 := by
        rw [h6]; split
        · rw [if_neg (fun q => c ⟨q, ‹_›⟩)]; split <;> omega
        · omega
      have h8 : owS n (e :: es) = owE n e + owS n es := rfl
      obtain ⟨y, h9, h10⟩ := owS_sale (n := n) (xs := es) (fun y hy => he y (by simp [hy])) (by omega)
      exact ⟨y, by simp [h9], h10⟩
/-- The reference finds the same names. -/
theorem spN_eq {xs : List Ent} (h : dbB xs = true) : spN xs xs [] = dbtN xs := by
  refine ups_ext (spN_up xs xs [] List.Pairwise.nil) (nmGo_up xs xs [] List.Pairwise.nil) fun z => ?_
  unfold dbtN
  rw [spN_mem, nmGo_mem]
  have h0 := owS_nonneg h z
  constructor
  · rintro (e | ⟨e, h1, h2, h3⟩)
    · simp at e
    · obtain ⟨y, h4, h5, h6⟩ := owS_sale (dbB_ent h) h3
      exact .inr ⟨y, h4, h5, h6, by omega⟩
  · rintro (e | ⟨e, h1, h2, h3, h4⟩)
    · simp at e
    · exact .inr ⟨e, h1, h3, by omega⟩
theorem owS_i64 {xs : List Ent} {n : Str} (h : ∀ e ∈ xs, entB e = true) (hl : xs.length ≤ 60) : I64 (owS n xs) := by have := owS_bd (n := n) h; unfold I64; omega
theorem dbtC_get {xs : List Ent} {i : Nat} {x : Str} {y : Int} (hx : (dbtN xs)[i]? = some x) (hy : (dbtC xs)[i]? = some y) : owS x xs = y := by
  unfold dbtC at hy; rw [List.getElem?_map, hx] at hy; simpa using hy
def payE (xs : List Ent) (d : Int) (n : Str) : Ent := (d, 1, n, owS n xs)
def payO (xs : List Ent) (d : Int) : List Ent := xs ++ (dbtN xs).map (payE xs d)
def payL (xs : List Ent) (d : Int) : List Ent := if codeD xs d = 0 then if 60 < (payO xs d).length then [] else if dbB (payO xs d) then payO xs d else [] else []
def payC (xs : List Ent) (d : Int) : Int := if codeD xs d = 0 then if 60 < (payO xs d).length then 3 else if dbB (payO xs d) then 0 else 5 else codeD xs d
theorem payL_len (xs : List Ent) (d : Int) : (payL xs d).length ≤ 60 := by
  unfold payL
  split
  · split
    · simp
    · split
      · exact dbB_len ‹_›
      · simp
  · simp
theorem payO_len (xs : List Ent) (d : Int) : (payO xs d).length = xs.length + (dbtN xs).length := by unfold payO; simp

theorem c_impl_debtors (w0 : World) (v_list : Value) (list : List (Int × Int × Str × Int)) {S_list : Nat → Prop} (h_list : Rds shEnt S_list w0 v_list list) (g0 : dbB list = true) :
  Calls Try.prog 69 #[v_list] w0 (Ret w0 (fun v w1 => ∃ r0 r1, v = .tuple #[r0, r1] ∧ Own shStr 9 w0.heap.size w0.heap.size w1.heap.size w1 r0 (dbtN list) ∧ Own shI64 2 w0.heap.size w0.heap.size w1.heap.size w1 r1 (dbtC list))) := by
 refine enter (N := 87) Try.func69 rfl rfl rfl ?_
 intro a0 ha0
 have hx0 := Ext.rfl' w0
 have hl_list := h_list.length_le
 have hlen := dbB_len g0
 have hent := dbB_ent g0
 have hdl := dbtN_len list
 refine wp_seq ?_
 refine wp_region_lit ?_
 refine wl_val ha0 rfl rfl rfl (op_assign ha0 rfl rfl) ?_
 intro a1 ha1; clear ha0 a0
 refine wl_val ha1 rfl rfl rfl (op_assign ha1 rfl rfl) ?_
 intro a2 ha2; clear ha1 a1
 refine wpList_nil ?_
 refine then_n ?_
 refine wp_seq ?_
 refine wp_region_lit ?_
 refine wl_val ha2 rfl rfl rfl (op_assign ha2 rfl rfl) ?_
 intro a3 ha3; clear ha2 a2
 refine wpList_nil ?_
 refine then_n ?_
 refine wp_seq ?_
 refine wp_seq ?_
 refine wp_region_lit ?_
 refine wl_val ha3 rfl rfl rfl (op_move ha3 rfl rfl) ?_
 intro a4 ha4; clear ha3 a3
 refine wl_val ha4 rfl rfl rfl (op_len_sl ha4 rfl Try.underlying25 rfl h_list) ?_
 intro a5 ha5; clear ha4 a4
 refine wl_val ha5 rfl rfl rfl (op_move ha5 rfl rfl) ?_
 intro a6 ha6; clear ha5 a5
 refine wpList_nil ?_
 refine then_n ?_
 refine wp_block ?_
 refine loop_inv (X := Nat × Value × (List Str)) (fun (⟨i, v, acc⟩ : Nat × Value × (List Str)) fr wl => Sl 87 fr [(0, v_list), (4, v), (11, v_list), (12, .int .i64 ((list.length : Nat) : Int)), (13, .int .i64 ((i : Nat) : Int))] ∧ Ext w0 wl ∧ Own shStr 9 w0.heap.size w0.heap.size wl.heap.size wl v acc ∧ w0.heap.size ≤ wl.heap.size ∧ (i ≤ list.length) ∧ (acc.length ≤ i) ∧ (UpS acc) ∧ (nmGo list (list.drop i) acc = dbtN list)) (fun (⟨i, v, acc⟩ : Nat × Value × (List Str)) => list.length - i) (0, (.slice none 0 0), []) ?_ ?_
 ·
  exact ⟨(Sl.cons_ ha6 rfl rfl (Sl.cons_ ha6 rfl rfl (Sl.cons_ ha6 rfl rfl (Sl.cons_ ha6 rfl rfl (Sl.cons_ ha6 rfl (int_eq (by omega)) (Sl.nil_ ha6)))))), hx0, (Own.nil _ _ _ _ _ _), (by omega), (by omega), (by simp), (by exact List.Pairwise.nil), (by rfl)⟩
 ·
  clear ha6 a6
  rintro ⟨i, v, acc⟩ a10 w7 ⟨ha10, hx8, hf9, hzl11, hi, hl, hU, hF⟩
  have hzhx8 := hx8.size
  refine wp_seq ?_
  refine wp_region_lit ?_
  refine wl_val ha10 rfl rfl rfl (op_lss ha10 rfl rfl rfl) ?_
  intro a12 ha12; clear ha10 a10
  refine wpList_nil ?_
  refine then_n ?_
  refine wp_seq ?_
  by_cases c13 : ((i : Nat) : Int) < ((list.length : Nat) : Int)
  ·
   rw [decide_eq_true c13] at ha12
   refine cond_t ha12 rfl ?_
   refine wp_skip ?_
   refine then_n ?_
   refine wp_seq ?_
   refine wp_block ?_
   refine wp_seq ?_
   refine wp_region_lit ?_
   obtain ⟨x14, hx14⟩ := get_ex (xs := list) (j := i) (by first | omega | (simp only [List.length_set, List.length_append, List.length_take, List.length_drop, List.length_singleton]; omega))
   obtain ⟨p15, c16, hi17, hc18, hr19, hs20⟩ := Rds.at_ h_list hx14
   obtain ⟨rfl, b21, b22, b23, b24⟩ := inv_shEnt hr19
   have hbx14 := ent_bd (hent _ (List.mem_of_getElem? hx14))
   refine wl_val ha12 rfl rfl rfl (op_indexAddr ha12 rfl Try.underlying25 ti41 rfl rfl (by omega) hi17) ?_
   intro a25 ha25; clear ha12 a12
   refine wl_val ha25 rfl rfl rfl (op_loadS ha25 rfl Try.underlying41 ti41 rfl rfl (hc18.ext hx8)) ?_
   intro a26 ha26; clear ha25 a25
   refine wl_eff ha26 rfl rfl rfl (op_alloc' rfl ti41 rfl) ?_
   rintro _ w28 ⟨rfl, he29, hb30, hz31⟩ a32 ha32; clear ha26 a26
   have hx33 := hx8.trans' he29
   have hzhx33 := he29.size
   replace hf9 := hf9.ext he29
   refine wl_effS ha32 rfl rfl (op_storeAll' ha32 rfl ti41 rfl rfl hb30 rfl rfl (by simp [Value.oneCell']) rfl) ?_
   rintro w34 ⟨hb36, hst35, hz37⟩
   have hx38 := hx33.stp hst35 (by intro q hq; cases hq; exact (by omega))
   have hzhx38 := hst35.size
   replace hf9 := hf9.stp hst35 (by intro q hq; cases hq; omega)
   clear hb30
   refine wpList_nil ?_
   refine then_n ?_
   refine wp_seq ?_
   refine wp_seq ?_
   refine wp_region_lit ?_
   refine wl_val ha32 rfl rfl rfl (op_fieldAddr (sz := 0) ha32 rfl Try.underlying41 rfl rfl ti2 rfl) ?_
   intro a39 ha39; clear ha32 a32
   refine wl_val ha39 rfl rfl rfl (op_loadF (off := 1) ha39 rfl Try.underlying2 rfl rfl hb36.cells rfl) ?_
   intro a40 ha40; clear ha39 a39
   refine wl_val ha40 rfl rfl rfl ((op_neq ha40 rfl rfl rfl).to (congrArg Value.bool decide_not)) ?_
   intro a41 ha41; clear ha40 a40
   refine wl_val ha41 rfl rfl rfl (op_move ha41 rfl rfl) ?_
   intro a42 ha42; clear ha41 a41
   by_cases c43 : x14.2.1 = (0 : Int)
   ·
    rw [decide_eq_true c43] at ha42
    refine wl_val ha42 rfl rfl rfl (op_move ha42 rfl rfl) ?_
    intro a44 ha44; clear ha42 a42
    refine wl_val ha44 rfl rfl rfl (op_fieldAddr (sz := 0) ha44 rfl Try.underlying41 rfl rfl ti9 rfl) ?_
    intro a45 ha45; clear ha44 a44
    refine wl_val ha45 rfl rfl rfl (op_loadF (off := 2) ha45 rfl Try.underlying9 rfl rfl hb36.cells rfl) ?_
    intro a46 ha46; clear ha45 a45
    refine wl_callR ha46 rfl rfl rfl (op_call ha46 rfl cb59 rfl) (c_impl_owesOf _ v_list list x14.2.2.1 (h_list.ext pos_shEnt hx38) (by first | assumption | omega | (simp; omega)) (by first | assumption | omega | (simp; omega))) ?_
    rintro v47 w48 he49 rfl a50 ha50; clear ha46 a46
    have hx51 := hx38.trans' he49
    have hzhx51 := he49.size
    replace hf9 := hf9.ext he49
    replace hb36 := hb36.ext he49
    refine wl_val ha50 rfl rfl rfl (op_eql ha50 rfl rfl rfl) ?_
    intro a52 ha52; clear ha50 a50
    refine wl_val ha52 rfl rfl rfl (op_pick_f ha52 rfl rfl rfl) ?_
    intro a53 ha53; clear ha52 a52
    refine wpList_nil ?_
    refine then_n ?_
    by_cases c54 : (owS x14.2.2.1 list : Int) = (0 : Int)
    ·
     rw [decide_eq_true c54] at ha53
     refine cond_t ha53 rfl ?_
     refine wp_exit ?_
     refine then_e ?_
     refine block_hit ?_
     refine then_n ?_
     refine wp_region_lit ?_
     refine wl_val ha53 rfl rfl rfl ((op_add ha53 rfl rfl rfl).int (IntWalk.i64_in _ (by omega))) ?_
     intro a55 ha55; clear ha53 a53
     refine wl_val ha55 rfl rfl rfl (op_move ha55 rfl rfl) ?_
     intro a56 ha56; clear ha55 a55
     refine wpList_nil ?_
     
     refine round_end (x := (i, v, acc)) ((i + 1), v, acc) ?_ ?_
     ·
      refine ⟨(Sl.cons_ ha56 rfl rfl (Sl.cons_ ha56 rfl rfl (Sl.cons_ ha56 rfl rfl (Sl.cons_ ha56 rfl rfl (Sl.cons_ ha56 rfl (int_eq (by omega)) (Sl.nil_ ha56)))))), hx51, (hf9.fin (by omega) (by omega) (by omega)), (by omega), (by omega), (by omega), (by exact hU), (by rw [drop_cons hx14, nmGo, if_neg (by rintro ⟨h1, h2⟩; first | (exact absurd h1 (by assumption)) | (exact h2 (by assumption)))] at hF; exact hF)⟩
     ·show (list.length - ((i + 1)) : Nat) < list.length - i; omega
    ·
     rw [decide_eq_false c54] at ha53
     refine cond_f ha53 rfl ?_
     refine wp_skip ?_
     refine then_n ?_
     refine wp_seq ?_
     refine wp_region_lit ?_
     refine wl_val ha53 rfl rfl rfl (op_move ha53 rfl rfl) ?_
     intro a57 ha57; clear ha53 a53
     refine wl_val ha57 rfl rfl rfl (op_len_sl ha57 rfl Try.underlying52 rfl (hf9.rds pos_shStr)) ?_
     intro a58 ha58; clear ha57 a57
     refine wl_val ha58 rfl rfl rfl (op_assign ha58 rfl rfl) ?_
     intro a59 ha59; clear ha58 a58
     refine wpList_nil ?_
     refine then_n ?_
     refine wp_seq ?_
     refine wp_block ?_
     refine loop_inv (X := Nat) (fun (k : Nat) fr wl => Sl 87 fr [(0, v_list), (4, v), (6, .pointer (some (⟨w7.heap.size, 0, none⟩ : Addr))), (7, .int .i64 ((k : Nat) : Int)), (11, v_list), (12, .int .i64 ((list.length : Nat) : Int)), (13, .int .i64 ((i : Nat) : Int))] ∧ Ext w0 wl ∧ Own shStr 9 w0.heap.size w0.heap.size w7.heap.size wl v acc ∧ Box wl w7.heap.size 41 [.int .i64 x14.1, .int .i64 x14.2.1, St x14.2.2.1, .int .i64 x14.2.2.2] ∧ w48.heap.size ≤ wl.heap.size ∧ (k ≤ acc.length) ∧ (∀ (j : Nat) (y : Str), k ≤ j → acc[j]? = some y → x14.2.2.1 < y)) (fun (k : Nat) => k) (acc.length) ?_ ?_
     ·
      exact ⟨(Sl.cons_ ha59 rfl rfl (Sl.cons_ ha59 rfl rfl (Sl.cons_ ha59 rfl rfl (Sl.cons_ ha59 rfl (int_eq (by omega)) (Sl.cons_ ha59 rfl rfl (Sl.cons_ ha59 rfl rfl (Sl.cons_ ha59 rfl rfl (Sl.nil_ ha59)))))))), hx51, hf9, hb36, (by omega), (by omega), (by intro j y hj hy; have := (List.getElem?_eq_some_iff.1 hy).1; omega)⟩
     ·
      clear ha59 a59
      rintro k a64 w60 ⟨ha64, hx61, hf62, hf63, hzl65, hk, hk2⟩
      have hzhx61 := hx61.size
      refine wp_seq ?_
      refine wp_seq ?_
      refine dr_enter Ext follows_mixed ?_
      intro w66 he67
      have hx68 := hx61.trans' he67
      have hzhx68 := he67.size
      replace hf62 := hf62.ext he67
      replace hf63 := hf63.ext he67
      have hs69 : Ext w66 w66 := Ext.rfl' _
      refine dr_val (i := 0) ha64 rfl (by kernel_rfl) (by kernel_rfl) (by kernel_rfl) rfl rfl rfl hs69 (fun w' hw' => op_move ha64 rfl rfl) ?_
      intro a70 ha70; clear ha64 a64
      refine dr_val (i := 1) ha70 rfl (by kernel_rfl) (by kernel_rfl) (by kernel_rfl) rfl rfl rfl hs69 (fun w' hw' => op_gtr ha70 rfl rfl rfl) ?_
      intro a71 ha71; clear ha70 a70
      refine dr_val (i := 2) ha71 rfl (by kernel_rfl) (by kernel_rfl) (by kernel_rfl) rfl rfl rfl hs69 (fun w' hw' => op_move ha71 rfl rfl) ?_
      intro a72 ha72; clear ha71 a71
      by_cases c73 : (0 : Int) < ((k : Nat) : Int)
      ·
       rw [decide_eq_true c73] at ha72
       refine dr_val (i := 3) ha72 rfl (by kernel_rfl) (by kernel_rfl) (by kernel_rfl) rfl rfl rfl hs69 (fun w' hw' => op_move ha72 rfl rfl) ?_
       intro a74 ha74; clear ha72 a72
       refine dr_val (i := 4) ha74 rfl (by kernel_rfl) (by kernel_rfl) (by kernel_rfl) rfl rfl rfl hs69 (fun w' hw' => op_move ha74 rfl rfl) ?_
       intro a75 ha75; clear ha74 a74
       refine dr_val (i := 5) ha75 rfl (by kernel_rfl) (by kernel_rfl) (by kernel_rfl) rfl rfl rfl hs69 (fun w' hw' => (op_sub ha75 rfl rfl rfl).int (IntWalk.i64_in _ (by omega))) ?_
       intro a76 ha76; clear ha75 a75
       obtain ⟨x77, hx77⟩ := get_ex (xs := acc) (j := (k - 1)) (by first | omega | (simp only [List.length_set, List.length_append, List.length_take, List.length_drop, List.length_singleton]; omega))
       obtain ⟨p78, c79, hi80, hc81, hr82, hs83⟩ := Rds.at_ (hf62.rds pos_shStr) hx77
       obtain ⟨rfl, b84⟩ := inv_shStr hr82
       obtain ⟨_, _⟩ : _ ∧ _ := hs83
       refine dr_val (i := 6) ha76 rfl (by kernel_rfl) (by kernel_rfl) (by kernel_rfl) rfl rfl rfl hs69 (fun w' hw' => op_indexAddr ha76 rfl Try.underlying52 ti9 rfl rfl (by omega) hi80) ?_
       intro a85 ha85; clear ha76 a76
       refine dr_val (i := 7) ha85 rfl (by kernel_rfl) (by kernel_rfl) (by kernel_rfl) rfl rfl rfl hs69 (fun w' hw' => op_loadH ha85 rfl Try.underlying9 rfl rfl (hc81.ext hw') rfl) ?_
       intro a86 ha86; clear ha85 a85
       refine dr_val (i := 8) ha86 rfl (by kernel_rfl) (by kernel_rfl) (by kernel_rfl) rfl rfl rfl hs69 (fun w' hw' => op_fieldAddr (sz := 0) ha86 rfl Try.underlying41 rfl rfl ti9 rfl) ?_
       intro a87 ha87; clear ha86 a86
       refine dr_val (i := 9) ha87 rfl (by kernel_rfl) (by kernel_rfl) (by kernel_rfl) rfl rfl rfl hs69 (fun w' hw' => op_loadF (off := 2) ha87 rfl Try.underlying9 rfl rfl (hf63.ext hw').cells rfl) ?_
       intro a88 ha88; clear ha87 a87
       refine dr_val (i := 10) ha88 rfl (by kernel_rfl) (by kernel_rfl) (by kernel_rfl) rfl rfl rfl hs69 (fun w' hw' => (op_sgtr ha88 rfl rfl rfl).to (congrArg Value.bool (str_gtr _ _))) ?_
       intro a89 ha89; clear ha88 a88
       refine dr_val (i := 11) ha89 rfl (by kernel_rfl) (by kernel_rfl) (by kernel_rfl) rfl rfl rfl hs69 (fun w' hw' => op_pick_t ha89 rfl rfl rfl) ?_
       intro a90 ha90; clear ha89 a89
       refine dr_end (by kernel_rfl) ?_
       replace hf62 := hf62.ext hs69
       replace hf63 := hf63.ext hs69
       replace hc81 := hc81.ext hs69
       refine then_n ?_
       by_cases c91 : x14.2.2.1 < x77
       ·
        rw [decide_eq_true c91] at ha90
        refine cond_t ha90 rfl ?_
        refine wp_skip ?_
        refine then_n ?_
        refine wp_block ?_
        refine wp_region_lit ?_
        refine wl_val ha90 rfl rfl rfl (op_move ha90 rfl rfl) ?_
        intro a92 ha92; clear ha90 a90
        refine wl_val ha92 rfl rfl rfl ((op_sub ha92 rfl rfl rfl).int (IntWalk.i64_in _ (by omega))) ?_
        intro a93 ha93; clear ha92 a92
        refine wl_val ha93 rfl rfl rfl (op_assign ha93 rfl rfl) ?_
        intro a94 ha94; clear ha93 a93
        refine wpList_nil ?_
        refine block_n ?_
        refine round_end (x := k) ((k - 1)) ?_ ?_
        ·
         refine ⟨(Sl.cons_ ha94 rfl rfl (Sl.cons_ ha94 rfl rfl (Sl.cons_ ha94 rfl rfl (Sl.cons_ ha94 rfl (int_eq (by omega)) (Sl.cons_ ha94 rfl rfl (Sl.cons_ ha94 rfl rfl (Sl.cons_ ha94 rfl rfl (Sl.nil_ ha94)))))))), hx68, hf62, hf63, (by omega), (by omega), (by intro j y hj hy; by_cases e : j = k - 1; (subst e; rw [hx77] at hy; cases hy; exact c91); exact hk2 j y (by omega) hy)⟩
        ·show (((k - 1)) : Nat) < k; omega
       ·
        rw [decide_eq_false c91] at ha90
        refine cond_f ha90 rfl ?_
        refine wp_exit ?_
        refine then_e ?_
        refine then_e ?_
        refine block_hit ?_
        refine then_n ?_
        refine wp_seq ?_
        refine wp_seq ?_
        refine dr_enter Ext follows_mixed ?_
        intro w95 he96
        have hx97 := hx68.trans' he96
        have hzhx97 := he96.size
        replace hf62 := hf62.ext he96
        replace hf63 := hf63.ext he96
        replace hc81 := hc81.ext he96
        have hs98 : Ext w95 w95 := Ext.rfl' _
        refine dr_val (i := 0) ha90 rfl (by kernel_rfl) (by kernel_rfl) (by kernel_rfl) rfl rfl rfl hs98 (fun w' hw' => op_move ha90 rfl rfl) ?_
        intro a99 ha99; clear ha90 a90
        refine dr_val (i := 1) ha99 rfl (by kernel_rfl) (by kernel_rfl) (by kernel_rfl) rfl rfl rfl hs98 (fun w' hw' => op_gtr ha99 rfl rfl rfl) ?_
        intro a100 ha100; clear ha99 a99
        refine dr_val (i := 2) ha100 rfl (by kernel_rfl) (by kernel_rfl) (by kernel_rfl) rfl rfl rfl hs98 (fun w' hw' => op_move ha100 rfl rfl) ?_
        intro a101 ha101; clear ha100 a100
        rw [decide_eq_true c73] at ha101
        refine dr_val (i := 3) ha101 rfl (by kernel_rfl) (by kernel_rfl) (by kernel_rfl) rfl rfl rfl hs98 (fun w' hw' => op_move ha101 rfl rfl) ?_
        intro a102 ha102; clear ha101 a101
        refine dr_val (i := 4) ha102 rfl (by kernel_rfl) (by kernel_rfl) (by kernel_rfl) rfl rfl rfl hs98 (fun w' hw' => op_move ha102 rfl rfl) ?_
        intro a103 ha103; clear ha102 a102
        refine dr_val (i := 5) ha103 rfl (by kernel_rfl) (by kernel_rfl) (by kernel_rfl) rfl rfl rfl hs98 (fun w' hw' => (op_sub ha103 rfl rfl rfl).int (IntWalk.i64_in _ (by omega))) ?_
        intro a104 ha104; clear ha103 a103
        refine dr_val (i := 6) ha104 rfl (by kernel_rfl) (by kernel_rfl) (by kernel_rfl) rfl rfl rfl hs98 (fun w' hw' => op_indexAddr ha104 rfl Try.underlying52 ti9 rfl rfl (by omega) hi80) ?_
        intro a105 ha105; clear ha104 a104
        refine dr_val (i := 7) ha105 rfl (by kernel_rfl) (by kernel_rfl) (by kernel_rfl) rfl rfl rfl hs98 (fun w' hw' => op_loadH ha105 rfl Try.underlying9 rfl rfl (hc81.ext hw') rfl) ?_
        intro a106 ha106; clear ha105 a105
        refine dr_val (i := 8) ha106 rfl (by kernel_rfl) (by kernel_rfl) (by kernel_rfl) rfl rfl rfl hs98 (fun w' hw' => op_fieldAddr (sz := 0) ha106 rfl Try.underlying41 rfl rfl ti9 rfl) ?_
        intro a107 ha107; clear ha106 a106
        refine dr_val (i := 9) ha107 rfl (by kernel_rfl) (by kernel_rfl) (by kernel_rfl) rfl rfl rfl hs98 (fun w' hw' => op_loadF (off := 2) ha107 rfl Try.underlying9 rfl rfl (hf63.ext hw').cells rfl) ?_
        intro a108 ha108; clear ha107 a107
        refine dr_val (i := 10) ha108 rfl (by kernel_rfl) (by kernel_rfl) (by kernel_rfl) rfl rfl rfl hs98 (fun w' hw' => op_seql ha108 rfl rfl rfl) ?_
        intro a109 ha109; clear ha108 a108
        refine dr_val (i := 11) ha109 rfl (by kernel_rfl) (by kernel_rfl) (by kernel_rfl) rfl rfl rfl hs98 (fun w' hw' => op_pick_t ha109 rfl rfl rfl) ?_
        intro a110 ha110; clear ha109 a109
        refine dr_end (by kernel_rfl) ?_
        replace hf62 := hf62.ext hs98
        replace hf63 := hf63.ext hs98
        replace hc81 := hc81.ext hs98
        refine then_n ?_
        by_cases c111 : x77 = x14.2.2.1
        ·
         rw [decide_eq_true c111] at ha110
         refine cond_t ha110 rfl ?_
         refine wp_exit ?_
         refine then_e ?_
         refine block_hit ?_
         refine then_n ?_
         refine wp_region_lit ?_
         refine wl_val ha110 rfl rfl rfl ((op_add ha110 rfl rfl rfl).int (IntWalk.i64_in _ (by omega))) ?_
         intro a112 ha112; clear ha110 a110
         refine wl_val ha112 rfl rfl rfl (op_move ha112 rfl rfl) ?_
         intro a113 ha113; clear ha112 a112
         refine wpList_nil ?_
         
         refine round_end (x := (i, v, acc)) ((i + 1), v, acc) ?_ ?_
         ·
          refine ⟨(Sl.cons_ ha113 rfl rfl (Sl.cons_ ha113 rfl rfl (Sl.cons_ ha113 rfl rfl (Sl.cons_ ha113 rfl rfl (Sl.cons_ ha113 rfl (int_eq (by omega)) (Sl.nil_ ha113)))))), hx97, (hf62.fin (by omega) (by omega) (by omega)), (by omega), (by omega), (by omega), (by exact hU), (by rw [drop_cons hx14, nmGo, if_pos ⟨by assumption, by assumption⟩, insU_has hU (by have h5 := List.mem_of_getElem? hx77; rwa [c111] at h5)] at hF; exact hF)⟩
         ·show (list.length - ((i + 1)) : Nat) < list.length - i; omega
        ·
         rw [decide_eq_false c111] at ha110
         refine cond_f ha110 rfl ?_
         refine wp_skip ?_
         refine then_n ?_
         refine wp_seq ?_
         refine wp_region_lit ?_
         refine wl_val ha110 rfl rfl rfl (op_move ha110 rfl rfl) ?_
         intro a114 ha114; clear ha110 a110
         refine wl_eff ha114 rfl rfl rfl (op_buildSlice (s := shStr) (xs := [([] : Str)]) (cs := [St (([] : Str))]) (vs := [(0, St (([] : Str)))]) (S := fun _ => False) (le := w95.heap.size) ha114 rfl pos_shStr Try.underlying52 ti9 rfl rfl (by decide) (by kernel_rfl) (Els.single (mk_shStr (([] : Str)) (by first | assumption | omega | exact owS_i64 hent hlen | (simp; done)))) (fun _ h => h.elim)) ?_
         rintro v115 w116 ⟨ho117, he118, hob119⟩ a120 ha120; clear ha114 a114
         have hx121 := hx97.trans' he118
         have hzhx121 := he118.size
         replace hf62 := hf62.ext he118
         replace hf63 := hf63.ext he118
         replace hc81 := hc81.ext he118
         refine wl_eff ha120 rfl rfl rfl (op_append (ts := #[]) (s := shStr) ha120 rfl Try.underlying52 ti9 rfl pos_shStr rfl rfl hf62 (ho117.rds pos_shStr) (by omega) (by omega) (by first | omega | (simp; omega)) (by first | omega | (simp; omega)) (.inl flat_shStr)) ?_
         rintro v122 w123 ⟨ho124, hst125, hob126⟩ a127 ha127; clear ha120 a120
         have hx128 := hx121.stp hst125 (by intro q hq; have hq0 := hf62.lt q hq; omega)
         have hzhx128 := hst125.size
         replace hf63 := hf63.stp hst125 (by intro q hq; have hq0 := hf62.lt q hq; omega)
         replace ho117 := ho117.stp hst125 (by intro q hq; have hq0 := hf62.lt q hq; omega)
         have hsp129 : ∀ q, Value.ownBlock v122 = some q → Value.ownBlock v115 ≠ some q := by intro q hq hb; have hq0 := ho117.lt q hb; rcases hob126 with h | h; (rw [h] at hq; first | (have hq1 := hf62.lt q hq; omega)); (rw [h] at hq; cases hq; omega)
         refine wl_val ha127 rfl rfl rfl (op_assign ha127 rfl rfl) ?_
         intro a130 ha130; clear ha127 a127
         refine wpList_nil ?_
         refine then_n ?_
         refine wp_seq ?_
         refine dr_enter (fun wa_ wb_ => Stp wa_ wb_ (Value.ownBlock v122)) follows_mixed ?_
         intro w131 he132
         have hx133 := hx128.trans' he132
         have hzhx133 := he132.size
         replace hf63 := hf63.ext he132
         replace ho117 := ho117.ext he132
         replace ho124 := ho124.ext he132
         have hs134 : Ext w131 w131 := Ext.rfl' _
         refine dr_val (i := 0) ha130 rfl (by kernel_rfl) (by kernel_rfl) (by kernel_rfl) rfl rfl rfl (Stp.of_ext hs134 _) (fun w' hw' => op_move ha130 rfl rfl) ?_
         intro a135 ha135; clear ha130 a130
         refine dr_val (i := 1) ha135 rfl (by kernel_rfl) (by kernel_rfl) (by kernel_rfl) rfl rfl rfl (Stp.of_ext hs134 _) (fun w' hw' => op_move ha135 rfl rfl) ?_
         intro a136 ha136; clear ha135 a135
         refine dr_val (i := 2) ha136 rfl (by kernel_rfl) (by kernel_rfl) (by kernel_rfl) rfl rfl rfl (Stp.of_ext hs134 _) (fun w' hw' => (op_add ha136 rfl rfl rfl).int (IntWalk.i64_in _ (by omega))) ?_
         intro a137 ha137; clear ha136 a136
         obtain ⟨u138, hu139, hpp141, hr140⟩ := Own.partw ho124 pos_shStr (by simp; try omega) Try.underlying52 ti9 (some (.int .i64 ((k + 1) : Nat))) none ((k + 1)) (((acc ++ [([] : Str)])).length) (.inr ⟨.i64, rfl⟩) (.inl ⟨rfl, rfl⟩) (by first | omega | (simp; omega)) (by first | omega | (simp; omega))
         replace hr140 := hr140.cast (ys := ((acc ++ [([] : Str)])).drop ((k + 1))) (by first | rw [List.take_length] | simp)
         refine dr_val (i := 3) ha137 rfl (by kernel_rfl) (by kernel_rfl) (by kernel_rfl) rfl rfl rfl (Stp.of_ext hs134 _) (fun w' hw' => op_slice_f (by omega) ha137 rfl rfl rfl hu139) ?_
         intro a142 ha142; clear ha137 a137
         refine dr_val (i := 4) ha142 rfl (by kernel_rfl) (by kernel_rfl) (by kernel_rfl) rfl rfl rfl (Stp.of_ext hs134 _) (fun w' hw' => op_move ha142 rfl rfl) ?_
         intro a143 ha143; clear ha142 a142
         refine dr_val (i := 5) ha143 rfl (by kernel_rfl) (by kernel_rfl) (by kernel_rfl) rfl rfl rfl (Stp.of_ext hs134 _) (fun w' hw' => op_move ha143 rfl rfl) ?_
         intro a144 ha144; clear ha143 a143
         obtain ⟨u145, hu146, hpp148, hr147⟩ := Own.partw ho124 pos_shStr (by simp; try omega) Try.underlying52 ti9 (some (.int .i64 (k : Nat))) none k (((acc ++ [([] : Str)])).length) (.inr ⟨.i64, rfl⟩) (.inl ⟨rfl, rfl⟩) (by first | omega | (simp; omega)) (by first | omega | (simp; omega))
         replace hr147 := hr147.cast (ys := ((acc ++ [([] : Str)])).drop k) (by first | rw [List.take_length] | simp)
         refine dr_val (i := 6) ha144 rfl (by kernel_rfl) (by kernel_rfl) (by kernel_rfl) rfl rfl rfl (Stp.of_ext hs134 _) (fun w' hw' => op_slice_f (by omega) ha144 rfl rfl rfl hu146) ?_
         intro a149 ha149; clear ha144 a144
         refine dr_one (i := 7) (by kernel_rfl) ?_
         replace hf63 := hf63.ext hs134
         replace ho117 := ho117.ext hs134
         replace ho124 := ho124.ext hs134
         replace hr140 := hr140.ext pos_shStr hs134
         replace hr147 := hr147.ext pos_shStr hs134
         refine po_eff ha149 rfl rfl rfl rfl (op_copyIn (s := shStr) ha149 rfl Try.underlying52 ti9 rfl rfl ho124 (by simp; try omega) hpp141 hpp148) ?_
         rintro _ w150 ⟨rfl, ho152, hst151, hz153⟩ a154 ha154; clear ha149 a149
         have hx155 := hx133.stp hst151 (by intro q hq; have hq0 := ho124.lt q hq; omega)
         have hzhx155 := hst151.size
         first | replace hf63 := hf63.stp hst151 (by intro q hq; have hq0 := ho124.lt q hq; omega) | replace hf63 := hf63.stp hst151 (by intro q hq e; subst e; exact ho124.ne_box hf63 rfl hq)
         first | replace ho117 := ho117.stp hst151 (by intro q hq; have hq0 := ho124.lt q hq; omega) | replace ho117 := ho117.stpF flat_shStr hst151 (fun q hq => hsp129 q hq)
         clear ho124
         have hs156 := (Stp.of_ext hs134 (Value.ownBlock v122)).trans' hst151
         refine ⟨hs156, ?_⟩
         refine dr_end (by kernel_rfl) ?_
         refine then_n ?_
         refine wp_region_lit ?_
         refine wl_val ha154 rfl rfl rfl (op_move ha154 rfl rfl) ?_
         intro a157 ha157; clear ha154 a154
         refine wl_val ha157 rfl rfl rfl (op_move ha157 rfl rfl) ?_
         intro a158 ha158; clear ha157 a157
         refine wl_val ha158 rfl rfl rfl (op_fieldAddr (sz := 0) ha158 rfl Try.underlying41 rfl rfl ti9 rfl) ?_
         intro a159 ha159; clear ha158 a158
         refine wl_val ha159 rfl rfl rfl (op_loadF (off := 2) ha159 rfl Try.underlying9 rfl rfl hf63.cells rfl) ?_
         intro a160 ha160; clear ha159 a159
         obtain ⟨x161, hx161⟩ := get_ex (xs := (((acc ++ [([] : Str)])).take ((k + 1)) ++ (((acc ++ [([] : Str)])).drop k).take (min (((acc ++ [([] : Str)])).length - (k + 1)) (((acc ++ [([] : Str)])).length - k)) ++ ((acc ++ [([] : Str)])).drop ((k + 1) + (min (((acc ++ [([] : Str)])).length - (k + 1)) (((acc ++ [([] : Str)])).length - k))))) (j := k) (by first | omega | (simp only [List.length_set, List.length_append, List.length_take, List.length_drop, List.length_singleton]; omega))
         obtain ⟨p162, c163, hi164, hc165, hr166, hs167⟩ := Rds.at_ (ho152.rds pos_shStr) hx161
         obtain ⟨rfl, b168⟩ := inv_shStr hr166
         obtain ⟨_, _⟩ : _ ∧ _ := hs167
         refine wl_val ha160 rfl rfl rfl (op_indexAddr ha160 rfl Try.underlying52 ti9 rfl rfl (by omega) hi164) ?_
         intro a169 ha169; clear ha160 a160
         refine wl_effS ha169 rfl rfl (op_setElem (s := shStr) (ds := [St x14.2.2.1]) (S' := fun _ => False) ha169 rfl ti9 rfl rfl rfl ho152 pos_shStr hi164 (by first | omega | (simp only [List.length_set, List.length_append, List.length_take, List.length_drop, List.length_singleton]; omega)) (mk_shStr x14.2.2.1 (by first | assumption | omega | exact owS_i64 hent hlen | (simp; done))) (fun _ h => h.elim)) ?_
         rintro w170 ⟨ho172, hst171, hz173⟩
         have hx174 := hx155.stp hst171 (by intro q hq; have hq0 := ho152.lt q hq; omega)
         have hzhx174 := hst171.size
         first | replace hf63 := hf63.stp hst171 (by intro q hq; have hq0 := ho152.lt q hq; omega) | replace hf63 := hf63.stp hst171 (by intro q hq e; subst e; exact ho152.ne_box hf63 rfl hq)
         first | replace ho117 := ho117.stp hst171 (by intro q hq; have hq0 := ho152.lt q hq; omega) | replace ho117 := ho117.stpF flat_shStr hst171 (fun q hq => hsp129 q hq)
         clear ho152
         have hlsho172 : ((((((acc ++ [([] : Str)])).take ((k + 1)) ++ (((acc ++ [([] : Str)])).drop k).take (min (((acc ++ [([] : Str)])).length - (k + 1)) (((acc ++ [([] : Str)])).length - k)) ++ ((acc ++ [([] : Str)])).drop ((k + 1) + (min (((acc ++ [([] : Str)])).length - (k + 1)) (((acc ++ [([] : Str)])).length - k))))).set k x14.2.2.1)).length = ((((acc ++ [([] : Str)])).take ((k + 1)) ++ (((acc ++ [([] : Str)])).drop k).take (min (((acc ++ [([] : Str)])).length - (k + 1)) (((acc ++ [([] : Str)])).length - k)) ++ ((acc ++ [([] : Str)])).drop ((k + 1) + (min (((acc ++ [([] : Str)])).length - (k + 1)) (((acc ++ [([] : Str)])).length - k))))).length := List.length_set
         refine wpList_nil ?_
         refine block_n ?_
         refine then_n ?_
         refine wp_region_lit ?_
         refine wl_val ha169 rfl rfl rfl ((op_add ha169 rfl rfl rfl).int (IntWalk.i64_in _ (by omega))) ?_
         intro a175 ha175; clear ha169 a169
         refine wl_val ha175 rfl rfl rfl (op_move ha175 rfl rfl) ?_
         intro a176 ha176; clear ha175 a175
         refine wpList_nil ?_
         have hins := insU_back (x := x14.2.2.1) hU hk2 (.inr ⟨_, hx77, c91, c111⟩)
         have hieq := ins_eq (acc := acc) (k := k) (x := x14.2.2.1) (z := ([] : Str)) (by omega)
         have hils := insU_len x14.2.2.1 acc
         rw [← hins] at hieq
         refine round_end (x := (i, v, acc)) ((i + 1), v122, (((((acc ++ [([] : Str)])).take ((k + 1)) ++ (((acc ++ [([] : Str)])).drop k).take (min (((acc ++ [([] : Str)])).length - (k + 1)) (((acc ++ [([] : Str)])).length - k)) ++ ((acc ++ [([] : Str)])).drop ((k + 1) + (min (((acc ++ [([] : Str)])).length - (k + 1)) (((acc ++ [([] : Str)])).length - k))))).set k x14.2.2.1)) ?_ ?_
         ·
          refine ⟨(Sl.cons_ ha176 rfl rfl (Sl.cons_ ha176 rfl rfl (Sl.cons_ ha176 rfl rfl (Sl.cons_ ha176 rfl rfl (Sl.cons_ ha176 rfl (int_eq (by omega)) (Sl.nil_ ha176)))))), hx174, (ho172.fin (by omega) (by omega) (by omega)), (by omega), (by omega), (by rw [hieq]; omega), (by rw [hieq]; exact insU_up hU), (by rw [drop_cons hx14, nmGo, if_pos ⟨by assumption, by assumption⟩] at hF; rw [hieq]; exact hF)⟩
         ·show (list.length - ((i + 1)) : Nat) < list.length - i; omega
      ·
       rw [decide_eq_false c73] at ha72
       refine dr_skip (i := 3) ha72 rfl (by kernel_rfl) (by kernel_rfl) (by kernel_rfl) rfl rfl rfl hs69 ?_
       intro a177 ha177; clear ha72 a72
       refine dr_skip (i := 4) ha177 rfl (by kernel_rfl) (by kernel_rfl) (by kernel_rfl) rfl rfl rfl hs69 ?_
       intro a178 ha178; clear ha177 a177
       refine dr_skip (i := 5) ha178 rfl (by kernel_rfl) (by kernel_rfl) (by kernel_rfl) rfl rfl rfl hs69 ?_
       intro a179 ha179; clear ha178 a178
       refine dr_skip (i := 6) ha179 rfl (by kernel_rfl) (by kernel_rfl) (by kernel_rfl) rfl rfl rfl hs69 ?_
       intro a180 ha180; clear ha179 a179
       refine dr_skip (i := 7) ha180 rfl (by kernel_rfl) (by kernel_rfl) (by kernel_rfl) rfl rfl rfl hs69 ?_
       intro a181 ha181; clear ha180 a180
       refine dr_skip (i := 8) ha181 rfl (by kernel_rfl) (by kernel_rfl) (by kernel_rfl) rfl rfl rfl hs69 ?_
       intro a182 ha182; clear ha181 a181
       refine dr_skip (i := 9) ha182 rfl (by kernel_rfl) (by kernel_rfl) (by kernel_rfl) rfl rfl rfl hs69 ?_
       intro a183 ha183; clear ha182 a182
       refine dr_skip (i := 10) ha183 rfl (by kernel_rfl) (by kernel_rfl) (by kernel_rfl) rfl rfl rfl hs69 ?_
       intro a184 ha184; clear ha183 a183
       refine dr_val (i := 11) ha184 rfl (by kernel_rfl) (by kernel_rfl) (by kernel_rfl) rfl rfl rfl hs69 (fun w' hw' => op_pick_f ha184 rfl rfl rfl) ?_
       intro a185 ha185; clear ha184 a184
       refine dr_end (by kernel_rfl) ?_
       replace hf62 := hf62.ext hs69
       replace hf63 := hf63.ext hs69
       refine then_n ?_
       refine cond_f ha185 rfl ?_
       refine wp_exit ?_
       refine then_e ?_
       refine then_e ?_
       refine block_hit ?_
       refine then_n ?_
       refine wp_seq ?_
       refine wp_seq ?_
       refine dr_enter Ext follows_mixed ?_
       intro w186 he187
       have hx188 := hx68.trans' he187
       have hzhx188 := he187.size
       replace hf62 := hf62.ext he187
       replace hf63 := hf63.ext he187
       have hs189 : Ext w186 w186 := Ext.rfl' _
       refine dr_val (i := 0) ha185 rfl (by kernel_rfl) (by kernel_rfl) (by kernel_rfl) rfl rfl rfl hs189 (fun w' hw' => op_move ha185 rfl rfl) ?_
       intro a190 ha190; clear ha185 a185
       refine dr_val (i := 1) ha190 rfl (by kernel_rfl) (by kernel_rfl) (by kernel_rfl) rfl rfl rfl hs189 (fun w' hw' => op_gtr ha190 rfl rfl rfl) ?_
       intro a191 ha191; clear ha190 a190
       refine dr_val (i := 2) ha191 rfl (by kernel_rfl) (by kernel_rfl) (by kernel_rfl) rfl rfl rfl hs189 (fun w' hw' => op_move ha191 rfl rfl) ?_
       intro a192 ha192; clear ha191 a191
       rw [decide_eq_false c73] at ha192
       refine dr_skip (i := 3) ha192 rfl (by kernel_rfl) (by kernel_rfl) (by kernel_rfl) rfl rfl rfl hs189 ?_
       intro a193 ha193; clear ha192 a192
       refine dr_skip (i := 4) ha193 rfl (by kernel_rfl) (by kernel_rfl) (by kernel_rfl) rfl rfl rfl hs189 ?_
       intro a194 ha194; clear ha193 a193
       refine dr_skip (i := 5) ha194 rfl (by kernel_rfl) (by kernel_rfl) (by kernel_rfl) rfl rfl rfl hs189 ?_
       intro a195 ha195; clear ha194 a194
       refine dr_skip (i := 6) ha195 rfl (by kernel_rfl) (by kernel_rfl) (by kernel_rfl) rfl rfl rfl hs189 ?_
       intro a196 ha196; clear ha195 a195
       refine dr_skip (i := 7) ha196 rfl (by kernel_rfl) (by kernel_rfl) (by kernel_rfl) rfl rfl rfl hs189 ?_
       intro a197 ha197; clear ha196 a196
       refine dr_skip (i := 8) ha197 rfl (by kernel_rfl) (by kernel_rfl) (by kernel_rfl) rfl rfl rfl hs189 ?_
       intro a198 ha198; clear ha197 a197
       refine dr_skip (i := 9) ha198 rfl (by kernel_rfl) (by kernel_rfl) (by kernel_rfl) rfl rfl rfl hs189 ?_
       intro a199 ha199; clear ha198 a198
       refine dr_skip (i := 10) ha199 rfl (by kernel_rfl) (by kernel_rfl) (by kernel_rfl) rfl rfl rfl hs189 ?_
       intro a200 ha200; clear ha199 a199
       refine dr_val (i := 11) ha200 rfl (by kernel_rfl) (by kernel_rfl) (by kernel_rfl) rfl rfl rfl hs189 (fun w' hw' => op_pick_f ha200 rfl rfl rfl) ?_
       intro a201 ha201; clear ha200 a200
       refine dr_end (by kernel_rfl) ?_
       replace hf62 := hf62.ext hs189
       replace hf63 := hf63.ext hs189
       refine then_n ?_
       refine cond_f ha201 rfl ?_
       refine wp_skip ?_
       refine then_n ?_
       refine wp_seq ?_
       refine wp_region_lit ?_
       refine wl_val ha201 rfl rfl rfl (op_move ha201 rfl rfl) ?_
       intro a202 ha202; clear ha201 a201
       refine wl_eff ha202 rfl rfl rfl (op_buildSlice (s := shStr) (xs := [([] : Str)]) (cs := [St (([] : Str))]) (vs := [(0, St (([] : Str)))]) (S := fun _ => False) (le := w186.heap.size) ha202 rfl pos_shStr Try.underlying52 ti9 rfl rfl (by decide) (by kernel_rfl) (Els.single (mk_shStr (([] : Str)) (by first | assumption | omega | exact owS_i64 hent hlen | (simp; done)))) (fun _ h => h.elim)) ?_
       rintro v203 w204 ⟨ho205, he206, hob207⟩ a208 ha208; clear ha202 a202
       have hx209 := hx188.trans' he206
       have hzhx209 := he206.size
       replace hf62 := hf62.ext he206
       replace hf63 := hf63.ext he206
       refine wl_eff ha208 rfl rfl rfl (op_append (ts := #[]) (s := shStr) ha208 rfl Try.underlying52 ti9 rfl pos_shStr rfl rfl hf62 (ho205.rds pos_shStr) (by omega) (by omega) (by first | omega | (simp; omega)) (by first | omega | (simp; omega)) (.inl flat_shStr)) ?_
       rintro v210 w211 ⟨ho212, hst213, hob214⟩ a215 ha215; clear ha208 a208
       have hx216 := hx209.stp hst213 (by intro q hq; have hq0 := hf62.lt q hq; omega)
       have hzhx216 := hst213.size
       replace hf63 := hf63.stp hst213 (by intro q hq; have hq0 := hf62.lt q hq; omega)
       replace ho205 := ho205.stp hst213 (by intro q hq; have hq0 := hf62.lt q hq; omega)
       have hsp217 : ∀ q, Value.ownBlock v210 = some q → Value.ownBlock v203 ≠ some q := by intro q hq hb; have hq0 := ho205.lt q hb; rcases hob214 with h | h; (rw [h] at hq; first | (have hq1 := hf62.lt q hq; omega)); (rw [h] at hq; cases hq; omega)
       refine wl_val ha215 rfl rfl rfl (op_assign ha215 rfl rfl) ?_
       intro a218 ha218; clear ha215 a215
       refine wpList_nil ?_
       refine then_n ?_
       refine wp_seq ?_
       refine dr_enter (fun wa_ wb_ => Stp wa_ wb_ (Value.ownBlock v210)) follows_mixed ?_
       intro w219 he220
       have hx221 := hx216.trans' he220
       have hzhx221 := he220.size
       replace hf63 := hf63.ext he220
       replace ho205 := ho205.ext he220
       replace ho212 := ho212.ext he220
       have hs222 : Ext w219 w219 := Ext.rfl' _
       refine dr_val (i := 0) ha218 rfl (by kernel_rfl) (by kernel_rfl) (by kernel_rfl) rfl rfl rfl (Stp.of_ext hs222 _) (fun w' hw' => op_move ha218 rfl rfl) ?_
       intro a223 ha223; clear ha218 a218
       refine dr_val (i := 1) ha223 rfl (by kernel_rfl) (by kernel_rfl) (by kernel_rfl) rfl rfl rfl (Stp.of_ext hs222 _) (fun w' hw' => op_move ha223 rfl rfl) ?_
       intro a224 ha224; clear ha223 a223
       refine dr_val (i := 2) ha224 rfl (by kernel_rfl) (by kernel_rfl) (by kernel_rfl) rfl rfl rfl (Stp.of_ext hs222 _) (fun w' hw' => (op_add ha224 rfl rfl rfl).int (IntWalk.i64_in _ (by omega))) ?_
       intro a225 ha225; clear ha224 a224
       obtain ⟨u226, hu227, hpp229, hr228⟩ := Own.partw ho212 pos_shStr (by simp; try omega) Try.underlying52 ti9 (some (.int .i64 ((k + 1) : Nat))) none ((k + 1)) (((acc ++ [([] : Str)])).length) (.inr ⟨.i64, rfl⟩) (.inl ⟨rfl, rfl⟩) (by first | omega | (simp; omega)) (by first | omega | (simp; omega))
       replace hr228 := hr228.cast (ys := ((acc ++ [([] : Str)])).drop ((k + 1))) (by first | rw [List.take_length] | simp)
       refine dr_val (i := 3) ha225 rfl (by kernel_rfl) (by kernel_rfl) (by kernel_rfl) rfl rfl rfl (Stp.of_ext hs222 _) (fun w' hw' => op_slice_f (by omega) ha225 rfl rfl rfl hu227) ?_
       intro a230 ha230; clear ha225 a225
       refine dr_val (i := 4) ha230 rfl (by kernel_rfl) (by kernel_rfl) (by kernel_rfl) rfl rfl rfl (Stp.of_ext hs222 _) (fun w' hw' => op_move ha230 rfl rfl) ?_
       intro a231 ha231; clear ha230 a230
       refine dr_val (i := 5) ha231 rfl (by kernel_rfl) (by kernel_rfl) (by kernel_rfl) rfl rfl rfl (Stp.of_ext hs222 _) (fun w' hw' => op_move ha231 rfl rfl) ?_
       intro a232 ha232; clear ha231 a231
       obtain ⟨u233, hu234, hpp236, hr235⟩ := Own.partw ho212 pos_shStr (by simp; try omega) Try.underlying52 ti9 (some (.int .i64 (k : Nat))) none k (((acc ++ [([] : Str)])).length) (.inr ⟨.i64, rfl⟩) (.inl ⟨rfl, rfl⟩) (by first | omega | (simp; omega)) (by first | omega | (simp; omega))
       replace hr235 := hr235.cast (ys := ((acc ++ [([] : Str)])).drop k) (by first | rw [List.take_length] | simp)
       refine dr_val (i := 6) ha232 rfl (by kernel_rfl) (by kernel_rfl) (by kernel_rfl) rfl rfl rfl (Stp.of_ext hs222 _) (fun w' hw' => op_slice_f (by omega) ha232 rfl rfl rfl hu234) ?_
       intro a237 ha237; clear ha232 a232
       refine dr_one (i := 7) (by kernel_rfl) ?_
       replace hf63 := hf63.ext hs222
       replace ho205 := ho205.ext hs222
       replace ho212 := ho212.ext hs222
       replace hr228 := hr228.ext pos_shStr hs222
       replace hr235 := hr235.ext pos_shStr hs222
       refine po_eff ha237 rfl rfl rfl rfl (op_copyIn (s := shStr) ha237 rfl Try.underlying52 ti9 rfl rfl ho212 (by simp; try omega) hpp229 hpp236) ?_
       rintro _ w238 ⟨rfl, ho240, hst239, hz241⟩ a242 ha242; clear ha237 a237
       have hx243 := hx221.stp hst239 (by intro q hq; have hq0 := ho212.lt q hq; omega)
       have hzhx243 := hst239.size
       first | replace hf63 := hf63.stp hst239 (by intro q hq; have hq0 := ho212.lt q hq; omega) | replace hf63 := hf63.stp hst239 (by intro q hq e; subst e; exact ho212.ne_box hf63 rfl hq)
       first | replace ho205 := ho205.stp hst239 (by intro q hq; have hq0 := ho212.lt q hq; omega) | replace ho205 := ho205.stpF flat_shStr hst239 (fun q hq => hsp217 q hq)
       clear ho212
       have hs244 := (Stp.of_ext hs222 (Value.ownBlock v210)).trans' hst239
       refine ⟨hs244, ?_⟩
       refine dr_end (by kernel_rfl) ?_
       refine then_n ?_
       refine wp_region_lit ?_
       refine wl_val ha242 rfl rfl rfl (op_move ha242 rfl rfl) ?_
       intro a245 ha245; clear ha242 a242
       refine wl_val ha245 rfl rfl rfl (op_move ha245 rfl rfl) ?_
       intro a246 ha246; clear ha245 a245
       refine wl_val ha246 rfl rfl rfl (op_fieldAddr (sz := 0) ha246 rfl Try.underlying41 rfl rfl ti9 rfl) ?_
       intro a247 ha247; clear ha246 a246
       refine wl_val ha247 rfl rfl rfl (op_loadF (off := 2) ha247 rfl Try.underlying9 rfl rfl hf63.cells rfl) ?_
       intro a248 ha248; clear ha247 a247
       obtain ⟨x249, hx249⟩ := get_ex (xs := (((acc ++ [([] : Str)])).take ((k + 1)) ++ (((acc ++ [([] : Str)])).drop k).take (min (((acc ++ [([] : Str)])).length - (k + 1)) (((acc ++ [([] : Str)])).length - k)) ++ ((acc ++ [([] : Str)])).drop ((k + 1) + (min (((acc ++ [([] : Str)])).length - (k + 1)) (((acc ++ [([] : Str)])).length - k))))) (j := k) (by first | omega | (simp only [List.length_set, List.length_append, List.length_take, List.length_drop, List.length_singleton]; omega))
       obtain ⟨p250, c251, hi252, hc253, hr254, hs255⟩ := Rds.at_ (ho240.rds pos_shStr) hx249
       obtain ⟨rfl, b256⟩ := inv_shStr hr254
       obtain ⟨_, _⟩ : _ ∧ _ := hs255
       refine wl_val ha248 rfl rfl rfl (op_indexAddr ha248 rfl Try.underlying52 ti9 rfl rfl (by omega) hi252) ?_
       intro a257 ha257; clear ha248 a248
       refine wl_effS ha257 rfl rfl (op_setElem (s := shStr) (ds := [St x14.2.2.1]) (S' := fun _ => False) ha257 rfl ti9 rfl rfl rfl ho240 pos_shStr hi252 (by first | omega | (simp only [List.length_set, List.length_append, List.length_take, List.length_drop, List.length_singleton]; omega)) (mk_shStr x14.2.2.1 (by first | assumption | omega | exact owS_i64 hent hlen | (simp; done))) (fun _ h => h.elim)) ?_
       rintro w258 ⟨ho260, hst259, hz261⟩
       have hx262 := hx243.stp hst259 (by intro q hq; have hq0 := ho240.lt q hq; omega)
       have hzhx262 := hst259.size
       first | replace hf63 := hf63.stp hst259 (by intro q hq; have hq0 := ho240.lt q hq; omega) | replace hf63 := hf63.stp hst259 (by intro q hq e; subst e; exact ho240.ne_box hf63 rfl hq)
       first | replace ho205 := ho205.stp hst259 (by intro q hq; have hq0 := ho240.lt q hq; omega) | replace ho205 := ho205.stpF flat_shStr hst259 (fun q hq => hsp217 q hq)
       clear ho240
       have hlsho260 : ((((((acc ++ [([] : Str)])).take ((k + 1)) ++ (((acc ++ [([] : Str)])).drop k).take (min (((acc ++ [([] : Str)])).length - (k + 1)) (((acc ++ [([] : Str)])).length - k)) ++ ((acc ++ [([] : Str)])).drop ((k + 1) + (min (((acc ++ [([] : Str)])).length - (k + 1)) (((acc ++ [([] : Str)])).length - k))))).set k x14.2.2.1)).length = ((((acc ++ [([] : Str)])).take ((k + 1)) ++ (((acc ++ [([] : Str)])).drop k).take (min (((acc ++ [([] : Str)])).length - (k + 1)) (((acc ++ [([] : Str)])).length - k)) ++ ((acc ++ [([] : Str)])).drop ((k + 1) + (min (((acc ++ [([] : Str)])).length - (k + 1)) (((acc ++ [([] : Str)])).length - k))))).length := List.length_set
       refine wpList_nil ?_
       refine block_n ?_
       refine then_n ?_
       refine wp_region_lit ?_
       refine wl_val ha257 rfl rfl rfl ((op_add ha257 rfl rfl rfl).int (IntWalk.i64_in _ (by omega))) ?_
       intro a263 ha263; clear ha257 a257
       refine wl_val ha263 rfl rfl rfl (op_move ha263 rfl rfl) ?_
       intro a264 ha264; clear ha263 a263
       refine wpList_nil ?_
       have hins := insU_back (x := x14.2.2.1) hU hk2 (.inl (by omega))
       have hieq := ins_eq (acc := acc) (k := k) (x := x14.2.2.1) (z := ([] : Str)) (by omega)
       have hils := insU_len x14.2.2.1 acc
       rw [← hins] at hieq
       refine round_end (x := (i, v, acc)) ((i + 1), v210, (((((acc ++ [([] : Str)])).take ((k + 1)) ++ (((acc ++ [([] : Str)])).drop k).take (min (((acc ++ [([] : Str)])).length - (k + 1)) (((acc ++ [([] : Str)])).length - k)) ++ ((acc ++ [([] : Str)])).drop ((k + 1) + (min (((acc ++ [([] : Str)])).length - (k + 1)) (((acc ++ [([] : Str)])).length - k))))).set k x14.2.2.1)) ?_ ?_
       ·
        refine ⟨(Sl.cons_ ha264 rfl rfl (Sl.cons_ ha264 rfl rfl (Sl.cons_ ha264 rfl rfl (Sl.cons_ ha264 rfl rfl (Sl.cons_ ha264 rfl (int_eq (by omega)) (Sl.nil_ ha264)))))), hx262, (ho260.fin (by omega) (by omega) (by omega)), (by omega), (by omega), (by rw [hieq]; omega), (by rw [hieq]; exact insU_up hU), (by rw [drop_cons hx14, nmGo, if_pos ⟨by assumption, by assumption⟩] at hF; rw [hieq]; exact hF)⟩
       ·show (list.length - ((i + 1)) : Nat) < list.length - i; omega
   ·
    rw [decide_eq_false c43] at ha42
    refine wl_skip ha42 rfl rfl rfl ?_
    intro a265 ha265; clear ha42 a42
    refine wl_skip ha265 rfl rfl rfl ?_
    intro a266 ha266; clear ha265 a265
    refine wl_skip ha266 rfl rfl rfl ?_
    intro a267 ha267; clear ha266 a266
    refine wl_skip ha267 rfl rfl rfl ?_
    intro a268 ha268; clear ha267 a267
    refine wl_skip ha268 rfl rfl rfl ?_
    intro a269 ha269; clear ha268 a268
    refine wl_val ha269 rfl rfl rfl (op_pick_t ha269 rfl rfl rfl) ?_
    intro a270 ha270; clear ha269 a269
    refine wpList_nil ?_
    refine then_n ?_
    refine cond_t ha270 rfl ?_
    refine wp_exit ?_
    refine then_e ?_
    refine block_hit ?_
    refine then_n ?_
    refine wp_region_lit ?_
    refine wl_val ha270 rfl rfl rfl ((op_add ha270 rfl rfl rfl).int (IntWalk.i64_in _ (by omega))) ?_
    intro a271 ha271; clear ha270 a270
    refine wl_val ha271 rfl rfl rfl (op_move ha271 rfl rfl) ?_
    intro a272 ha272; clear ha271 a271
    refine wpList_nil ?_
    
    refine round_end (x := (i, v, acc)) ((i + 1), v, acc) ?_ ?_
    ·
     refine ⟨(Sl.cons_ ha272 rfl rfl (Sl.cons_ ha272 rfl rfl (Sl.cons_ ha272 rfl rfl (Sl.cons_ ha272 rfl rfl (Sl.cons_ ha272 rfl (int_eq (by omega)) (Sl.nil_ ha272)))))), hx38, (hf9.fin (by omega) (by omega) (by omega)), (by omega), (by omega), (by omega), (by exact hU), (by rw [drop_cons hx14, nmGo, if_neg (by rintro ⟨h1, h2⟩; first | (exact absurd h1 (by assumption)) | (exact h2 (by assumption)))] at hF; exact hF)⟩
    ·show (list.length - ((i + 1)) : Nat) < list.length - i; omega
  ·
   rw [decide_eq_false c13] at ha12
   refine cond_f ha12 rfl ?_
   refine wp_exit ?_
   refine then_e ?_
   refine then_e ?_
   refine block_hit ?_
   refine then_n ?_
   refine wp_seq ?_
   refine wp_region_lit ?_
   refine wl_val ha12 rfl rfl rfl (op_assign ha12 rfl rfl) ?_
   intro a273 ha273; clear ha12 a12
   refine wpList_nil ?_
   refine then_n ?_
   refine wp_seq ?_
   refine wp_seq ?_
   refine wp_region_lit ?_
   refine wl_val ha273 rfl rfl rfl (op_move ha273 rfl rfl) ?_
   intro a274 ha274; clear ha273 a273
   refine wl_val ha274 rfl rfl rfl (op_len_sl ha274 rfl Try.underlying52 rfl (hf9.rds pos_shStr)) ?_
   intro a275 ha275; clear ha274 a274
   refine wl_val ha275 rfl rfl rfl (op_move ha275 rfl rfl) ?_
   intro a276 ha276; clear ha275 a275
   refine wpList_nil ?_
   refine then_n ?_
   refine wp_block ?_
   refine loop_inv (X := Nat × Value × (List Int)) (fun (⟨j, v2, acc2⟩ : Nat × Value × (List Int)) fr wl => Sl 87 fr [(0, v_list), (4, v), (8, v2), (72, v), (73, .int .i64 ((acc.length : Nat) : Int)), (74, .int .i64 ((j : Nat) : Int))] ∧ Ext w0 wl ∧ Own shStr 9 w0.heap.size w0.heap.size w7.heap.size wl v acc ∧ Own shI64 2 w7.heap.size w7.heap.size wl.heap.size wl v2 acc2 ∧ w7.heap.size ≤ wl.heap.size ∧ (j ≤ acc.length) ∧ (acc2.length ≤ j) ∧ (acc2 = (acc.take j).map fun n => owS n list)) (fun (⟨j, v2, acc2⟩ : Nat × Value × (List Int)) => acc.length - j) (0, (.slice none 0 0), []) ?_ ?_
   ·
    exact ⟨(Sl.cons_ ha276 rfl rfl (Sl.cons_ ha276 rfl rfl (Sl.cons_ ha276 rfl rfl (Sl.cons_ ha276 rfl rfl (Sl.cons_ ha276 rfl rfl (Sl.cons_ ha276 rfl (int_eq (by omega)) (Sl.nil_ ha276))))))), hx8, hf9, (Own.nil _ _ _ _ _ _), (by omega), (by omega), (by simp), (by simp)⟩
   ·
    clear ha276 a276
    rintro ⟨j, v2, acc2⟩ a281 w277 ⟨ha281, hx278, hf279, hf280, hzl282, hj, hl2, hG⟩
    have hzhx278 := hx278.size
    refine wp_seq ?_
    refine wp_region_lit ?_
    refine wl_val ha281 rfl rfl rfl (op_lss ha281 rfl rfl rfl) ?_
    intro a283 ha283; clear ha281 a281
    refine wpList_nil ?_
    refine then_n ?_
    refine wp_seq ?_
    by_cases c284 : ((j : Nat) : Int) < ((acc.length : Nat) : Int)
    ·
     rw [decide_eq_true c284] at ha283
     refine cond_t ha283 rfl ?_
     refine wp_skip ?_
     refine then_n ?_
     refine wp_seq ?_
     refine wp_block ?_
     refine wp_seq ?_
     refine wp_region_lit ?_
     obtain ⟨x285, hx285⟩ := get_ex (xs := acc) (j := j) (by first | omega | (simp only [List.length_set, List.length_append, List.length_take, List.length_drop, List.length_singleton]; omega))
     obtain ⟨p286, c287, hi288, hc289, hr290, hs291⟩ := Rds.at_ (hf279.rds pos_shStr) hx285
     obtain ⟨rfl, b292⟩ := inv_shStr hr290
     obtain ⟨_, _⟩ : _ ∧ _ := hs291
     refine wl_val ha283 rfl rfl rfl (op_indexAddr ha283 rfl Try.underlying52 ti9 rfl rfl (by omega) hi288) ?_
     intro a293 ha293; clear ha283 a283
     refine wl_val ha293 rfl rfl rfl (op_loadH ha293 rfl Try.underlying9 rfl rfl hc289 rfl) ?_
     intro a294 ha294; clear ha293 a293
     refine wl_val ha294 rfl rfl rfl (op_assign ha294 rfl rfl) ?_
     intro a295 ha295; clear ha294 a294
     refine wpList_nil ?_
     refine then_n ?_
     refine wp_region_lit ?_
     refine wl_val ha295 rfl rfl rfl (op_move ha295 rfl rfl) ?_
     intro a296 ha296; clear ha295 a295
     refine wl_val ha296 rfl rfl rfl (op_move ha296 rfl rfl) ?_
     intro a297 ha297; clear ha296 a296
     refine wl_val ha297 rfl rfl rfl (op_move ha297 rfl rfl) ?_
     intro a298 ha298; clear ha297 a297
     refine wl_callR ha298 rfl rfl rfl (op_call ha298 rfl cb59 rfl) (c_impl_owesOf _ v_list list x285 (h_list.ext pos_shEnt hx278) (by first | assumption | omega | (simp; omega)) (by first | assumption | omega | (simp; omega))) ?_
     rintro v299 w300 he301 rfl a302 ha302; clear ha298 a298
     have hx303 := hx278.trans' he301
     have hzhx303 := he301.size
     replace hf279 := hf279.ext he301
     replace hf280 := hf280.ext he301
     replace hc289 := hc289.ext he301
     refine wl_eff ha302 rfl rfl rfl (op_buildSlice (s := shI64) (xs := [(owS x285 list : Int)]) (cs := [.int .i64 (owS x285 list : Int)]) (vs := [(0, .int .i64 (owS x285 list : Int))]) (S := fun _ => False) (le := w300.heap.size) ha302 rfl pos_shI64 Try.underlying45 ti2 rfl rfl (by decide) (by kernel_rfl) (Els.single (mk_shI64 ((owS x285 list : Int)) (by first | assumption | omega | exact owS_i64 hent hlen | (simp; done)))) (fun _ h => h.elim)) ?_
     rintro v304 w305 ⟨ho306, he307, hob308⟩ a309 ha309; clear ha302 a302
     have hx310 := hx303.trans' he307
     have hzhx310 := he307.size
     replace hf279 := hf279.ext he307
     replace hf280 := hf280.ext he307
     replace hc289 := hc289.ext he307
     refine wl_eff ha309 rfl rfl rfl (op_append (ts := #[]) (s := shI64) ha309 rfl Try.underlying45 ti2 rfl pos_shI64 rfl rfl hf280 (ho306.rds pos_shI64) (by omega) (by omega) (by first | omega | (simp; omega)) (by first | omega | (simp; omega)) (.inl flat_shI64)) ?_
     rintro v311 w312 ⟨ho313, hst314, hob315⟩ a316 ha316; clear ha309 a309
     have hx317 := hx310.stp hst314 (by intro q hq; have hq0 := hf280.lt q hq; omega)
     have hzhx317 := hst314.size
     replace hf279 := hf279.stp hst314 (by intro q hq; have hq0 := hf280.lt q hq; omega)
     replace ho306 := ho306.stp hst314 (by intro q hq; have hq0 := hf280.lt q hq; omega)
     have hsp318 : ∀ q, Value.ownBlock v311 = some q → Value.ownBlock v304 ≠ some q := by intro q hq hb; have hq0 := ho306.lt q hb; rcases hob315 with h | h; (rw [h] at hq; first | (have hq1 := hf280.lt q hq; omega)); (rw [h] at hq; cases hq; omega)
     refine wl_val ha316 rfl rfl rfl (op_assign ha316 rfl rfl) ?_
     intro a319 ha319; clear ha316 a316
     refine wpList_nil ?_
     refine block_n ?_
     refine then_n ?_
     refine wp_region_lit ?_
     refine wl_val ha319 rfl rfl rfl ((op_add ha319 rfl rfl rfl).int (IntWalk.i64_in _ (by omega))) ?_
     intro a320 ha320; clear ha319 a319
     refine wl_val ha320 rfl rfl rfl (op_move ha320 rfl rfl) ?_
     intro a321 ha321; clear ha320 a320
     refine wpList_nil ?_
     refine round_end (x := (j, v2, acc2)) ((j + 1), v311, (acc2 ++ [(owS x285 list : Int)])) ?_ ?_
     ·
      refine ⟨(Sl.cons_ ha321 rfl rfl (Sl.cons_ ha321 rfl rfl (Sl.cons_ ha321 rfl rfl (Sl.cons_ ha321 rfl rfl (Sl.cons_ ha321 rfl rfl (Sl.cons_ ha321 rfl (int_eq (by omega)) (Sl.nil_ ha321))))))), hx317, hf279, (ho313.fin (by omega) (by omega) (by omega)), (by omega), (by omega), (by first | omega | (simp; omega)), (by rw [take_snoc hx285, List.map_append, ← hG]; rfl)⟩
     ·show (acc.length - ((j + 1)) : Nat) < acc.length - j; omega
    ·
     rw [decide_eq_false c284] at ha283
     refine cond_f ha283 rfl ?_
     refine wp_exit ?_
     refine then_e ?_
     refine then_e ?_
     refine block_hit ?_
     refine then_n ?_
     refine wp_seq ?_
     refine wp_region_lit ?_
     refine wl_val ha283 rfl rfl rfl (op_move ha283 rfl rfl) ?_
     intro a322 ha322; clear ha283 a283
     refine wl_val ha322 rfl rfl rfl (op_move ha322 rfl rfl) ?_
     intro a323 ha323; clear ha322 a322
     refine wl_val ha323 rfl rfl rfl (op_assign ha323 rfl rfl) ?_
     intro a324 ha324; clear ha323 a323
     refine wl_val ha324 rfl rfl rfl (op_assign ha324 rfl rfl) ?_
     intro a325 ha325; clear ha324 a324
     refine wpList_nil ?_
     refine then_n ?_
     refine wp_ret ?_
     refine ret2 ha325 rfl rfl rfl ?_
     clear ha325 a325
     rw [drop_nil (by omega), nmGo] at hF
     have hE : acc = dbtN list := hF
     refine ret_mk hx278 ⟨v, v2, (tup2_eq rfl rfl), ?_, ?_⟩
     ·refine (hf279.fin (by omega) (by omega) (by omega)).cast ?_
      exact hE
     ·refine (hf280.fin (by omega) (by omega) (by omega)).cast ?_
      rw [hG, List.take_of_length_le (by omega), hE]; rfl

theorem c_spec_l33Debtors (w0 : World) (v_list : Value) (list : List (Int × Int × Str × Int)) {S_list : Nat → Prop} (h_list : Rds shEnt S_list w0 v_list list) (g0 : dbB list = true) :
  Calls Try.prog 68 #[v_list] w0 (Ret w0 (fun v w1 => ∃ r0 r1, v = .tuple #[r0, r1] ∧ Own shStr 9 w0.heap.size w0.heap.size w1.heap.size w1 r0 (dbtN list) ∧ Own shI64 2 w0.heap.size w0.heap.size w1.heap.size w1 r1 (dbtC list))) := by
 refine enter (N := 84) Try.func68 rfl rfl rfl ?_
 intro a0 ha0
 have hx0 := Ext.rfl' w0
 have hl_list := h_list.length_le
 have hlen := dbB_len g0
 have hent := dbB_ent g0
 have hdl := dbtN_len list
 refine wp_seq ?_
 refine wp_region_lit ?_
 refine wl_val ha0 rfl rfl rfl (op_assign ha0 rfl rfl) ?_
 intro a1 ha1; clear ha0 a0
 refine wl_val ha1 rfl rfl rfl (op_assign ha1 rfl rfl) ?_
 intro a2 ha2; clear ha1 a1
 refine wpList_nil ?_
 refine then_n ?_
 refine wp_seq ?_
 refine wp_region_lit ?_
 refine wl_eff ha2 rfl rfl rfl (op_buildSlice (s := shStr) (xs := ([] : List Str)) (cs := []) (vs := []) (S := fun _ => False) (le := w0.heap.size) ha2 rfl pos_shStr Try.underlying52 ti9 rfl rfl (by decide) (by kernel_rfl) rfl (fun _ h => h.elim)) ?_
 rintro v3 w4 ⟨ho5, he6, hob7⟩ a8 ha8; clear ha2 a2
 have hx9 := hx0.trans' he6
 have hzhx9 := he6.size
 refine wl_val ha8 rfl rfl rfl (op_assign ha8 rfl rfl) ?_
 intro a10 ha10; clear ha8 a8
 refine wpList_nil ?_
 refine then_n ?_
 refine wp_seq ?_
 refine wp_seq ?_
 refine wp_region_lit ?_
 refine wl_val ha10 rfl rfl rfl (op_assign ha10 rfl rfl) ?_
 intro a11 ha11; clear ha10 a10
 refine wpList_nil ?_
 refine then_n ?_
 refine wp_block ?_
 refine loop_inv (X := Nat × Value × (List Str)) (fun (⟨i, v, acc⟩ : Nat × Value × (List Str)) fr wl => Sl 84 fr [(0, v_list), (4, v), (5, .int .i64 ((i : Nat) : Int))] ∧ Ext w0 wl ∧ Own shStr 9 w0.heap.size w0.heap.size wl.heap.size wl v acc ∧ w4.heap.size ≤ wl.heap.size ∧ (i ≤ list.length) ∧ (acc.length ≤ i) ∧ (UpS acc) ∧ (spN list (list.drop i) acc = spN list list [])) (fun (⟨i, v, acc⟩ : Nat × Value × (List Str)) => list.length - i) (0, v3, ([] : List Str)) ?_ ?_
 ·
  exact ⟨(Sl.cons_ ha11 rfl rfl (Sl.cons_ ha11 rfl rfl (Sl.cons_ ha11 rfl (int_eq (by omega)) (Sl.nil_ ha11)))), hx9, (ho5.fin (by omega) (by omega) (by omega)), (by omega), (by omega), (by simp), (by exact List.Pairwise.nil), (by rfl)⟩
 ·
  clear ha11 a11
  rintro ⟨i, v, acc⟩ a15 w12 ⟨ha15, hx13, hf14, hzl16, hi, hl, hU, hF⟩
  have hzhx13 := hx13.size
  refine wp_seq ?_
  refine wp_seq ?_
  refine wp_region_lit ?_
  refine wl_val ha15 rfl rfl rfl (op_move ha15 rfl rfl) ?_
  intro a17 ha17; clear ha15 a15
  refine wl_val ha17 rfl rfl rfl (op_move ha17 rfl rfl) ?_
  intro a18 ha18; clear ha17 a17
  refine wl_val ha18 rfl rfl rfl (op_len_sl ha18 rfl Try.underlying25 rfl h_list) ?_
  intro a19 ha19; clear ha18 a18
  refine wl_val ha19 rfl rfl rfl (op_lss ha19 rfl rfl rfl) ?_
  intro a20 ha20; clear ha19 a19
  refine wpList_nil ?_
  refine then_n ?_
  by_cases c21 : ((i : Nat) : Int) < ((list.length : Nat) : Int)
  ·
   rw [decide_eq_true c21] at ha20
   refine cond_t ha20 rfl ?_
   refine wp_skip ?_
   refine then_n ?_
   refine wp_seq ?_
   refine wp_block ?_
   refine wp_seq ?_
   refine wp_region_lit ?_
   refine wl_val ha20 rfl rfl rfl (op_move ha20 rfl rfl) ?_
   intro a22 ha22; clear ha20 a20
   refine wl_val ha22 rfl rfl rfl (op_move ha22 rfl rfl) ?_
   intro a23 ha23; clear ha22 a22
   obtain ⟨x24, hx24⟩ := get_ex (xs := list) (j := i) (by first | omega | (simp only [List.length_set, List.length_append, List.length_take, List.length_drop, List.length_singleton]; omega))
   obtain ⟨p25, c26, hi27, hc28, hr29, hs30⟩ := Rds.at_ h_list hx24
   obtain ⟨rfl, b31, b32, b33, b34⟩ := inv_shEnt hr29
   have hbx24 := ent_bd (hent _ (List.mem_of_getElem? hx24))
   refine wl_val ha23 rfl rfl rfl (op_indexAddr ha23 rfl Try.underlying25 ti41 rfl rfl (by omega) hi27) ?_
   intro a35 ha35; clear ha23 a23
   refine wl_val ha35 rfl rfl rfl (op_fieldAddr (sz := 0) ha35 rfl Try.underlying41 rfl rfl ti9 rfl) ?_
   intro a36 ha36; clear ha35 a35
   refine wl_val ha36 rfl rfl rfl (op_loadF (off := 2) ha36 rfl Try.underlying9 rfl rfl (hc28.ext hx13) rfl) ?_
   intro a37 ha37; clear ha36 a36
   refine wl_val ha37 rfl rfl rfl (op_assign ha37 rfl rfl) ?_
   intro a38 ha38; clear ha37 a37
   refine wpList_nil ?_
   refine then_n ?_
   refine wp_seq ?_
   refine wp_region_lit ?_
   refine wl_val ha38 rfl rfl rfl (op_assign ha38 rfl rfl) ?_
   intro a39 ha39; clear ha38 a38
   refine wpList_nil ?_
   refine then_n ?_
   refine wp_seq ?_
   refine wp_block ?_
   refine loop_inv (X := Nat) (fun (k : Nat) fr wl => Sl 84 fr [(0, v_list), (4, v), (5, .int .i64 ((i : Nat) : Int)), (6, St x24.2.2.1), (7, .int .i64 ((k : Nat) : Int))] ∧ Ext w0 wl ∧ Own shStr 9 w0.heap.size w0.heap.size w12.heap.size wl v acc ∧ w12.heap.size ≤ wl.heap.size ∧ (k ≤ acc.length) ∧ (∀ (j : Nat) (y : Str), j < k → acc[j]? = some y → y < x24.2.2.1)) (fun (k : Nat) => acc.length - k) (0) ?_ ?_
   ·
    exact ⟨(Sl.cons_ ha39 rfl rfl (Sl.cons_ ha39 rfl rfl (Sl.cons_ ha39 rfl rfl (Sl.cons_ ha39 rfl rfl (Sl.cons_ ha39 rfl (int_eq (by omega)) (Sl.nil_ ha39)))))), hx13, hf14, (by omega), (by omega), (by intro j y hj; omega)⟩
   ·
    clear ha39 a39
    rintro k a43 w40 ⟨ha43, hx41, hf42, hzl44, hk, hk2⟩
    have hzhx41 := hx41.size
    refine wp_seq ?_
    refine wp_seq ?_
    refine wp_region_lit ?_
    refine wl_val ha43 rfl rfl rfl (op_move ha43 rfl rfl) ?_
    intro a45 ha45; clear ha43 a43
    refine wl_val ha45 rfl rfl rfl (op_move ha45 rfl rfl) ?_
    intro a46 ha46; clear ha45 a45
    refine wl_val ha46 rfl rfl rfl (op_len_sl ha46 rfl Try.underlying52 rfl (hf42.rds pos_shStr)) ?_
    intro a47 ha47; clear ha46 a46
    refine wl_val ha47 rfl rfl rfl (op_lss ha47 rfl rfl rfl) ?_
    intro a48 ha48; clear ha47 a47
    refine wl_val ha48 rfl rfl rfl (op_move ha48 rfl rfl) ?_
    intro a49 ha49; clear ha48 a48
    by_cases c50 : ((k : Nat) : Int) < ((acc.length : Nat) : Int)
    ·
     rw [decide_eq_true c50] at ha49
     refine wl_val ha49 rfl rfl rfl (op_move ha49 rfl rfl) ?_
     intro a51 ha51; clear ha49 a49
     refine wl_val ha51 rfl rfl rfl (op_move ha51 rfl rfl) ?_
     intro a52 ha52; clear ha51 a51
     obtain ⟨x53, hx53⟩ := get_ex (xs := acc) (j := k) (by first | omega | (simp only [List.length_set, List.length_append, List.length_take, List.length_drop, List.length_singleton]; omega))
     obtain ⟨p54, c55, hi56, hc57, hr58, hs59⟩ := Rds.at_ (hf42.rds pos_shStr) hx53
     obtain ⟨rfl, b60⟩ := inv_shStr hr58
     obtain ⟨_, _⟩ : _ ∧ _ := hs59
     refine wl_val ha52 rfl rfl rfl (op_indexAddr ha52 rfl Try.underlying52 ti9 rfl rfl (by omega) hi56) ?_
     intro a61 ha61; clear ha52 a52
     refine wl_val ha61 rfl rfl rfl (op_loadH ha61 rfl Try.underlying9 rfl rfl hc57 rfl) ?_
     intro a62 ha62; clear ha61 a61
     refine wl_val ha62 rfl rfl rfl (op_move ha62 rfl rfl) ?_
     intro a63 ha63; clear ha62 a62
     refine wl_val ha63 rfl rfl rfl ((op_slss ha63 rfl rfl rfl).to (congrArg Value.bool (bytesLess_lt _ _))) ?_
     intro a64 ha64; clear ha63 a63
     refine wl_val ha64 rfl rfl rfl (op_pick_t ha64 rfl rfl rfl) ?_
     intro a65 ha65; clear ha64 a64
     refine wpList_nil ?_
     refine then_n ?_
     by_cases c66 : x53 < x24.2.2.1
     ·
      rw [decide_eq_true c66] at ha65
      refine cond_t ha65 rfl ?_
      refine wp_skip ?_
      refine then_n ?_
      refine wp_block ?_
      refine wp_region_lit ?_
      refine wl_val ha65 rfl rfl rfl (op_move ha65 rfl rfl) ?_
      intro a67 ha67; clear ha65 a65
      refine wl_val ha67 rfl rfl rfl ((op_add ha67 rfl rfl rfl).int (IntWalk.i64_in _ (by omega))) ?_
      intro a68 ha68; clear ha67 a67
      refine wl_val ha68 rfl rfl rfl (op_assign ha68 rfl rfl) ?_
      intro a69 ha69; clear ha68 a68
      refine wpList_nil ?_
      refine block_n ?_
      refine round_end (x := k) ((k + 1)) ?_ ?_
      ·
       refine ⟨(Sl.cons_ ha69 rfl rfl (Sl.cons_ ha69 rfl rfl (Sl.cons_ ha69 rfl rfl (Sl.cons_ ha69 rfl rfl (Sl.cons_ ha69 rfl (int_eq (by omega)) (Sl.nil_ ha69)))))), hx41, hf42, (by omega), (by omega), (by intro j y hj hy; by_cases e : j = k; (subst e; rw [hx53] at hy; cases hy; exact c66); exact hk2 j y (by omega) hy)⟩
      ·show (acc.length - ((k + 1)) : Nat) < acc.length - k; omega
     ·
      rw [decide_eq_false c66] at ha65
      refine cond_f ha65 rfl ?_
      refine wp_exit ?_
      refine then_e ?_
      refine then_e ?_
      refine block_hit ?_
      refine then_n ?_
      refine wp_seq ?_
      refine wp_region_lit ?_
      refine wl_val ha65 rfl rfl rfl (op_move ha65 rfl rfl) ?_
      intro a70 ha70; clear ha65 a65
      refine wl_val ha70 rfl rfl rfl (op_move ha70 rfl rfl) ?_
      intro a71 ha71; clear ha70 a70
      refine wl_callR ha71 rfl rfl rfl (op_call ha71 rfl cb57 rfl) (c_spec_l33Owes _ v_list list x24.2.2.1 (h_list.ext pos_shEnt hx41) (by first | assumption | omega | (simp; omega)) (by first | assumption | omega | (simp; omega))) ?_
      rintro v72 w73 he74 rfl a75 ha75; clear ha71 a71
      have hx76 := hx41.trans' he74
      have hzhx76 := he74.size
      replace hf42 := hf42.ext he74
      replace hc57 := hc57.ext he74
      refine wl_val ha75 rfl rfl rfl (op_gtr ha75 rfl rfl rfl) ?_
      intro a77 ha77; clear ha75 a75
      refine wl_val ha77 rfl rfl rfl (op_move ha77 rfl rfl) ?_
      intro a78 ha78; clear ha77 a77
      by_cases c79 : (0 : Int) < (owS x24.2.2.1 list : Int)
      ·
       rw [decide_eq_true c79] at ha78
       refine wl_val ha78 rfl rfl rfl (op_move ha78 rfl rfl) ?_
       intro a80 ha80; clear ha78 a78
       refine wl_val ha80 rfl rfl rfl (op_move ha80 rfl rfl) ?_
       intro a81 ha81; clear ha80 a80
       refine wl_val ha81 rfl rfl rfl (op_len_sl ha81 rfl Try.underlying52 rfl (hf42.rds pos_shStr)) ?_
       intro a82 ha82; clear ha81 a81
       refine wl_val ha82 rfl rfl rfl (op_eql ha82 rfl rfl rfl) ?_
       intro a83 ha83; clear ha82 a82
       refine wl_val ha83 rfl rfl rfl (op_move ha83 rfl rfl) ?_
       intro a84 ha84; clear ha83 a83
       by_cases c85 : ((k : Nat) : Int) = ((acc.length : Nat) : Int)
       ·
        rw [decide_eq_true c85] at ha84
        refine wl_skip ha84 rfl rfl rfl ?_
        intro a86 ha86; clear ha84 a84
        refine wl_skip ha86 rfl rfl rfl ?_
        intro a87 ha87; clear ha86 a86
        refine wl_skip ha87 rfl rfl rfl ?_
        intro a88 ha88; clear ha87 a87
        refine wl_skip ha88 rfl rfl rfl ?_
        intro a89 ha89; clear ha88 a88
        refine wl_skip ha89 rfl rfl rfl ?_
        intro a90 ha90; clear ha89 a89
        refine wl_skip ha90 rfl rfl rfl ?_
        intro a91 ha91; clear ha90 a90
        refine wl_val ha91 rfl rfl rfl (op_pick_t ha91 rfl rfl rfl) ?_
        intro a92 ha92; clear ha91 a91
        refine wl_val ha92 rfl rfl rfl (op_pick_t ha92 rfl rfl rfl) ?_
        intro a93 ha93; clear ha92 a92
        refine wpList_nil ?_
        refine then_n ?_
        refine cond_t ha93 rfl ?_
        refine dr_enter Ext follows_mixed ?_
        intro w94 he95
        have hx96 := hx76.trans' he95
        have hzhx96 := he95.size
        replace hf42 := hf42.ext he95
        replace hc57 := hc57.ext he95
        have hs97 : Ext w94 w94 := Ext.rfl' _
        refine dr_val (i := 1) ha93 rfl (by kernel_rfl) (by kernel_rfl) (by kernel_rfl) rfl rfl rfl hs97 (fun w' hw' => op_move ha93 rfl rfl) ?_
        intro a98 ha98; clear ha93 a93
        refine dr_val (i := 2) ha98 rfl (by kernel_rfl) (by kernel_rfl) (by kernel_rfl) rfl rfl rfl hs97 (fun w' hw' => op_move ha98 rfl rfl) ?_
        intro a99 ha99; clear ha98 a98
        obtain ⟨u100, hu101, hr102⟩ := Rds.part (hf42.rds pos_shStr) Try.underlying52 ti9 none (some (.int .i64 (k : Nat))) 0 k (.inl ⟨rfl, rfl⟩) (.inr ⟨.i64, rfl⟩) (by first | omega | (simp; omega)) (by first | omega | (simp; omega))
        replace hr102 := hr102.cast (ys := acc.take k) (by first | rw [List.take_length] | simp)
        refine dr_val (i := 3) ha99 rfl (by kernel_rfl) (by kernel_rfl) (by kernel_rfl) rfl rfl rfl hs97 (fun w' hw' => op_slice_t (by omega) ha99 rfl rfl rfl hu101) ?_
        intro a103 ha103; clear ha99 a99
        refine dr_val (i := 5) ha103 rfl (by kernel_rfl) (by kernel_rfl) (by kernel_rfl) rfl rfl rfl hs97 (fun w' hw' => op_move ha103 rfl rfl) ?_
        intro a104 ha104; clear ha103 a103
        refine dr_val (i := 8) ha104 rfl (by kernel_rfl) (by kernel_rfl) (by kernel_rfl) rfl rfl rfl hs97 (fun w' hw' => op_move ha104 rfl rfl) ?_
        intro a105 ha105; clear ha104 a104
        refine dr_val (i := 9) ha105 rfl (by kernel_rfl) (by kernel_rfl) (by kernel_rfl) rfl rfl rfl hs97 (fun w' hw' => op_move ha105 rfl rfl) ?_
        intro a106 ha106; clear ha105 a105
        obtain ⟨u107, hu108, hr109⟩ := Rds.part (hf42.rds pos_shStr) Try.underlying52 ti9 (some (.int .i64 (k : Nat))) none k acc.length (.inr ⟨.i64, rfl⟩) (.inl ⟨rfl, rfl⟩) (by first | omega | (simp; omega)) (by first | omega | (simp; omega))
        replace hr109 := hr109.cast (ys := acc.drop k) (by first | rw [List.take_length] | simp)
        refine dr_val (i := 10) ha106 rfl (by kernel_rfl) (by kernel_rfl) (by kernel_rfl) rfl rfl rfl hs97 (fun w' hw' => op_slice_f (by omega) ha106 rfl rfl rfl hu108) ?_
        intro a110 ha110; clear ha106 a106
        refine dr_two (i := 0) (j := 6) (by kernel_rfl) ?_ ?_
        ·
         refine po_eff ha110 rfl rfl rfl rfl (op_buildSlice (s := shStr) (xs := ([] : List Str)) (cs := []) (vs := []) (S := fun _ => False) (le := w94.heap.size) ha110 rfl pos_shStr Try.underlying52 ti9 rfl rfl (by decide) (by kernel_rfl) rfl (fun _ h => h.elim)) ?_
         rintro v111 w112 ⟨ho113, he114, hob115⟩ a116 ha116; clear ha110 a110
         have hs117 := hs97.trans' he114
         have hx118 := hx96.trans' he114
         have hzhx118 := he114.size
         refine ⟨hs117, ?_⟩
         refine dr_two (i := 4) (j := 6) (by kernel_rfl) ?_ ?_
         ·
          refine po_eff ha116 rfl rfl rfl rfl (op_append (ts := #[]) (s := shStr) ha116 rfl Try.underlying52 ti9 rfl pos_shStr rfl rfl ho113 (hr102.ext pos_shStr hs117) (by omega) (by omega) (by first | omega | (simp; omega)) (by first | omega | (simp; omega)) (.inl flat_shStr)) ?_
          rintro v119 w120 ⟨ho121, hst122, hob123⟩ a124 ha124; clear ha116 a116
          replace ho121 := ho121.cast (List.nil_append _)
          have hs125 := hs117.stp hst122 (by intro q hq; have hq0 := ho113.lt q hq; omega)
          have hx126 := hx118.stp hst122 (by intro q hq; have hq0 := ho113.lt q hq; omega)
          have hzhx126 := hst122.size
          have hsp127 : ∀ q, Value.ownBlock v119 = some q → Value.ownBlock v ≠ some q := by intro q hq hb; have hq0 := hf42.lt q hb; rcases hob123 with h | h; (rw [h] at hq; first | (have hq1 := ho113.lt q hq; omega)); (rw [h] at hq; cases hq; omega)
          refine ⟨hs125, ?_⟩
          refine dr_one (i := 6) (by kernel_rfl) ?_
          refine po_eff ha124 rfl rfl rfl rfl (op_buildSlice (s := shStr) (xs := [x24.2.2.1]) (cs := [St x24.2.2.1]) (vs := [(0, St x24.2.2.1)]) (S := fun _ => False) (le := w120.heap.size) ha124 rfl pos_shStr Try.underlying52 ti9 rfl rfl (by decide) (by kernel_rfl) (Els.single (mk_shStr x24.2.2.1 (by first | assumption | omega | exact owS_i64 hent hlen | (simp; done)))) (fun _ h => h.elim)) ?_
          rintro v128 w129 ⟨ho130, he131, hob132⟩ a133 ha133; clear ha124 a124
          have hs134 := hs125.trans' he131
          have hx135 := hx126.trans' he131
          have hzhx135 := he131.size
          replace ho121 := ho121.ext he131
          refine ⟨hs134, ?_⟩
          refine dr_one (i := 7) (by kernel_rfl) ?_
          refine po_eff ha133 rfl rfl rfl rfl (op_append (ts := #[]) (s := shStr) ha133 rfl Try.underlying52 ti9 rfl pos_shStr rfl rfl ho121 (ho130.rds pos_shStr) (by omega) (by omega) (by first | omega | (simp; omega)) (by first | omega | (simp; omega)) (.inl flat_shStr)) ?_
          rintro v136 w137 ⟨ho138, hst139, hob140⟩ a141 ha141; clear ha133 a133
          have hs142 := hs134.stp hst139 (by intro q hq; have hq0 := ho121.lt q hq; omega)
          have hx143 := hx135.stp hst139 (by intro q hq; have hq0 := ho121.lt q hq; omega)
          have hzhx143 := hst139.size
          replace ho130 := ho130.stp hst139 (by intro q hq; have hq0 := ho121.lt q hq; omega)
          have hsp144 : ∀ q, Value.ownBlock v136 = some q → Value.ownBlock v ≠ some q := by intro q hq hb; have hq0 := hf42.lt q hb; rcases hob140 with h | h; (rw [h] at hq; first | (have hq1 := ho121.lt q hq; omega) | exact hsp127 q hq hb); (rw [h] at hq; cases hq; omega)
          have hsp145 : ∀ q, Value.ownBlock v136 = some q → Value.ownBlock v128 ≠ some q := by intro q hq hb; have hq0 := ho130.lt q hb; rcases hob140 with h | h; (rw [h] at hq; first | (have hq1 := ho121.lt q hq; omega)); (rw [h] at hq; cases hq; omega)
          refine ⟨hs142, ?_⟩
          refine dr_one (i := 11) (by kernel_rfl) ?_
          refine po_eff ha141 rfl rfl rfl rfl (op_append (ts := #[]) (s := shStr) ha141 rfl Try.underlying52 ti9 rfl pos_shStr rfl rfl ho138 (hr109.ext pos_shStr hs142) (by omega) (by omega) (by first | omega | (simp; omega)) (by first | omega | (simp; omega)) (.inl flat_shStr)) ?_
          rintro v146 w147 ⟨ho148, hst149, hob150⟩ a151 ha151; clear ha141 a141
          have hs152 := hs142.stp hst149 (by intro q hq; have hq0 := ho138.lt q hq; omega)
          have hx153 := hx143.stp hst149 (by intro q hq; have hq0 := ho138.lt q hq; omega)
          have hzhx153 := hst149.size
          first | replace ho130 := ho130.stp hst149 (by intro q hq; have hq0 := ho138.lt q hq; omega) | replace ho130 := ho130.stpF flat_shStr hst149 (fun q hq => hsp145 q hq)
          have hsp154 : ∀ q, Value.ownBlock v146 = some q → Value.ownBlock v ≠ some q := by intro q hq hb; have hq0 := hf42.lt q hb; rcases hob150 with h | h; (rw [h] at hq; first | (have hq1 := ho138.lt q hq; omega) | exact hsp144 q hq hb); (rw [h] at hq; cases hq; omega)
          have hsp155 : ∀ q, Value.ownBlock v146 = some q → Value.ownBlock v128 ≠ some q := by intro q hq hb; have hq0 := ho130.lt q hb; rcases hob150 with h | h; (rw [h] at hq; first | (have hq1 := ho138.lt q hq; omega) | exact hsp145 q hq hb); (rw [h] at hq; cases hq; omega)
          refine ⟨hs152, ?_⟩
          refine dr_val (i := 12) ha151 rfl (by kernel_rfl) (by kernel_rfl) (by kernel_rfl) rfl rfl rfl hs152 (fun w' hw' => op_assign ha151 rfl rfl) ?_
          intro a156 ha156; clear ha151 a151
          refine dr_end (by kernel_rfl) ?_
          replace hf42 := hf42.ext hs152
          replace hc57 := hc57.ext hs152
          replace hr102 := hr102.ext pos_shStr hs152
          replace hr109 := hr109.ext pos_shStr hs152
          refine block_n ?_
          refine then_n ?_
          refine wp_region_lit ?_
          refine wl_val ha156 rfl rfl rfl (op_move ha156 rfl rfl) ?_
          intro a157 ha157; clear ha156 a156
          refine wl_val ha157 rfl rfl rfl ((op_add ha157 rfl rfl rfl).int (IntWalk.i64_in _ (by omega))) ?_
          intro a158 ha158; clear ha157 a157
          refine wl_val ha158 rfl rfl rfl (op_assign ha158 rfl rfl) ?_
          intro a159 ha159; clear ha158 a158
          refine wpList_nil ?_
          have hins := insU_front (x := x24.2.2.1) hU hk2 (.inl (by omega))
          have hieq : ((acc.take k ++ [x24.2.2.1]) ++ acc.drop k) = insU x24.2.2.1 acc := by rw [hins]; simp
          have hils := insU_len x24.2.2.1 acc
          refine round_end (x := (i, v, acc)) ((i + 1), v146, ((acc.take k ++ [x24.2.2.1]) ++ acc.drop k)) ?_ ?_
          ·
           refine ⟨(Sl.cons_ ha159 rfl rfl (Sl.cons_ ha159 rfl rfl (Sl.cons_ ha159 rfl (int_eq (by omega)) (Sl.nil_ ha159)))), hx153, (ho148.fin (by omega) (by omega) (by omega)), (by omega), (by omega), (by rw [hieq]; omega), (by rw [hieq]; exact insU_up hU), (by rw [drop_cons hx24, spN, if_pos (by assumption)] at hF; rw [hieq]; exact hF)⟩
          ·show (list.length - ((i + 1)) : Nat) < list.length - i; omega
         ·
          refine po_eff ha116 rfl rfl rfl rfl (op_buildSlice (s := shStr) (xs := [x24.2.2.1]) (cs := [St x24.2.2.1]) (vs := [(0, St x24.2.2.1)]) (S := fun _ => False) (le := w112.heap.size) ha116 rfl pos_shStr Try.underlying52 ti9 rfl rfl (by decide) (by kernel_rfl) (Els.single (mk_shStr x24.2.2.1 (by first | assumption | omega | exact owS_i64 hent hlen | (simp; done)))) (fun _ h => h.elim)) ?_
          rintro v160 w161 ⟨ho162, he163, hob164⟩ a165 ha165; clear ha116 a116
          have hs166 := hs117.trans' he163
          have hx167 := hx118.trans' he163
          have hzhx167 := he163.size
          replace ho113 := ho113.ext he163
          refine ⟨hs166, ?_⟩
          refine dr_one (i := 4) (by kernel_rfl) ?_
          refine po_eff ha165 rfl rfl rfl rfl (op_append (ts := #[]) (s := shStr) ha165 rfl Try.underlying52 ti9 rfl pos_shStr rfl rfl ho113 (hr102.ext pos_shStr hs166) (by omega) (by omega) (by first | omega | (simp; omega)) (by first | omega | (simp; omega)) (.inl flat_shStr)) ?_
          rintro v168 w169 ⟨ho170, hst171, hob172⟩ a173 ha173; clear ha165 a165
          replace ho170 := ho170.cast (List.nil_append _)
          have hs174 := hs166.stp hst171 (by intro q hq; have hq0 := ho113.lt q hq; omega)
          have hx175 := hx167.stp hst171 (by intro q hq; have hq0 := ho113.lt q hq; omega)
          have hzhx175 := hst171.size
          replace ho162 := ho162.stp hst171 (by intro q hq; have hq0 := ho113.lt q hq; omega)
          have hsp176 : ∀ q, Value.ownBlock v168 = some q → Value.ownBlock v ≠ some q := by intro q hq hb; have hq0 := hf42.lt q hb; rcases hob172 with h | h; (rw [h] at hq; first | (have hq1 := ho113.lt q hq; omega)); (rw [h] at hq; cases hq; omega)
          have hsp177 : ∀ q, Value.ownBlock v168 = some q → Value.ownBlock v160 ≠ some q := by intro q hq hb; have hq0 := ho162.lt q hb; rcases hob172 with h | h; (rw [h] at hq; first | (have hq1 := ho113.lt q hq; omega)); (rw [h] at hq; cases hq; omega)
          refine ⟨hs174, ?_⟩
          refine dr_one (i := 7) (by kernel_rfl) ?_
          refine po_eff ha173 rfl rfl rfl rfl (op_append (ts := #[]) (s := shStr) ha173 rfl Try.underlying52 ti9 rfl pos_shStr rfl rfl ho170 (ho162.rds pos_shStr) (by omega) (by omega) (by first | omega | (simp; omega)) (by first | omega | (simp; omega)) (.inl flat_shStr)) ?_
          rintro v178 w179 ⟨ho180, hst181, hob182⟩ a183 ha183; clear ha173 a173
          have hs184 := hs174.stp hst181 (by intro q hq; have hq0 := ho170.lt q hq; omega)
          have hx185 := hx175.stp hst181 (by intro q hq; have hq0 := ho170.lt q hq; omega)
          have hzhx185 := hst181.size
          first | replace ho162 := ho162.stp hst181 (by intro q hq; have hq0 := ho170.lt q hq; omega) | replace ho162 := ho162.stpF flat_shStr hst181 (fun q hq => hsp177 q hq)
          have hsp186 : ∀ q, Value.ownBlock v178 = some q → Value.ownBlock v ≠ some q := by intro q hq hb; have hq0 := hf42.lt q hb; rcases hob182 with h | h; (rw [h] at hq; first | (have hq1 := ho170.lt q hq; omega) | exact hsp176 q hq hb); (rw [h] at hq; cases hq; omega)
          have hsp187 : ∀ q, Value.ownBlock v178 = some q → Value.ownBlock v160 ≠ some q := by intro q hq hb; have hq0 := ho162.lt q hb; rcases hob182 with h | h; (rw [h] at hq; first | (have hq1 := ho170.lt q hq; omega) | exact hsp177 q hq hb); (rw [h] at hq; cases hq; omega)
          refine ⟨hs184, ?_⟩
          refine dr_one (i := 11) (by kernel_rfl) ?_
          refine po_eff ha183 rfl rfl rfl rfl (op_append (ts := #[]) (s := shStr) ha183 rfl Try.underlying52 ti9 rfl pos_shStr rfl rfl ho180 (hr109.ext pos_shStr hs184) (by omega) (by omega) (by first | omega | (simp; omega)) (by first | omega | (simp; omega)) (.inl flat_shStr)) ?_
          rintro v188 w189 ⟨ho190, hst191, hob192⟩ a193 ha193; clear ha183 a183
          have hs194 := hs184.stp hst191 (by intro q hq; have hq0 := ho180.lt q hq; omega)
          have hx195 := hx185.stp hst191 (by intro q hq; have hq0 := ho180.lt q hq; omega)
          have hzhx195 := hst191.size
          first | replace ho162 := ho162.stp hst191 (by intro q hq; have hq0 := ho180.lt q hq; omega) | replace ho162 := ho162.stpF flat_shStr hst191 (fun q hq => hsp187 q hq)
          have hsp196 : ∀ q, Value.ownBlock v188 = some q → Value.ownBlock v ≠ some q := by intro q hq hb; have hq0 := hf42.lt q hb; rcases hob192 with h | h; (rw [h] at hq; first | (have hq1 := ho180.lt q hq; omega) | exact hsp186 q hq hb); (rw [h] at hq; cases hq; omega)
          have hsp197 : ∀ q, Value.ownBlock v188 = some q → Value.ownBlock v160 ≠ some q := by intro q hq hb; have hq0 := ho162.lt q hb; rcases hob192 with h | h; (rw [h] at hq; first | (have hq1 := ho180.lt q hq; omega) | exact hsp187 q hq hb); (rw [h] at hq; cases hq; omega)
          refine ⟨hs194, ?_⟩
          refine dr_val (i := 12) ha193 rfl (by kernel_rfl) (by kernel_rfl) (by kernel_rfl) rfl rfl rfl hs194 (fun w' hw' => op_assign ha193 rfl rfl) ?_
          intro a198 ha198; clear ha193 a193
          refine dr_end (by kernel_rfl) ?_
          replace hf42 := hf42.ext hs194
          replace hc57 := hc57.ext hs194
          replace hr102 := hr102.ext pos_shStr hs194
          replace hr109 := hr109.ext pos_shStr hs194
          refine block_n ?_
          refine then_n ?_
          refine wp_region_lit ?_
          refine wl_val ha198 rfl rfl rfl (op_move ha198 rfl rfl) ?_
          intro a199 ha199; clear ha198 a198
          refine wl_val ha199 rfl rfl rfl ((op_add ha199 rfl rfl rfl).int (IntWalk.i64_in _ (by omega))) ?_
          intro a200 ha200; clear ha199 a199
          refine wl_val ha200 rfl rfl rfl (op_assign ha200 rfl rfl) ?_
          intro a201 ha201; clear ha200 a200
          refine wpList_nil ?_
          have hins := insU_front (x := x24.2.2.1) hU hk2 (.inl (by omega))
          have hieq : ((acc.take k ++ [x24.2.2.1]) ++ acc.drop k) = insU x24.2.2.1 acc := by rw [hins]; simp
          have hils := insU_len x24.2.2.1 acc
          refine round_end (x := (i, v, acc)) ((i + 1), v188, ((acc.take k ++ [x24.2.2.1]) ++ acc.drop k)) ?_ ?_
          ·
           refine ⟨(Sl.cons_ ha201 rfl rfl (Sl.cons_ ha201 rfl rfl (Sl.cons_ ha201 rfl (int_eq (by omega)) (Sl.nil_ ha201)))), hx195, (ho190.fin (by omega) (by omega) (by omega)), (by omega), (by omega), (by rw [hieq]; omega), (by rw [hieq]; exact insU_up hU), (by rw [drop_cons hx24, spN, if_pos (by assumption)] at hF; rw [hieq]; exact hF)⟩
          ·show (list.length - ((i + 1)) : Nat) < list.length - i; omega
        ·
         refine po_eff ha110 rfl rfl rfl rfl (op_buildSlice (s := shStr) (xs := [x24.2.2.1]) (cs := [St x24.2.2.1]) (vs := [(0, St x24.2.2.1)]) (S := fun _ => False) (le := w94.heap.size) ha110 rfl pos_shStr Try.underlying52 ti9 rfl rfl (by decide) (by kernel_rfl) (Els.single (mk_shStr x24.2.2.1 (by first | assumption | omega | exact owS_i64 hent hlen | (simp; done)))) (fun _ h => h.elim)) ?_
         rintro v202 w203 ⟨ho204, he205, hob206⟩ a207 ha207; clear ha110 a110
         have hs208 := hs97.trans' he205
         have hx209 := hx96.trans' he205
         have hzhx209 := he205.size
         refine ⟨hs208, ?_⟩
         refine dr_one (i := 0) (by kernel_rfl) ?_
         refine po_eff ha207 rfl rfl rfl rfl (op_buildSlice (s := shStr) (xs := ([] : List Str)) (cs := []) (vs := []) (S := fun _ => False) (le := w203.heap.size) ha207 rfl pos_shStr Try.underlying52 ti9 rfl rfl (by decide) (by kernel_rfl) rfl (fun _ h => h.elim)) ?_
         rintro v210 w211 ⟨ho212, he213, hob214⟩ a215 ha215; clear ha207 a207
         have hs216 := hs208.trans' he213
         have hx217 := hx209.trans' he213
         have hzhx217 := he213.size
         replace ho204 := ho204.ext he213
         refine ⟨hs216, ?_⟩
         refine dr_one (i := 4) (by kernel_rfl) ?_
         refine po_eff ha215 rfl rfl rfl rfl (op_append (ts := #[]) (s := shStr) ha215 rfl Try.underlying52 ti9 rfl pos_shStr rfl rfl ho212 (hr102.ext pos_shStr hs216) (by omega) (by omega) (by first | omega | (simp; omega)) (by first | omega | (simp; omega)) (.inl flat_shStr)) ?_
         rintro v218 w219 ⟨ho220, hst221, hob222⟩ a223 ha223; clear ha215 a215
         replace ho220 := ho220.cast (List.nil_append _)
         have hs224 := hs216.stp hst221 (by intro q hq; have hq0 := ho212.lt q hq; omega)
         have hx225 := hx217.stp hst221 (by intro q hq; have hq0 := ho212.lt q hq; omega)
         have hzhx225 := hst221.size
         replace ho204 := ho204.stp hst221 (by intro q hq; have hq0 := ho212.lt q hq; omega)
         have hsp226 : ∀ q, Value.ownBlock v218 = some q → Value.ownBlock v ≠ some q := by intro q hq hb; have hq0 := hf42.lt q hb; rcases hob222 with h | h; (rw [h] at hq; first | (have hq1 := ho212.lt q hq; omega)); (rw [h] at hq; cases hq; omega)
         have hsp227 : ∀ q, Value.ownBlock v218 = some q → Value.ownBlock v202 ≠ some q := by intro q hq hb; have hq0 := ho204.lt q hb; rcases hob222 with h | h; (rw [h] at hq; first | (have hq1 := ho212.lt q hq; omega)); (rw [h] at hq; cases hq; omega)
         refine ⟨hs224, ?_⟩
         refine dr_one (i := 7) (by kernel_rfl) ?_
         refine po_eff ha223 rfl rfl rfl rfl (op_append (ts := #[]) (s := shStr) ha223 rfl Try.underlying52 ti9 rfl pos_shStr rfl rfl ho220 (ho204.rds pos_shStr) (by omega) (by omega) (by first | omega | (simp; omega)) (by first | omega | (simp; omega)) (.inl flat_shStr)) ?_
         rintro v228 w229 ⟨ho230, hst231, hob232⟩ a233 ha233; clear ha223 a223
         have hs234 := hs224.stp hst231 (by intro q hq; have hq0 := ho220.lt q hq; omega)
         have hx235 := hx225.stp hst231 (by intro q hq; have hq0 := ho220.lt q hq; omega)
         have hzhx235 := hst231.size
         replace ho204 := ho204.stp hst231 (by intro q hq; have hq0 := ho220.lt q hq; omega)
         have hsp236 : ∀ q, Value.ownBlock v228 = some q → Value.ownBlock v ≠ some q := by intro q hq hb; have hq0 := hf42.lt q hb; rcases hob232 with h | h; (rw [h] at hq; first | (have hq1 := ho220.lt q hq; omega) | exact hsp226 q hq hb); (rw [h] at hq; cases hq; omega)
         have hsp237 : ∀ q, Value.ownBlock v228 = some q → Value.ownBlock v202 ≠ some q := by intro q hq hb; have hq0 := ho204.lt q hb; rcases hob232 with h | h; (rw [h] at hq; first | (have hq1 := ho220.lt q hq; omega) | exact hsp227 q hq hb); (rw [h] at hq; cases hq; omega)
         refine ⟨hs234, ?_⟩
         refine dr_one (i := 11) (by kernel_rfl) ?_
         refine po_eff ha233 rfl rfl rfl rfl (op_append (ts := #[]) (s := shStr) ha233 rfl Try.underlying52 ti9 rfl pos_shStr rfl rfl ho230 (hr109.ext pos_shStr hs234) (by omega) (by omega) (by first | omega | (simp; omega)) (by first | omega | (simp; omega)) (.inl flat_shStr)) ?_
         rintro v238 w239 ⟨ho240, hst241, hob242⟩ a243 ha243; clear ha233 a233
         have hs244 := hs234.stp hst241 (by intro q hq; have hq0 := ho230.lt q hq; omega)
         have hx245 := hx235.stp hst241 (by intro q hq; have hq0 := ho230.lt q hq; omega)
         have hzhx245 := hst241.size
         replace ho204 := ho204.stp hst241 (by intro q hq; have hq0 := ho230.lt q hq; omega)
         have hsp246 : ∀ q, Value.ownBlock v238 = some q → Value.ownBlock v ≠ some q := by intro q hq hb; have hq0 := hf42.lt q hb; rcases hob242 with h | h; (rw [h] at hq; first | (have hq1 := ho230.lt q hq; omega) | exact hsp236 q hq hb); (rw [h] at hq; cases hq; omega)
         have hsp247 : ∀ q, Value.ownBlock v238 = some q → Value.ownBlock v202 ≠ some q := by intro q hq hb; have hq0 := ho204.lt q hb; rcases hob242 with h | h; (rw [h] at hq; first | (have hq1 := ho230.lt q hq; omega) | exact hsp237 q hq hb); (rw [h] at hq; cases hq; omega)
         refine ⟨hs244, ?_⟩
         refine dr_val (i := 12) ha243 rfl (by kernel_rfl) (by kernel_rfl) (by kernel_rfl) rfl rfl rfl hs244 (fun w' hw' => op_assign ha243 rfl rfl) ?_
         intro a248 ha248; clear ha243 a243
         refine dr_end (by kernel_rfl) ?_
         replace hf42 := hf42.ext hs244
         replace hc57 := hc57.ext hs244
         replace hr102 := hr102.ext pos_shStr hs244
         replace hr109 := hr109.ext pos_shStr hs244
         refine block_n ?_
         refine then_n ?_
         refine wp_region_lit ?_
         refine wl_val ha248 rfl rfl rfl (op_move ha248 rfl rfl) ?_
         intro a249 ha249; clear ha248 a248
         refine wl_val ha249 rfl rfl rfl ((op_add ha249 rfl rfl rfl).int (IntWalk.i64_in _ (by omega))) ?_
         intro a250 ha250; clear ha249 a249
         refine wl_val ha250 rfl rfl rfl (op_assign ha250 rfl rfl) ?_
         intro a251 ha251; clear ha250 a250
         refine wpList_nil ?_
         have hins := insU_front (x := x24.2.2.1) hU hk2 (.inl (by omega))
         have hieq : ((acc.take k ++ [x24.2.2.1]) ++ acc.drop k) = insU x24.2.2.1 acc := by rw [hins]; simp
         have hils := insU_len x24.2.2.1 acc
         refine round_end (x := (i, v, acc)) ((i + 1), v238, ((acc.take k ++ [x24.2.2.1]) ++ acc.drop k)) ?_ ?_
         ·
          refine ⟨(Sl.cons_ ha251 rfl rfl (Sl.cons_ ha251 rfl rfl (Sl.cons_ ha251 rfl (int_eq (by omega)) (Sl.nil_ ha251)))), hx245, (ho240.fin (by omega) (by omega) (by omega)), (by omega), (by omega), (by rw [hieq]; omega), (by rw [hieq]; exact insU_up hU), (by rw [drop_cons hx24, spN, if_pos (by assumption)] at hF; rw [hieq]; exact hF)⟩
         ·show (list.length - ((i + 1)) : Nat) < list.length - i; omega
       ·
        rw [decide_eq_false c85] at ha84
        refine wl_val ha84 rfl rfl rfl (op_move ha84 rfl rfl) ?_
        intro a252 ha252; clear ha84 a84
        refine wl_val ha252 rfl rfl rfl (op_move ha252 rfl rfl) ?_
        intro a253 ha253; clear ha252 a252
        refine wl_val ha253 rfl rfl rfl (op_indexAddr ha253 rfl Try.underlying52 ti9 rfl rfl (by omega) hi56) ?_
        intro a254 ha254; clear ha253 a253
        refine wl_val ha254 rfl rfl rfl (op_loadH ha254 rfl Try.underlying9 rfl rfl hc57 rfl) ?_
        intro a255 ha255; clear ha254 a254
        refine wl_val ha255 rfl rfl rfl (op_move ha255 rfl rfl) ?_
        intro a256 ha256; clear ha255 a255
        refine wl_val ha256 rfl rfl rfl ((op_sneq ha256 rfl rfl rfl).to (congrArg Value.bool decide_not)) ?_
        intro a257 ha257; clear ha256 a256
        refine wl_val ha257 rfl rfl rfl (op_pick_f ha257 rfl rfl rfl) ?_
        intro a258 ha258; clear ha257 a257
        refine wl_val ha258 rfl rfl rfl (op_pick_t ha258 rfl rfl rfl) ?_
        intro a259 ha259; clear ha258 a258
        refine wpList_nil ?_
        refine then_n ?_
        by_cases c260 : x53 = x24.2.2.1
        ·
         rw [decide_eq_true c260] at ha259
         refine cond_f ha259 rfl ?_
         refine wp_skip ?_
         refine block_n ?_
         refine then_n ?_
         refine wp_region_lit ?_
         refine wl_val ha259 rfl rfl rfl (op_move ha259 rfl rfl) ?_
         intro a261 ha261; clear ha259 a259
         refine wl_val ha261 rfl rfl rfl ((op_add ha261 rfl rfl rfl).int (IntWalk.i64_in _ (by omega))) ?_
         intro a262 ha262; clear ha261 a261
         refine wl_val ha262 rfl rfl rfl (op_assign ha262 rfl rfl) ?_
         intro a263 ha263; clear ha262 a262
         refine wpList_nil ?_
         
         refine round_end (x := (i, v, acc)) ((i + 1), v, acc) ?_ ?_
         ·
          refine ⟨(Sl.cons_ ha263 rfl rfl (Sl.cons_ ha263 rfl rfl (Sl.cons_ ha263 rfl (int_eq (by omega)) (Sl.nil_ ha263)))), hx76, (hf42.fin (by omega) (by omega) (by omega)), (by omega), (by omega), (by omega), (by exact hU), (by rw [drop_cons hx24, spN, if_pos (by assumption), insU_has hU (by have h5 := List.mem_of_getElem? hx53; rwa [c260] at h5)] at hF; exact hF)⟩
         ·show (list.length - ((i + 1)) : Nat) < list.length - i; omega
        ·
         rw [decide_eq_false c260] at ha259
         refine cond_t ha259 rfl ?_
         refine dr_enter Ext follows_mixed ?_
         intro w264 he265
         have hx266 := hx76.trans' he265
         have hzhx266 := he265.size
         replace hf42 := hf42.ext he265
         replace hc57 := hc57.ext he265
         have hs267 : Ext w264 w264 := Ext.rfl' _
         refine dr_val (i := 1) ha259 rfl (by kernel_rfl) (by kernel_rfl) (by kernel_rfl) rfl rfl rfl hs267 (fun w' hw' => op_move ha259 rfl rfl) ?_
         intro a268 ha268; clear ha259 a259
         refine dr_val (i := 2) ha268 rfl (by kernel_rfl) (by kernel_rfl) (by kernel_rfl) rfl rfl rfl hs267 (fun w' hw' => op_move ha268 rfl rfl) ?_
         intro a269 ha269; clear ha268 a268
         obtain ⟨u270, hu271, hr272⟩ := Rds.part (hf42.rds pos_shStr) Try.underlying52 ti9 none (some (.int .i64 (k : Nat))) 0 k (.inl ⟨rfl, rfl⟩) (.inr ⟨.i64, rfl⟩) (by first | omega | (simp; omega)) (by first | omega | (simp; omega))
         replace hr272 := hr272.cast (ys := acc.take k) (by first | rw [List.take_length] | simp)
         refine dr_val (i := 3) ha269 rfl (by kernel_rfl) (by kernel_rfl) (by kernel_rfl) rfl rfl rfl hs267 (fun w' hw' => op_slice_t (by omega) ha269 rfl rfl rfl hu271) ?_
         intro a273 ha273; clear ha269 a269
         refine dr_val (i := 5) ha273 rfl (by kernel_rfl) (by kernel_rfl) (by kernel_rfl) rfl rfl rfl hs267 (fun w' hw' => op_move ha273 rfl rfl) ?_
         intro a274 ha274; clear ha273 a273
         refine dr_val (i := 8) ha274 rfl (by kernel_rfl) (by kernel_rfl) (by kernel_rfl) rfl rfl rfl hs267 (fun w' hw' => op_move ha274 rfl rfl) ?_
         intro a275 ha275; clear ha274 a274
         refine dr_val (i := 9) ha275 rfl (by kernel_rfl) (by kernel_rfl) (by kernel_rfl) rfl rfl rfl hs267 (fun w' hw' => op_move ha275 rfl rfl) ?_
         intro a276 ha276; clear ha275 a275
         obtain ⟨u277, hu278, hr279⟩ := Rds.part (hf42.rds pos_shStr) Try.underlying52 ti9 (some (.int .i64 (k : Nat))) none k acc.length (.inr ⟨.i64, rfl⟩) (.inl ⟨rfl, rfl⟩) (by first | omega | (simp; omega)) (by first | omega | (simp; omega))
         replace hr279 := hr279.cast (ys := acc.drop k) (by first | rw [List.take_length] | simp)
         refine dr_val (i := 10) ha276 rfl (by kernel_rfl) (by kernel_rfl) (by kernel_rfl) rfl rfl rfl hs267 (fun w' hw' => op_slice_f (by omega) ha276 rfl rfl rfl hu278) ?_
         intro a280 ha280; clear ha276 a276
         refine dr_two (i := 0) (j := 6) (by kernel_rfl) ?_ ?_
         ·
          refine po_eff ha280 rfl rfl rfl rfl (op_buildSlice (s := shStr) (xs := ([] : List Str)) (cs := []) (vs := []) (S := fun _ => False) (le := w264.heap.size) ha280 rfl pos_shStr Try.underlying52 ti9 rfl rfl (by decide) (by kernel_rfl) rfl (fun _ h => h.elim)) ?_
          rintro v281 w282 ⟨ho283, he284, hob285⟩ a286 ha286; clear ha280 a280
          have hs287 := hs267.trans' he284
          have hx288 := hx266.trans' he284
          have hzhx288 := he284.size
          refine ⟨hs287, ?_⟩
          refine dr_two (i := 4) (j := 6) (by kernel_rfl) ?_ ?_
          ·
           refine po_eff ha286 rfl rfl rfl rfl (op_append (ts := #[]) (s := shStr) ha286 rfl Try.underlying52 ti9 rfl pos_shStr rfl rfl ho283 (hr272.ext pos_shStr hs287) (by omega) (by omega) (by first | omega | (simp; omega)) (by first | omega | (simp; omega)) (.inl flat_shStr)) ?_
           rintro v289 w290 ⟨ho291, hst292, hob293⟩ a294 ha294; clear ha286 a286
           replace ho291 := ho291.cast (List.nil_append _)
           have hs295 := hs287.stp hst292 (by intro q hq; have hq0 := ho283.lt q hq; omega)
           have hx296 := hx288.stp hst292 (by intro q hq; have hq0 := ho283.lt q hq; omega)
           have hzhx296 := hst292.size
           have hsp297 : ∀ q, Value.ownBlock v289 = some q → Value.ownBlock v ≠ some q := by intro q hq hb; have hq0 := hf42.lt q hb; rcases hob293 with h | h; (rw [h] at hq; first | (have hq1 := ho283.lt q hq; omega)); (rw [h] at hq; cases hq; omega)
           refine ⟨hs295, ?_⟩
           refine dr_one (i := 6) (by kernel_rfl) ?_
           refine po_eff ha294 rfl rfl rfl rfl (op_buildSlice (s := shStr) (xs := [x24.2.2.1]) (cs := [St x24.2.2.1]) (vs := [(0, St x24.2.2.1)]) (S := fun _ => False) (le := w290.heap.size) ha294 rfl pos_shStr Try.underlying52 ti9 rfl rfl (by decide) (by kernel_rfl) (Els.single (mk_shStr x24.2.2.1 (by first | assumption | omega | exact owS_i64 hent hlen | (simp; done)))) (fun _ h => h.elim)) ?_
           rintro v298 w299 ⟨ho300, he301, hob302⟩ a303 ha303; clear ha294 a294
           have hs304 := hs295.trans' he301
           have hx305 := hx296.trans' he301
           have hzhx305 := he301.size
           replace ho291 := ho291.ext he301
           refine ⟨hs304, ?_⟩
           refine dr_one (i := 7) (by kernel_rfl) ?_
           refine po_eff ha303 rfl rfl rfl rfl (op_append (ts := #[]) (s := shStr) ha303 rfl Try.underlying52 ti9 rfl pos_shStr rfl rfl ho291 (ho300.rds pos_shStr) (by omega) (by omega) (by first | omega | (simp; omega)) (by first | omega | (simp; omega)) (.inl flat_shStr)) ?_
           rintro v306 w307 ⟨ho308, hst309, hob310⟩ a311 ha311; clear ha303 a303
           have hs312 := hs304.stp hst309 (by intro q hq; have hq0 := ho291.lt q hq; omega)
           have hx313 := hx305.stp hst309 (by intro q hq; have hq0 := ho291.lt q hq; omega)
           have hzhx313 := hst309.size
           replace ho300 := ho300.stp hst309 (by intro q hq; have hq0 := ho291.lt q hq; omega)
           have hsp314 : ∀ q, Value.ownBlock v306 = some q → Value.ownBlock v ≠ some q := by intro q hq hb; have hq0 := hf42.lt q hb; rcases hob310 with h | h; (rw [h] at hq; first | (have hq1 := ho291.lt q hq; omega) | exact hsp297 q hq hb); (rw [h] at hq; cases hq; omega)
           have hsp315 : ∀ q, Value.ownBlock v306 = some q → Value.ownBlock v298 ≠ some q := by intro q hq hb; have hq0 := ho300.lt q hb; rcases hob310 with h | h; (rw [h] at hq; first | (have hq1 := ho291.lt q hq; omega)); (rw [h] at hq; cases hq; omega)
           refine ⟨hs312, ?_⟩
           refine dr_one (i := 11) (by kernel_rfl) ?_
           refine po_eff ha311 rfl rfl rfl rfl (op_append (ts := #[]) (s := shStr) ha311 rfl Try.underlying52 ti9 rfl pos_shStr rfl rfl ho308 (hr279.ext pos_shStr hs312) (by omega) (by omega) (by first | omega | (simp; omega)) (by first | omega | (simp; omega)) (.inl flat_shStr)) ?_
           rintro v316 w317 ⟨ho318, hst319, hob320⟩ a321 ha321; clear ha311 a311
           have hs322 := hs312.stp hst319 (by intro q hq; have hq0 := ho308.lt q hq; omega)
           have hx323 := hx313.stp hst319 (by intro q hq; have hq0 := ho308.lt q hq; omega)
           have hzhx323 := hst319.size
           first | replace ho300 := ho300.stp hst319 (by intro q hq; have hq0 := ho308.lt q hq; omega) | replace ho300 := ho300.stpF flat_shStr hst319 (fun q hq => hsp315 q hq)
           have hsp324 : ∀ q, Value.ownBlock v316 = some q → Value.ownBlock v ≠ some q := by intro q hq hb; have hq0 := hf42.lt q hb; rcases hob320 with h | h; (rw [h] at hq; first | (have hq1 := ho308.lt q hq; omega) | exact hsp314 q hq hb); (rw [h] at hq; cases hq; omega)
           have hsp325 : ∀ q, Value.ownBlock v316 = some q → Value.ownBlock v298 ≠ some q := by intro q hq hb; have hq0 := ho300.lt q hb; rcases hob320 with h | h; (rw [h] at hq; first | (have hq1 := ho308.lt q hq; omega) | exact hsp315 q hq hb); (rw [h] at hq; cases hq; omega)
           refine ⟨hs322, ?_⟩
           refine dr_val (i := 12) ha321 rfl (by kernel_rfl) (by kernel_rfl) (by kernel_rfl) rfl rfl rfl hs322 (fun w' hw' => op_assign ha321 rfl rfl) ?_
           intro a326 ha326; clear ha321 a321
           refine dr_end (by kernel_rfl) ?_
           replace hf42 := hf42.ext hs322
           replace hc57 := hc57.ext hs322
           replace hr272 := hr272.ext pos_shStr hs322
           replace hr279 := hr279.ext pos_shStr hs322
           refine block_n ?_
           refine then_n ?_
           refine wp_region_lit ?_
           refine wl_val ha326 rfl rfl rfl (op_move ha326 rfl rfl) ?_
           intro a327 ha327; clear ha326 a326
           refine wl_val ha327 rfl rfl rfl ((op_add ha327 rfl rfl rfl).int (IntWalk.i64_in _ (by omega))) ?_
           intro a328 ha328; clear ha327 a327
           refine wl_val ha328 rfl rfl rfl (op_assign ha328 rfl rfl) ?_
           intro a329 ha329; clear ha328 a328
           refine wpList_nil ?_
           have hins := insU_front (x := x24.2.2.1) hU hk2 (.inr ⟨_, hx53, c66, c260⟩)
           have hieq : ((acc.take k ++ [x24.2.2.1]) ++ acc.drop k) = insU x24.2.2.1 acc := by rw [hins]; simp
           have hils := insU_len x24.2.2.1 acc
           refine round_end (x := (i, v, acc)) ((i + 1), v316, ((acc.take k ++ [x24.2.2.1]) ++ acc.drop k)) ?_ ?_
           ·
            refine ⟨(Sl.cons_ ha329 rfl rfl (Sl.cons_ ha329 rfl rfl (Sl.cons_ ha329 rfl (int_eq (by omega)) (Sl.nil_ ha329)))), hx323, (ho318.fin (by omega) (by omega) (by omega)), (by omega), (by omega), (by rw [hieq]; omega), (by rw [hieq]; exact insU_up hU), (by rw [drop_cons hx24, spN, if_pos (by assumption)] at hF; rw [hieq]; exact hF)⟩
           ·show (list.length - ((i + 1)) : Nat) < list.length - i; omega
          ·
           refine po_eff ha286 rfl rfl rfl rfl (op_buildSlice (s := shStr) (xs := [x24.2.2.1]) (cs := [St x24.2.2.1]) (vs := [(0, St x24.2.2.1)]) (S := fun _ => False) (le := w282.heap.size) ha286 rfl pos_shStr Try.underlying52 ti9 rfl rfl (by decide) (by kernel_rfl) (Els.single (mk_shStr x24.2.2.1 (by first | assumption | omega | exact owS_i64 hent hlen | (simp; done)))) (fun _ h => h.elim)) ?_
           rintro v330 w331 ⟨ho332, he333, hob334⟩ a335 ha335; clear ha286 a286
           have hs336 := hs287.trans' he333
           have hx337 := hx288.trans' he333
           have hzhx337 := he333.size
           replace ho283 := ho283.ext he333
           refine ⟨hs336, ?_⟩
           refine dr_one (i := 4) (by kernel_rfl) ?_
           refine po_eff ha335 rfl rfl rfl rfl (op_append (ts := #[]) (s := shStr) ha335 rfl Try.underlying52 ti9 rfl pos_shStr rfl rfl ho283 (hr272.ext pos_shStr hs336) (by omega) (by omega) (by first | omega | (simp; omega)) (by first | omega | (simp; omega)) (.inl flat_shStr)) ?_
           rintro v338 w339 ⟨ho340, hst341, hob342⟩ a343 ha343; clear ha335 a335
           replace ho340 := ho340.cast (List.nil_append _)
           have hs344 := hs336.stp hst341 (by intro q hq; have hq0 := ho283.lt q hq; omega)
           have hx345 := hx337.stp hst341 (by intro q hq; have hq0 := ho283.lt q hq; omega)
           have hzhx345 := hst341.size
           replace ho332 := ho332.stp hst341 (by intro q hq; have hq0 := ho283.lt q hq; omega)
           have hsp346 : ∀ q, Value.ownBlock v338 = some q → Value.ownBlock v ≠ some q := by intro q hq hb; have hq0 := hf42.lt q hb; rcases hob342 with h | h; (rw [h] at hq; first | (have hq1 := ho283.lt q hq; omega)); (rw [h] at hq; cases hq; omega)
           have hsp347 : ∀ q, Value.ownBlock v338 = some q → Value.ownBlock v330 ≠ some q := by intro q hq hb; have hq0 := ho332.lt q hb; rcases hob342 with h | h; (rw [h] at hq; first | (have hq1 := ho283.lt q hq; omega)); (rw [h] at hq; cases hq; omega)
           refine ⟨hs344, ?_⟩
           refine dr_one (i := 7) (by kernel_rfl) ?_
           refine po_eff ha343 rfl rfl rfl rfl (op_append (ts := #[]) (s := shStr) ha343 rfl Try.underlying52 ti9 rfl pos_shStr rfl rfl ho340 (ho332.rds pos_shStr) (by omega) (by omega) (by first | omega | (simp; omega)) (by first | omega | (simp; omega)) (.inl flat_shStr)) ?_
           rintro v348 w349 ⟨ho350, hst351, hob352⟩ a353 ha353; clear ha343 a343
           have hs354 := hs344.stp hst351 (by intro q hq; have hq0 := ho340.lt q hq; omega)
           have hx355 := hx345.stp hst351 (by intro q hq; have hq0 := ho340.lt q hq; omega)
           have hzhx355 := hst351.size
           first | replace ho332 := ho332.stp hst351 (by intro q hq; have hq0 := ho340.lt q hq; omega) | replace ho332 := ho332.stpF flat_shStr hst351 (fun q hq => hsp347 q hq)
           have hsp356 : ∀ q, Value.ownBlock v348 = some q → Value.ownBlock v ≠ some q := by intro q hq hb; have hq0 := hf42.lt q hb; rcases hob352 with h | h; (rw [h] at hq; first | (have hq1 := ho340.lt q hq; omega) | exact hsp346 q hq hb); (rw [h] at hq; cases hq; omega)
           have hsp357 : ∀ q, Value.ownBlock v348 = some q → Value.ownBlock v330 ≠ some q := by intro q hq hb; have hq0 := ho332.lt q hb; rcases hob352 with h | h; (rw [h] at hq; first | (have hq1 := ho340.lt q hq; omega) | exact hsp347 q hq hb); (rw [h] at hq; cases hq; omega)
           refine ⟨hs354, ?_⟩
           refine dr_one (i := 11) (by kernel_rfl) ?_
           refine po_eff ha353 rfl rfl rfl rfl (op_append (ts := #[]) (s := shStr) ha353 rfl Try.underlying52 ti9 rfl pos_shStr rfl rfl ho350 (hr279.ext pos_shStr hs354) (by omega) (by omega) (by first | omega | (simp; omega)) (by first | omega | (simp; omega)) (.inl flat_shStr)) ?_
           rintro v358 w359 ⟨ho360, hst361, hob362⟩ a363 ha363; clear ha353 a353
           have hs364 := hs354.stp hst361 (by intro q hq; have hq0 := ho350.lt q hq; omega)
           have hx365 := hx355.stp hst361 (by intro q hq; have hq0 := ho350.lt q hq; omega)
           have hzhx365 := hst361.size
           first | replace ho332 := ho332.stp hst361 (by intro q hq; have hq0 := ho350.lt q hq; omega) | replace ho332 := ho332.stpF flat_shStr hst361 (fun q hq => hsp357 q hq)
           have hsp366 : ∀ q, Value.ownBlock v358 = some q → Value.ownBlock v ≠ some q := by intro q hq hb; have hq0 := hf42.lt q hb; rcases hob362 with h | h; (rw [h] at hq; first | (have hq1 := ho350.lt q hq; omega) | exact hsp356 q hq hb); (rw [h] at hq; cases hq; omega)
           have hsp367 : ∀ q, Value.ownBlock v358 = some q → Value.ownBlock v330 ≠ some q := by intro q hq hb; have hq0 := ho332.lt q hb; rcases hob362 with h | h; (rw [h] at hq; first | (have hq1 := ho350.lt q hq; omega) | exact hsp357 q hq hb); (rw [h] at hq; cases hq; omega)
           refine ⟨hs364, ?_⟩
           refine dr_val (i := 12) ha363 rfl (by kernel_rfl) (by kernel_rfl) (by kernel_rfl) rfl rfl rfl hs364 (fun w' hw' => op_assign ha363 rfl rfl) ?_
           intro a368 ha368; clear ha363 a363
           refine dr_end (by kernel_rfl) ?_
           replace hf42 := hf42.ext hs364
           replace hc57 := hc57.ext hs364
           replace hr272 := hr272.ext pos_shStr hs364
           replace hr279 := hr279.ext pos_shStr hs364
           refine block_n ?_
           refine then_n ?_
           refine wp_region_lit ?_
           refine wl_val ha368 rfl rfl rfl (op_move ha368 rfl rfl) ?_
           intro a369 ha369; clear ha368 a368
           refine wl_val ha369 rfl rfl rfl ((op_add ha369 rfl rfl rfl).int (IntWalk.i64_in _ (by omega))) ?_
           intro a370 ha370; clear ha369 a369
           refine wl_val ha370 rfl rfl rfl (op_assign ha370 rfl rfl) ?_
           intro a371 ha371; clear ha370 a370
           refine wpList_nil ?_
           have hins := insU_front (x := x24.2.2.1) hU hk2 (.inr ⟨_, hx53, c66, c260⟩)
           have hieq : ((acc.take k ++ [x24.2.2.1]) ++ acc.drop k) = insU x24.2.2.1 acc := by rw [hins]; simp
           have hils := insU_len x24.2.2.1 acc
           refine round_end (x := (i, v, acc)) ((i + 1), v358, ((acc.take k ++ [x24.2.2.1]) ++ acc.drop k)) ?_ ?_
           ·
            refine ⟨(Sl.cons_ ha371 rfl rfl (Sl.cons_ ha371 rfl rfl (Sl.cons_ ha371 rfl (int_eq (by omega)) (Sl.nil_ ha371)))), hx365, (ho360.fin (by omega) (by omega) (by omega)), (by omega), (by omega), (by rw [hieq]; omega), (by rw [hieq]; exact insU_up hU), (by rw [drop_cons hx24, spN, if_pos (by assumption)] at hF; rw [hieq]; exact hF)⟩
           ·show (list.length - ((i + 1)) : Nat) < list.length - i; omega
         ·
          refine po_eff ha280 rfl rfl rfl rfl (op_buildSlice (s := shStr) (xs := [x24.2.2.1]) (cs := [St x24.2.2.1]) (vs := [(0, St x24.2.2.1)]) (S := fun _ => False) (le := w264.heap.size) ha280 rfl pos_shStr Try.underlying52 ti9 rfl rfl (by decide) (by kernel_rfl) (Els.single (mk_shStr x24.2.2.1 (by first | assumption | omega | exact owS_i64 hent hlen | (simp; done)))) (fun _ h => h.elim)) ?_
          rintro v372 w373 ⟨ho374, he375, hob376⟩ a377 ha377; clear ha280 a280
          have hs378 := hs267.trans' he375
          have hx379 := hx266.trans' he375
          have hzhx379 := he375.size
          refine ⟨hs378, ?_⟩
          refine dr_one (i := 0) (by kernel_rfl) ?_
          refine po_eff ha377 rfl rfl rfl rfl (op_buildSlice (s := shStr) (xs := ([] : List Str)) (cs := []) (vs := []) (S := fun _ => False) (le := w373.heap.size) ha377 rfl pos_shStr Try.underlying52 ti9 rfl rfl (by decide) (by kernel_rfl) rfl (fun _ h => h.elim)) ?_
          rintro v380 w381 ⟨ho382, he383, hob384⟩ a385 ha385; clear ha377 a377
          have hs386 := hs378.trans' he383
          have hx387 := hx379.trans' he383
          have hzhx387 := he383.size
          replace ho374 := ho374.ext he383
          refine ⟨hs386, ?_⟩
          refine dr_one (i := 4) (by kernel_rfl) ?_
          refine po_eff ha385 rfl rfl rfl rfl (op_append (ts := #[]) (s := shStr) ha385 rfl Try.underlying52 ti9 rfl pos_shStr rfl rfl ho382 (hr272.ext pos_shStr hs386) (by omega) (by omega) (by first | omega | (simp; omega)) (by first | omega | (simp; omega)) (.inl flat_shStr)) ?_
          rintro v388 w389 ⟨ho390, hst391, hob392⟩ a393 ha393; clear ha385 a385
          replace ho390 := ho390.cast (List.nil_append _)
          have hs394 := hs386.stp hst391 (by intro q hq; have hq0 := ho382.lt q hq; omega)
          have hx395 := hx387.stp hst391 (by intro q hq; have hq0 := ho382.lt q hq; omega)
          have hzhx395 := hst391.size
          replace ho374 := ho374.stp hst391 (by intro q hq; have hq0 := ho382.lt q hq; omega)
          have hsp396 : ∀ q, Value.ownBlock v388 = some q → Value.ownBlock v ≠ some q := by intro q hq hb; have hq0 := hf42.lt q hb; rcases hob392 with h | h; (rw [h] at hq; first | (have hq1 := ho382.lt q hq; omega)); (rw [h] at hq; cases hq; omega)
          have hsp397 : ∀ q, Value.ownBlock v388 = some q → Value.ownBlock v372 ≠ some q := by intro q hq hb; have hq0 := ho374.lt q hb; rcases hob392 with h | h; (rw [h] at hq; first | (have hq1 := ho382.lt q hq; omega)); (rw [h] at hq; cases hq; omega)
          refine ⟨hs394, ?_⟩
          refine dr_one (i := 7) (by kernel_rfl) ?_
          refine po_eff ha393 rfl rfl rfl rfl (op_append (ts := #[]) (s := shStr) ha393 rfl Try.underlying52 ti9 rfl pos_shStr rfl rfl ho390 (ho374.rds pos_shStr) (by omega) (by omega) (by first | omega | (simp; omega)) (by first | omega | (simp; omega)) (.inl flat_shStr)) ?_
          rintro v398 w399 ⟨ho400, hst401, hob402⟩ a403 ha403; clear ha393 a393
          have hs404 := hs394.stp hst401 (by intro q hq; have hq0 := ho390.lt q hq; omega)
          have hx405 := hx395.stp hst401 (by intro q hq; have hq0 := ho390.lt q hq; omega)
          have hzhx405 := hst401.size
          replace ho374 := ho374.stp hst401 (by intro q hq; have hq0 := ho390.lt q hq; omega)
          have hsp406 : ∀ q, Value.ownBlock v398 = some q → Value.ownBlock v ≠ some q := by intro q hq hb; have hq0 := hf42.lt q hb; rcases hob402 with h | h; (rw [h] at hq; first | (have hq1 := ho390.lt q hq; omega) | exact hsp396 q hq hb); (rw [h] at hq; cases hq; omega)
          have hsp407 : ∀ q, Value.ownBlock v398 = some q → Value.ownBlock v372 ≠ some q := by intro q hq hb; have hq0 := ho374.lt q hb; rcases hob402 with h | h; (rw [h] at hq; first | (have hq1 := ho390.lt q hq; omega) | exact hsp397 q hq hb); (rw [h] at hq; cases hq; omega)
          refine ⟨hs404, ?_⟩
          refine dr_one (i := 11) (by kernel_rfl) ?_
          refine po_eff ha403 rfl rfl rfl rfl (op_append (ts := #[]) (s := shStr) ha403 rfl Try.underlying52 ti9 rfl pos_shStr rfl rfl ho400 (hr279.ext pos_shStr hs404) (by omega) (by omega) (by first | omega | (simp; omega)) (by first | omega | (simp; omega)) (.inl flat_shStr)) ?_
          rintro v408 w409 ⟨ho410, hst411, hob412⟩ a413 ha413; clear ha403 a403
          have hs414 := hs404.stp hst411 (by intro q hq; have hq0 := ho400.lt q hq; omega)
          have hx415 := hx405.stp hst411 (by intro q hq; have hq0 := ho400.lt q hq; omega)
          have hzhx415 := hst411.size
          replace ho374 := ho374.stp hst411 (by intro q hq; have hq0 := ho400.lt q hq; omega)
          have hsp416 : ∀ q, Value.ownBlock v408 = some q → Value.ownBlock v ≠ some q := by intro q hq hb; have hq0 := hf42.lt q hb; rcases hob412 with h | h; (rw [h] at hq; first | (have hq1 := ho400.lt q hq; omega) | exact hsp406 q hq hb); (rw [h] at hq; cases hq; omega)
          have hsp417 : ∀ q, Value.ownBlock v408 = some q → Value.ownBlock v372 ≠ some q := by intro q hq hb; have hq0 := ho374.lt q hb; rcases hob412 with h | h; (rw [h] at hq; first | (have hq1 := ho400.lt q hq; omega) | exact hsp407 q hq hb); (rw [h] at hq; cases hq; omega)
          refine ⟨hs414, ?_⟩
          refine dr_val (i := 12) ha413 rfl (by kernel_rfl) (by kernel_rfl) (by kernel_rfl) rfl rfl rfl hs414 (fun w' hw' => op_assign ha413 rfl rfl) ?_
          intro a418 ha418; clear ha413 a413
          refine dr_end (by kernel_rfl) ?_
          replace hf42 := hf42.ext hs414
          replace hc57 := hc57.ext hs414
          replace hr272 := hr272.ext pos_shStr hs414
          replace hr279 := hr279.ext pos_shStr hs414
          refine block_n ?_
          refine then_n ?_
          refine wp_region_lit ?_
          refine wl_val ha418 rfl rfl rfl (op_move ha418 rfl rfl) ?_
          intro a419 ha419; clear ha418 a418
          refine wl_val ha419 rfl rfl rfl ((op_add ha419 rfl rfl rfl).int (IntWalk.i64_in _ (by omega))) ?_
          intro a420 ha420; clear ha419 a419
          refine wl_val ha420 rfl rfl rfl (op_assign ha420 rfl rfl) ?_
          intro a421 ha421; clear ha420 a420
          refine wpList_nil ?_
          have hins := insU_front (x := x24.2.2.1) hU hk2 (.inr ⟨_, hx53, c66, c260⟩)
          have hieq : ((acc.take k ++ [x24.2.2.1]) ++ acc.drop k) = insU x24.2.2.1 acc := by rw [hins]; simp
          have hils := insU_len x24.2.2.1 acc
          refine round_end (x := (i, v, acc)) ((i + 1), v408, ((acc.take k ++ [x24.2.2.1]) ++ acc.drop k)) ?_ ?_
          ·
           refine ⟨(Sl.cons_ ha421 rfl rfl (Sl.cons_ ha421 rfl rfl (Sl.cons_ ha421 rfl (int_eq (by omega)) (Sl.nil_ ha421)))), hx415, (ho410.fin (by omega) (by omega) (by omega)), (by omega), (by omega), (by rw [hieq]; omega), (by rw [hieq]; exact insU_up hU), (by rw [drop_cons hx24, spN, if_pos (by assumption)] at hF; rw [hieq]; exact hF)⟩
          ·show (list.length - ((i + 1)) : Nat) < list.length - i; omega
      ·
       rw [decide_eq_false c79] at ha78
       refine wl_skip ha78 rfl rfl rfl ?_
       intro a422 ha422; clear ha78 a78
       refine wl_skip ha422 rfl rfl rfl ?_
       intro a423 ha423; clear ha422 a422
       refine wl_skip ha423 rfl rfl rfl ?_
       intro a424 ha424; clear ha423 a423
       refine wl_skip ha424 rfl rfl rfl ?_
       intro a425 ha425; clear ha424 a424
       refine wl_skip ha425 rfl rfl rfl ?_
       intro a426 ha426; clear ha425 a425
       refine wl_skip ha426 rfl rfl rfl ?_
       intro a427 ha427; clear ha426 a426
       refine wl_skip ha427 rfl rfl rfl ?_
       intro a428 ha428; clear ha427 a427
       refine wl_skip ha428 rfl rfl rfl ?_
       intro a429 ha429; clear ha428 a428
       refine wl_skip ha429 rfl rfl rfl ?_
       intro a430 ha430; clear ha429 a429
       refine wl_skip ha430 rfl rfl rfl ?_
       intro a431 ha431; clear ha430 a430
       refine wl_skip ha431 rfl rfl rfl ?_
       intro a432 ha432; clear ha431 a431
       refine wl_skip ha432 rfl rfl rfl ?_
       intro a433 ha433; clear ha432 a432
       refine wl_val ha433 rfl rfl rfl (op_pick_f ha433 rfl rfl rfl) ?_
       intro a434 ha434; clear ha433 a433
       refine wpList_nil ?_
       refine then_n ?_
       refine cond_f ha434 rfl ?_
       refine wp_skip ?_
       refine block_n ?_
       refine then_n ?_
       refine wp_region_lit ?_
       refine wl_val ha434 rfl rfl rfl (op_move ha434 rfl rfl) ?_
       intro a435 ha435; clear ha434 a434
       refine wl_val ha435 rfl rfl rfl ((op_add ha435 rfl rfl rfl).int (IntWalk.i64_in _ (by omega))) ?_
       intro a436 ha436; clear ha435 a435
       refine wl_val ha436 rfl rfl rfl (op_assign ha436 rfl rfl) ?_
       intro a437 ha437; clear ha436 a436
       refine wpList_nil ?_
       
       refine round_end (x := (i, v, acc)) ((i + 1), v, acc) ?_ ?_
       ·
        refine ⟨(Sl.cons_ ha437 rfl rfl (Sl.cons_ ha437 rfl rfl (Sl.cons_ ha437 rfl (int_eq (by omega)) (Sl.nil_ ha437)))), hx76, (hf42.fin (by omega) (by omega) (by omega)), (by omega), (by omega), (by omega), (by exact hU), (by rw [drop_cons hx24, spN, if_neg (by assumption)] at hF; exact hF)⟩
       ·show (list.length - ((i + 1)) : Nat) < list.length - i; omega
    ·
     rw [decide_eq_false c50] at ha49
     refine wl_skip ha49 rfl rfl rfl ?_
     intro a438 ha438; clear ha49 a49
     refine wl_skip ha438 rfl rfl rfl ?_
     intro a439 ha439; clear ha438 a438
     refine wl_skip ha439 rfl rfl rfl ?_
     intro a440 ha440; clear ha439 a439
     refine wl_skip ha440 rfl rfl rfl ?_
     intro a441 ha441; clear ha440 a440
     refine wl_skip ha441 rfl rfl rfl ?_
     intro a442 ha442; clear ha441 a441
     refine wl_skip ha442 rfl rfl rfl ?_
     intro a443 ha443; clear ha442 a442
     refine wl_val ha443 rfl rfl rfl (op_pick_f ha443 rfl rfl rfl) ?_
     intro a444 ha444; clear ha443 a443
     refine wpList_nil ?_
     refine then_n ?_
     refine cond_f ha444 rfl ?_
     refine wp_exit ?_
     refine then_e ?_
     refine then_e ?_
     refine block_hit ?_
     refine then_n ?_
     refine wp_seq ?_
     refine wp_region_lit ?_
     refine wl_val ha444 rfl rfl rfl (op_move ha444 rfl rfl) ?_
     intro a445 ha445; clear ha444 a444
     refine wl_val ha445 rfl rfl rfl (op_move ha445 rfl rfl) ?_
     intro a446 ha446; clear ha445 a445
     refine wl_callR ha446 rfl rfl rfl (op_call ha446 rfl cb57 rfl) (c_spec_l33Owes _ v_list list x24.2.2.1 (h_list.ext pos_shEnt hx41) (by first | assumption | omega | (simp; omega)) (by first | assumption | omega | (simp; omega))) ?_
     rintro v447 w448 he449 rfl a450 ha450; clear ha446 a446
     have hx451 := hx41.trans' he449
     have hzhx451 := he449.size
     replace hf42 := hf42.ext he449
     refine wl_val ha450 rfl rfl rfl (op_gtr ha450 rfl rfl rfl) ?_
     intro a452 ha452; clear ha450 a450
     refine wl_val ha452 rfl rfl rfl (op_move ha452 rfl rfl) ?_
     intro a453 ha453; clear ha452 a452
     by_cases c454 : (0 : Int) < (owS x24.2.2.1 list : Int)
     ·
      rw [decide_eq_true c454] at ha453
      refine wl_val ha453 rfl rfl rfl (op_move ha453 rfl rfl) ?_
      intro a455 ha455; clear ha453 a453
      refine wl_val ha455 rfl rfl rfl (op_move ha455 rfl rfl) ?_
      intro a456 ha456; clear ha455 a455
      refine wl_val ha456 rfl rfl rfl (op_len_sl ha456 rfl Try.underlying52 rfl (hf42.rds pos_shStr)) ?_
      intro a457 ha457; clear ha456 a456
      refine wl_val ha457 rfl rfl rfl (op_eql ha457 rfl rfl rfl) ?_
      intro a458 ha458; clear ha457 a457
      refine wl_val ha458 rfl rfl rfl (op_move ha458 rfl rfl) ?_
      intro a459 ha459; clear ha458 a458
      by_cases c460 : ((k : Nat) : Int) = ((acc.length : Nat) : Int)
      ·
       rw [decide_eq_true c460] at ha459
       refine wl_skip ha459 rfl rfl rfl ?_
       intro a461 ha461; clear ha459 a459
       refine wl_skip ha461 rfl rfl rfl ?_
       intro a462 ha462; clear ha461 a461
       refine wl_skip ha462 rfl rfl rfl ?_
       intro a463 ha463; clear ha462 a462
       refine wl_skip ha463 rfl rfl rfl ?_
       intro a464 ha464; clear ha463 a463
       refine wl_skip ha464 rfl rfl rfl ?_
       intro a465 ha465; clear ha464 a464
       refine wl_skip ha465 rfl rfl rfl ?_
       intro a466 ha466; clear ha465 a465
       refine wl_val ha466 rfl rfl rfl (op_pick_t ha466 rfl rfl rfl) ?_
       intro a467 ha467; clear ha466 a466
       refine wl_val ha467 rfl rfl rfl (op_pick_t ha467 rfl rfl rfl) ?_
       intro a468 ha468; clear ha467 a467
       refine wpList_nil ?_
       refine then_n ?_
       refine cond_t ha468 rfl ?_
       refine dr_enter Ext follows_mixed ?_
       intro w469 he470
       have hx471 := hx451.trans' he470
       have hzhx471 := he470.size
       replace hf42 := hf42.ext he470
       have hs472 : Ext w469 w469 := Ext.rfl' _
       refine dr_val (i := 1) ha468 rfl (by kernel_rfl) (by kernel_rfl) (by kernel_rfl) rfl rfl rfl hs472 (fun w' hw' => op_move ha468 rfl rfl) ?_
       intro a473 ha473; clear ha468 a468
       refine dr_val (i := 2) ha473 rfl (by kernel_rfl) (by kernel_rfl) (by kernel_rfl) rfl rfl rfl hs472 (fun w' hw' => op_move ha473 rfl rfl) ?_
       intro a474 ha474; clear ha473 a473
       obtain ⟨u475, hu476, hr477⟩ := Rds.part (hf42.rds pos_shStr) Try.underlying52 ti9 none (some (.int .i64 (k : Nat))) 0 k (.inl ⟨rfl, rfl⟩) (.inr ⟨.i64, rfl⟩) (by first | omega | (simp; omega)) (by first | omega | (simp; omega))
       replace hr477 := hr477.cast (ys := acc.take k) (by first | rw [List.take_length] | simp)
       refine dr_val (i := 3) ha474 rfl (by kernel_rfl) (by kernel_rfl) (by kernel_rfl) rfl rfl rfl hs472 (fun w' hw' => op_slice_t (by omega) ha474 rfl rfl rfl hu476) ?_
       intro a478 ha478; clear ha474 a474
       refine dr_val (i := 5) ha478 rfl (by kernel_rfl) (by kernel_rfl) (by kernel_rfl) rfl rfl rfl hs472 (fun w' hw' => op_move ha478 rfl rfl) ?_
       intro a479 ha479; clear ha478 a478
       refine dr_val (i := 8) ha479 rfl (by kernel_rfl) (by kernel_rfl) (by kernel_rfl) rfl rfl rfl hs472 (fun w' hw' => op_move ha479 rfl rfl) ?_
       intro a480 ha480; clear ha479 a479
       refine dr_val (i := 9) ha480 rfl (by kernel_rfl) (by kernel_rfl) (by kernel_rfl) rfl rfl rfl hs472 (fun w' hw' => op_move ha480 rfl rfl) ?_
       intro a481 ha481; clear ha480 a480
       obtain ⟨u482, hu483, hr484⟩ := Rds.part (hf42.rds pos_shStr) Try.underlying52 ti9 (some (.int .i64 (k : Nat))) none k acc.length (.inr ⟨.i64, rfl⟩) (.inl ⟨rfl, rfl⟩) (by first | omega | (simp; omega)) (by first | omega | (simp; omega))
       replace hr484 := hr484.cast (ys := acc.drop k) (by first | rw [List.take_length] | simp)
       refine dr_val (i := 10) ha481 rfl (by kernel_rfl) (by kernel_rfl) (by kernel_rfl) rfl rfl rfl hs472 (fun w' hw' => op_slice_f (by omega) ha481 rfl rfl rfl hu483) ?_
       intro a485 ha485; clear ha481 a481
       refine dr_two (i := 0) (j := 6) (by kernel_rfl) ?_ ?_
       ·
        refine po_eff ha485 rfl rfl rfl rfl (op_buildSlice (s := shStr) (xs := ([] : List Str)) (cs := []) (vs := []) (S := fun _ => False) (le := w469.heap.size) ha485 rfl pos_shStr Try.underlying52 ti9 rfl rfl (by decide) (by kernel_rfl) rfl (fun _ h => h.elim)) ?_
        rintro v486 w487 ⟨ho488, he489, hob490⟩ a491 ha491; clear ha485 a485
        have hs492 := hs472.trans' he489
        have hx493 := hx471.trans' he489
        have hzhx493 := he489.size
        refine ⟨hs492, ?_⟩
        refine dr_two (i := 4) (j := 6) (by kernel_rfl) ?_ ?_
        ·
         refine po_eff ha491 rfl rfl rfl rfl (op_append (ts := #[]) (s := shStr) ha491 rfl Try.underlying52 ti9 rfl pos_shStr rfl rfl ho488 (hr477.ext pos_shStr hs492) (by omega) (by omega) (by first | omega | (simp; omega)) (by first | omega | (simp; omega)) (.inl flat_shStr)) ?_
         rintro v494 w495 ⟨ho496, hst497, hob498⟩ a499 ha499; clear ha491 a491
         replace ho496 := ho496.cast (List.nil_append _)
         have hs500 := hs492.stp hst497 (by intro q hq; have hq0 := ho488.lt q hq; omega)
         have hx501 := hx493.stp hst497 (by intro q hq; have hq0 := ho488.lt q hq; omega)
         have hzhx501 := hst497.size
         have hsp502 : ∀ q, Value.ownBlock v494 = some q → Value.ownBlock v ≠ some q := by intro q hq hb; have hq0 := hf42.lt q hb; rcases hob498 with h | h; (rw [h] at hq; first | (have hq1 := ho488.lt q hq; omega)); (rw [h] at hq; cases hq; omega)
         refine ⟨hs500, ?_⟩
         refine dr_one (i := 6) (by kernel_rfl) ?_
         refine po_eff ha499 rfl rfl rfl rfl (op_buildSlice (s := shStr) (xs := [x24.2.2.1]) (cs := [St x24.2.2.1]) (vs := [(0, St x24.2.2.1)]) (S := fun _ => False) (le := w495.heap.size) ha499 rfl pos_shStr Try.underlying52 ti9 rfl rfl (by decide) (by kernel_rfl) (Els.single (mk_shStr x24.2.2.1 (by first | assumption | omega | exact owS_i64 hent hlen | (simp; done)))) (fun _ h => h.elim)) ?_
         rintro v503 w504 ⟨ho505, he506, hob507⟩ a508 ha508; clear ha499 a499
         have hs509 := hs500.trans' he506
         have hx510 := hx501.trans' he506
         have hzhx510 := he506.size
         replace ho496 := ho496.ext he506
         refine ⟨hs509, ?_⟩
         refine dr_one (i := 7) (by kernel_rfl) ?_
         refine po_eff ha508 rfl rfl rfl rfl (op_append (ts := #[]) (s := shStr) ha508 rfl Try.underlying52 ti9 rfl pos_shStr rfl rfl ho496 (ho505.rds pos_shStr) (by omega) (by omega) (by first | omega | (simp; omega)) (by first | omega | (simp; omega)) (.inl flat_shStr)) ?_
         rintro v511 w512 ⟨ho513, hst514, hob515⟩ a516 ha516; clear ha508 a508
         have hs517 := hs509.stp hst514 (by intro q hq; have hq0 := ho496.lt q hq; omega)
         have hx518 := hx510.stp hst514 (by intro q hq; have hq0 := ho496.lt q hq; omega)
         have hzhx518 := hst514.size
         replace ho505 := ho505.stp hst514 (by intro q hq; have hq0 := ho496.lt q hq; omega)
         have hsp519 : ∀ q, Value.ownBlock v511 = some q → Value.ownBlock v ≠ some q := by intro q hq hb; have hq0 := hf42.lt q hb; rcases hob515 with h | h; (rw [h] at hq; first | (have hq1 := ho496.lt q hq; omega) | exact hsp502 q hq hb); (rw [h] at hq; cases hq; omega)
         have hsp520 : ∀ q, Value.ownBlock v511 = some q → Value.ownBlock v503 ≠ some q := by intro q hq hb; have hq0 := ho505.lt q hb; rcases hob515 with h | h; (rw [h] at hq; first | (have hq1 := ho496.lt q hq; omega)); (rw [h] at hq; cases hq; omega)
         refine ⟨hs517, ?_⟩
         refine dr_one (i := 11) (by kernel_rfl) ?_
         refine po_eff ha516 rfl rfl rfl rfl (op_append (ts := #[]) (s := shStr) ha516 rfl Try.underlying52 ti9 rfl pos_shStr rfl rfl ho513 (hr484.ext pos_shStr hs517) (by omega) (by omega) (by first | omega | (simp; omega)) (by first | omega | (simp; omega)) (.inl flat_shStr)) ?_
         rintro v521 w522 ⟨ho523, hst524, hob525⟩ a526 ha526; clear ha516 a516
         have hs527 := hs517.stp hst524 (by intro q hq; have hq0 := ho513.lt q hq; omega)
         have hx528 := hx518.stp hst524 (by intro q hq; have hq0 := ho513.lt q hq; omega)
         have hzhx528 := hst524.size
         first | replace ho505 := ho505.stp hst524 (by intro q hq; have hq0 := ho513.lt q hq; omega) | replace ho505 := ho505.stpF flat_shStr hst524 (fun q hq => hsp520 q hq)
         have hsp529 : ∀ q, Value.ownBlock v521 = some q → Value.ownBlock v ≠ some q := by intro q hq hb; have hq0 := hf42.lt q hb; rcases hob525 with h | h; (rw [h] at hq; first | (have hq1 := ho513.lt q hq; omega) | exact hsp519 q hq hb); (rw [h] at hq; cases hq; omega)
         have hsp530 : ∀ q, Value.ownBlock v521 = some q → Value.ownBlock v503 ≠ some q := by intro q hq hb; have hq0 := ho505.lt q hb; rcases hob525 with h | h; (rw [h] at hq; first | (have hq1 := ho513.lt q hq; omega) | exact hsp520 q hq hb); (rw [h] at hq; cases hq; omega)
         refine ⟨hs527, ?_⟩
         refine dr_val (i := 12) ha526 rfl (by kernel_rfl) (by kernel_rfl) (by kernel_rfl) rfl rfl rfl hs527 (fun w' hw' => op_assign ha526 rfl rfl) ?_
         intro a531 ha531; clear ha526 a526
         refine dr_end (by kernel_rfl) ?_
         replace hf42 := hf42.ext hs527
         replace hr477 := hr477.ext pos_shStr hs527
         replace hr484 := hr484.ext pos_shStr hs527
         refine block_n ?_
         refine then_n ?_
         refine wp_region_lit ?_
         refine wl_val ha531 rfl rfl rfl (op_move ha531 rfl rfl) ?_
         intro a532 ha532; clear ha531 a531
         refine wl_val ha532 rfl rfl rfl ((op_add ha532 rfl rfl rfl).int (IntWalk.i64_in _ (by omega))) ?_
         intro a533 ha533; clear ha532 a532
         refine wl_val ha533 rfl rfl rfl (op_assign ha533 rfl rfl) ?_
         intro a534 ha534; clear ha533 a533
         refine wpList_nil ?_
         have hins := insU_front (x := x24.2.2.1) hU hk2 (.inl (by omega))
         have hieq : ((acc.take k ++ [x24.2.2.1]) ++ acc.drop k) = insU x24.2.2.1 acc := by rw [hins]; simp
         have hils := insU_len x24.2.2.1 acc
         refine round_end (x := (i, v, acc)) ((i + 1), v521, ((acc.take k ++ [x24.2.2.1]) ++ acc.drop k)) ?_ ?_
         ·
          refine ⟨(Sl.cons_ ha534 rfl rfl (Sl.cons_ ha534 rfl rfl (Sl.cons_ ha534 rfl (int_eq (by omega)) (Sl.nil_ ha534)))), hx528, (ho523.fin (by omega) (by omega) (by omega)), (by omega), (by omega), (by rw [hieq]; omega), (by rw [hieq]; exact insU_up hU), (by rw [drop_cons hx24, spN, if_pos (by assumption)] at hF; rw [hieq]; exact hF)⟩
         ·show (list.length - ((i + 1)) : Nat) < list.length - i; omega
        ·
         refine po_eff ha491 rfl rfl rfl rfl (op_buildSlice (s := shStr) (xs := [x24.2.2.1]) (cs := [St x24.2.2.1]) (vs := [(0, St x24.2.2.1)]) (S := fun _ => False) (le := w487.heap.size) ha491 rfl pos_shStr Try.underlying52 ti9 rfl rfl (by decide) (by kernel_rfl) (Els.single (mk_shStr x24.2.2.1 (by first | assumption | omega | exact owS_i64 hent hlen | (simp; done)))) (fun _ h => h.elim)) ?_
         rintro v535 w536 ⟨ho537, he538, hob539⟩ a540 ha540; clear ha491 a491
         have hs541 := hs492.trans' he538
         have hx542 := hx493.trans' he538
         have hzhx542 := he538.size
         replace ho488 := ho488.ext he538
         refine ⟨hs541, ?_⟩
         refine dr_one (i := 4) (by kernel_rfl) ?_
         refine po_eff ha540 rfl rfl rfl rfl (op_append (ts := #[]) (s := shStr) ha540 rfl Try.underlying52 ti9 rfl pos_shStr rfl rfl ho488 (hr477.ext pos_shStr hs541) (by omega) (by omega) (by first | omega | (simp; omega)) (by first | omega | (simp; omega)) (.inl flat_shStr)) ?_
         rintro v543 w544 ⟨ho545, hst546, hob547⟩ a548 ha548; clear ha540 a540
         replace ho545 := ho545.cast (List.nil_append _)
         have hs549 := hs541.stp hst546 (by intro q hq; have hq0 := ho488.lt q hq; omega)
         have hx550 := hx542.stp hst546 (by intro q hq; have hq0 := ho488.lt q hq; omega)
         have hzhx550 := hst546.size
         replace ho537 := ho537.stp hst546 (by intro q hq; have hq0 := ho488.lt q hq; omega)
         have hsp551 : ∀ q, Value.ownBlock v543 = some q → Value.ownBlock v ≠ some q := by intro q hq hb; have hq0 := hf42.lt q hb; rcases hob547 with h | h; (rw [h] at hq; first | (have hq1 := ho488.lt q hq; omega)); (rw [h] at hq; cases hq; omega)
         have hsp552 : ∀ q, Value.ownBlock v543 = some q → Value.ownBlock v535 ≠ some q := by intro q hq hb; have hq0 := ho537.lt q hb; rcases hob547 with h | h; (rw [h] at hq; first | (have hq1 := ho488.lt q hq; omega)); (rw [h] at hq; cases hq; omega)
         refine ⟨hs549, ?_⟩
         refine dr_one (i := 7) (by kernel_rfl) ?_
         refine po_eff ha548 rfl rfl rfl rfl (op_append (ts := #[]) (s := shStr) ha548 rfl Try.underlying52 ti9 rfl pos_shStr rfl rfl ho545 (ho537.rds pos_shStr) (by omega) (by omega) (by first | omega | (simp; omega)) (by first | omega | (simp; omega)) (.inl flat_shStr)) ?_
         rintro v553 w554 ⟨ho555, hst556, hob557⟩ a558 ha558; clear ha548 a548
         have hs559 := hs549.stp hst556 (by intro q hq; have hq0 := ho545.lt q hq; omega)
         have hx560 := hx550.stp hst556 (by intro q hq; have hq0 := ho545.lt q hq; omega)
         have hzhx560 := hst556.size
         first | replace ho537 := ho537.stp hst556 (by intro q hq; have hq0 := ho545.lt q hq; omega) | replace ho537 := ho537.stpF flat_shStr hst556 (fun q hq => hsp552 q hq)
         have hsp561 : ∀ q, Value.ownBlock v553 = some q → Value.ownBlock v ≠ some q := by intro q hq hb; have hq0 := hf42.lt q hb; rcases hob557 with h | h; (rw [h] at hq; first | (have hq1 := ho545.lt q hq; omega) | exact hsp551 q hq hb); (rw [h] at hq; cases hq; omega)
         have hsp562 : ∀ q, Value.ownBlock v553 = some q → Value.ownBlock v535 ≠ some q := by intro q hq hb; have hq0 := ho537.lt q hb; rcases hob557 with h | h; (rw [h] at hq; first | (have hq1 := ho545.lt q hq; omega) | exact hsp552 q hq hb); (rw [h] at hq; cases hq; omega)
         refine ⟨hs559, ?_⟩
         refine dr_one (i := 11) (by kernel_rfl) ?_
         refine po_eff ha558 rfl rfl rfl rfl (op_append (ts := #[]) (s := shStr) ha558 rfl Try.underlying52 ti9 rfl pos_shStr rfl rfl ho555 (hr484.ext pos_shStr hs559) (by omega) (by omega) (by first | omega | (simp; omega)) (by first | omega | (simp; omega)) (.inl flat_shStr)) ?_
         rintro v563 w564 ⟨ho565, hst566, hob567⟩ a568 ha568; clear ha558 a558
         have hs569 := hs559.stp hst566 (by intro q hq; have hq0 := ho555.lt q hq; omega)
         have hx570 := hx560.stp hst566 (by intro q hq; have hq0 := ho555.lt q hq; omega)
         have hzhx570 := hst566.size
         first | replace ho537 := ho537.stp hst566 (by intro q hq; have hq0 := ho555.lt q hq; omega) | replace ho537 := ho537.stpF flat_shStr hst566 (fun q hq => hsp562 q hq)
         have hsp571 : ∀ q, Value.ownBlock v563 = some q → Value.ownBlock v ≠ some q := by intro q hq hb; have hq0 := hf42.lt q hb; rcases hob567 with h | h; (rw [h] at hq; first | (have hq1 := ho555.lt q hq; omega) | exact hsp561 q hq hb); (rw [h] at hq; cases hq; omega)
         have hsp572 : ∀ q, Value.ownBlock v563 = some q → Value.ownBlock v535 ≠ some q := by intro q hq hb; have hq0 := ho537.lt q hb; rcases hob567 with h | h; (rw [h] at hq; first | (have hq1 := ho555.lt q hq; omega) | exact hsp562 q hq hb); (rw [h] at hq; cases hq; omega)
         refine ⟨hs569, ?_⟩
         refine dr_val (i := 12) ha568 rfl (by kernel_rfl) (by kernel_rfl) (by kernel_rfl) rfl rfl rfl hs569 (fun w' hw' => op_assign ha568 rfl rfl) ?_
         intro a573 ha573; clear ha568 a568
         refine dr_end (by kernel_rfl) ?_
         replace hf42 := hf42.ext hs569
         replace hr477 := hr477.ext pos_shStr hs569
         replace hr484 := hr484.ext pos_shStr hs569
         refine block_n ?_
         refine then_n ?_
         refine wp_region_lit ?_
         refine wl_val ha573 rfl rfl rfl (op_move ha573 rfl rfl) ?_
         intro a574 ha574; clear ha573 a573
         refine wl_val ha574 rfl rfl rfl ((op_add ha574 rfl rfl rfl).int (IntWalk.i64_in _ (by omega))) ?_
         intro a575 ha575; clear ha574 a574
         refine wl_val ha575 rfl rfl rfl (op_assign ha575 rfl rfl) ?_
         intro a576 ha576; clear ha575 a575
         refine wpList_nil ?_
         have hins := insU_front (x := x24.2.2.1) hU hk2 (.inl (by omega))
         have hieq : ((acc.take k ++ [x24.2.2.1]) ++ acc.drop k) = insU x24.2.2.1 acc := by rw [hins]; simp
         have hils := insU_len x24.2.2.1 acc
         refine round_end (x := (i, v, acc)) ((i + 1), v563, ((acc.take k ++ [x24.2.2.1]) ++ acc.drop k)) ?_ ?_
         ·
          refine ⟨(Sl.cons_ ha576 rfl rfl (Sl.cons_ ha576 rfl rfl (Sl.cons_ ha576 rfl (int_eq (by omega)) (Sl.nil_ ha576)))), hx570, (ho565.fin (by omega) (by omega) (by omega)), (by omega), (by omega), (by rw [hieq]; omega), (by rw [hieq]; exact insU_up hU), (by rw [drop_cons hx24, spN, if_pos (by assumption)] at hF; rw [hieq]; exact hF)⟩
         ·show (list.length - ((i + 1)) : Nat) < list.length - i; omega
       ·
        refine po_eff ha485 rfl rfl rfl rfl (op_buildSlice (s := shStr) (xs := [x24.2.2.1]) (cs := [St x24.2.2.1]) (vs := [(0, St x24.2.2.1)]) (S := fun _ => False) (le := w469.heap.size) ha485 rfl pos_shStr Try.underlying52 ti9 rfl rfl (by decide) (by kernel_rfl) (Els.single (mk_shStr x24.2.2.1 (by first | assumption | omega | exact owS_i64 hent hlen | (simp; done)))) (fun _ h => h.elim)) ?_
        rintro v577 w578 ⟨ho579, he580, hob581⟩ a582 ha582; clear ha485 a485
        have hs583 := hs472.trans' he580
        have hx584 := hx471.trans' he580
        have hzhx584 := he580.size
        refine ⟨hs583, ?_⟩
        refine dr_one (i := 0) (by kernel_rfl) ?_
        refine po_eff ha582 rfl rfl rfl rfl (op_buildSlice (s := shStr) (xs := ([] : List Str)) (cs := []) (vs := []) (S := fun _ => False) (le := w578.heap.size) ha582 rfl pos_shStr Try.underlying52 ti9 rfl rfl (by decide) (by kernel_rfl) rfl (fun _ h => h.elim)) ?_
        rintro v585 w586 ⟨ho587, he588, hob589⟩ a590 ha590; clear ha582 a582
        have hs591 := hs583.trans' he588
        have hx592 := hx584.trans' he588
        have hzhx592 := he588.size
        replace ho579 := ho579.ext he588
        refine ⟨hs591, ?_⟩
        refine dr_one (i := 4) (by kernel_rfl) ?_
        refine po_eff ha590 rfl rfl rfl rfl (op_append (ts := #[]) (s := shStr) ha590 rfl Try.underlying52 ti9 rfl pos_shStr rfl rfl ho587 (hr477.ext pos_shStr hs591) (by omega) (by omega) (by first | omega | (simp; omega)) (by first | omega | (simp; omega)) (.inl flat_shStr)) ?_
        rintro v593 w594 ⟨ho595, hst596, hob597⟩ a598 ha598; clear ha590 a590
        replace ho595 := ho595.cast (List.nil_append _)
        have hs599 := hs591.stp hst596 (by intro q hq; have hq0 := ho587.lt q hq; omega)
        have hx600 := hx592.stp hst596 (by intro q hq; have hq0 := ho587.lt q hq; omega)
        have hzhx600 := hst596.size
        replace ho579 := ho579.stp hst596 (by intro q hq; have hq0 := ho587.lt q hq; omega)
        have hsp601 : ∀ q, Value.ownBlock v593 = some q → Value.ownBlock v ≠ some q := by intro q hq hb; have hq0 := hf42.lt q hb; rcases hob597 with h | h; (rw [h] at hq; first | (have hq1 := ho587.lt q hq; omega)); (rw [h] at hq; cases hq; omega)
        have hsp602 : ∀ q, Value.ownBlock v593 = some q → Value.ownBlock v577 ≠ some q := by intro q hq hb; have hq0 := ho579.lt q hb; rcases hob597 with h | h; (rw [h] at hq; first | (have hq1 := ho587.lt q hq; omega)); (rw [h] at hq; cases hq; omega)
        refine ⟨hs599, ?_⟩
        refine dr_one (i := 7) (by kernel_rfl) ?_
        refine po_eff ha598 rfl rfl rfl rfl (op_append (ts := #[]) (s := shStr) ha598 rfl Try.underlying52 ti9 rfl pos_shStr rfl rfl ho595 (ho579.rds pos_shStr) (by omega) (by omega) (by first | omega | (simp; omega)) (by first | omega | (simp; omega)) (.inl flat_shStr)) ?_
        rintro v603 w604 ⟨ho605, hst606, hob607⟩ a608 ha608; clear ha598 a598
        have hs609 := hs599.stp hst606 (by intro q hq; have hq0 := ho595.lt q hq; omega)
        have hx610 := hx600.stp hst606 (by intro q hq; have hq0 := ho595.lt q hq; omega)
        have hzhx610 := hst606.size
        replace ho579 := ho579.stp hst606 (by intro q hq; have hq0 := ho595.lt q hq; omega)
        have hsp611 : ∀ q, Value.ownBlock v603 = some q → Value.ownBlock v ≠ some q := by intro q hq hb; have hq0 := hf42.lt q hb; rcases hob607 with h | h; (rw [h] at hq; first | (have hq1 := ho595.lt q hq; omega) | exact hsp601 q hq hb); (rw [h] at hq; cases hq; omega)
        have hsp612 : ∀ q, Value.ownBlock v603 = some q → Value.ownBlock v577 ≠ some q := by intro q hq hb; have hq0 := ho579.lt q hb; rcases hob607 with h | h; (rw [h] at hq; first | (have hq1 := ho595.lt q hq; omega) | exact hsp602 q hq hb); (rw [h] at hq; cases hq; omega)
        refine ⟨hs609, ?_⟩
        refine dr_one (i := 11) (by kernel_rfl) ?_
        refine po_eff ha608 rfl rfl rfl rfl (op_append (ts := #[]) (s := shStr) ha608 rfl Try.underlying52 ti9 rfl pos_shStr rfl rfl ho605 (hr484.ext pos_shStr hs609) (by omega) (by omega) (by first | omega | (simp; omega)) (by first | omega | (simp; omega)) (.inl flat_shStr)) ?_
        rintro v613 w614 ⟨ho615, hst616, hob617⟩ a618 ha618; clear ha608 a608
        have hs619 := hs609.stp hst616 (by intro q hq; have hq0 := ho605.lt q hq; omega)
        have hx620 := hx610.stp hst616 (by intro q hq; have hq0 := ho605.lt q hq; omega)
        have hzhx620 := hst616.size
        replace ho579 := ho579.stp hst616 (by intro q hq; have hq0 := ho605.lt q hq; omega)
        have hsp621 : ∀ q, Value.ownBlock v613 = some q → Value.ownBlock v ≠ some q := by intro q hq hb; have hq0 := hf42.lt q hb; rcases hob617 with h | h; (rw [h] at hq; first | (have hq1 := ho605.lt q hq; omega) | exact hsp611 q hq hb); (rw [h] at hq; cases hq; omega)
        have hsp622 : ∀ q, Value.ownBlock v613 = some q → Value.ownBlock v577 ≠ some q := by intro q hq hb; have hq0 := ho579.lt q hb; rcases hob617 with h | h; (rw [h] at hq; first | (have hq1 := ho605.lt q hq; omega) | exact hsp612 q hq hb); (rw [h] at hq; cases hq; omega)
        refine ⟨hs619, ?_⟩
        refine dr_val (i := 12) ha618 rfl (by kernel_rfl) (by kernel_rfl) (by kernel_rfl) rfl rfl rfl hs619 (fun w' hw' => op_assign ha618 rfl rfl) ?_
        intro a623 ha623; clear ha618 a618
        refine dr_end (by kernel_rfl) ?_
        replace hf42 := hf42.ext hs619
        replace hr477 := hr477.ext pos_shStr hs619
        replace hr484 := hr484.ext pos_shStr hs619
        refine block_n ?_
        refine then_n ?_
        refine wp_region_lit ?_
        refine wl_val ha623 rfl rfl rfl (op_move ha623 rfl rfl) ?_
        intro a624 ha624; clear ha623 a623
        refine wl_val ha624 rfl rfl rfl ((op_add ha624 rfl rfl rfl).int (IntWalk.i64_in _ (by omega))) ?_
        intro a625 ha625; clear ha624 a624
        refine wl_val ha625 rfl rfl rfl (op_assign ha625 rfl rfl) ?_
        intro a626 ha626; clear ha625 a625
        refine wpList_nil ?_
        have hins := insU_front (x := x24.2.2.1) hU hk2 (.inl (by omega))
        have hieq : ((acc.take k ++ [x24.2.2.1]) ++ acc.drop k) = insU x24.2.2.1 acc := by rw [hins]; simp
        have hils := insU_len x24.2.2.1 acc
        refine round_end (x := (i, v, acc)) ((i + 1), v613, ((acc.take k ++ [x24.2.2.1]) ++ acc.drop k)) ?_ ?_
        ·
         refine ⟨(Sl.cons_ ha626 rfl rfl (Sl.cons_ ha626 rfl rfl (Sl.cons_ ha626 rfl (int_eq (by omega)) (Sl.nil_ ha626)))), hx620, (ho615.fin (by omega) (by omega) (by omega)), (by omega), (by omega), (by rw [hieq]; omega), (by rw [hieq]; exact insU_up hU), (by rw [drop_cons hx24, spN, if_pos (by assumption)] at hF; rw [hieq]; exact hF)⟩
        ·show (list.length - ((i + 1)) : Nat) < list.length - i; omega
      ·
       rw [decide_eq_false c460] at ha459
       refine wl_val ha459 rfl rfl rfl (op_move ha459 rfl rfl) ?_
       intro a627 ha627; clear ha459 a459
       refine wl_val ha627 rfl rfl rfl (op_move ha627 rfl rfl) ?_
       intro a628 ha628; clear ha627 a627
       obtain ⟨x629, hx629⟩ := get_ex (xs := acc) (j := k) (by first | omega | (simp only [List.length_set, List.length_append, List.length_take, List.length_drop, List.length_singleton]; omega))
       obtain ⟨p630, c631, hi632, hc633, hr634, hs635⟩ := Rds.at_ (hf42.rds pos_shStr) hx629
       obtain ⟨rfl, b636⟩ := inv_shStr hr634
       obtain ⟨_, _⟩ : _ ∧ _ := hs635
       refine wl_val ha628 rfl rfl rfl (op_indexAddr ha628 rfl Try.underlying52 ti9 rfl rfl (by omega) hi632) ?_
       intro a637 ha637; clear ha628 a628
       refine wl_val ha637 rfl rfl rfl (op_loadH ha637 rfl Try.underlying9 rfl rfl hc633 rfl) ?_
       intro a638 ha638; clear ha637 a637
       refine wl_val ha638 rfl rfl rfl (op_move ha638 rfl rfl) ?_
       intro a639 ha639; clear ha638 a638
       refine wl_val ha639 rfl rfl rfl ((op_sneq ha639 rfl rfl rfl).to (congrArg Value.bool decide_not)) ?_
       intro a640 ha640; clear ha639 a639
       refine wl_val ha640 rfl rfl rfl (op_pick_f ha640 rfl rfl rfl) ?_
       intro a641 ha641; clear ha640 a640
       refine wl_val ha641 rfl rfl rfl (op_pick_t ha641 rfl rfl rfl) ?_
       intro a642 ha642; clear ha641 a641
       refine wpList_nil ?_
       refine then_n ?_
       by_cases c643 : x629 = x24.2.2.1
       ·
        rw [decide_eq_true c643] at ha642
        refine cond_f ha642 rfl ?_
        refine wp_skip ?_
        refine block_n ?_
        refine then_n ?_
        refine wp_region_lit ?_
        refine wl_val ha642 rfl rfl rfl (op_move ha642 rfl rfl) ?_
        intro a644 ha644; clear ha642 a642
        refine wl_val ha644 rfl rfl rfl ((op_add ha644 rfl rfl rfl).int (IntWalk.i64_in _ (by omega))) ?_
        intro a645 ha645; clear ha644 a644
        refine wl_val ha645 rfl rfl rfl (op_assign ha645 rfl rfl) ?_
        intro a646 ha646; clear ha645 a645
        refine wpList_nil ?_
        
        refine round_end (x := (i, v, acc)) ((i + 1), v, acc) ?_ ?_
        ·
         refine ⟨(Sl.cons_ ha646 rfl rfl (Sl.cons_ ha646 rfl rfl (Sl.cons_ ha646 rfl (int_eq (by omega)) (Sl.nil_ ha646)))), hx451, (hf42.fin (by omega) (by omega) (by omega)), (by omega), (by omega), (by omega), (by exact hU), (by rw [drop_cons hx24, spN, if_pos (by assumption), insU_has hU (by have h5 := List.mem_of_getElem? hx629; rwa [c643] at h5)] at hF; exact hF)⟩
        ·show (list.length - ((i + 1)) : Nat) < list.length - i; omega
       ·
        rw [decide_eq_false c643] at ha642
        refine cond_t ha642 rfl ?_
        refine dr_enter Ext follows_mixed ?_
        intro w647 he648
        have hx649 := hx451.trans' he648
        have hzhx649 := he648.size
        replace hf42 := hf42.ext he648
        replace hc633 := hc633.ext he648
        have hs650 : Ext w647 w647 := Ext.rfl' _
        refine dr_val (i := 1) ha642 rfl (by kernel_rfl) (by kernel_rfl) (by kernel_rfl) rfl rfl rfl hs650 (fun w' hw' => op_move ha642 rfl rfl) ?_
        intro a651 ha651; clear ha642 a642
        refine dr_val (i := 2) ha651 rfl (by kernel_rfl) (by kernel_rfl) (by kernel_rfl) rfl rfl rfl hs650 (fun w' hw' => op_move ha651 rfl rfl) ?_
        intro a652 ha652; clear ha651 a651
        obtain ⟨u653, hu654, hr655⟩ := Rds.part (hf42.rds pos_shStr) Try.underlying52 ti9 none (some (.int .i64 (k : Nat))) 0 k (.inl ⟨rfl, rfl⟩) (.inr ⟨.i64, rfl⟩) (by first | omega | (simp; omega)) (by first | omega | (simp; omega))
        replace hr655 := hr655.cast (ys := acc.take k) (by first | rw [List.take_length] | simp)
        refine dr_val (i := 3) ha652 rfl (by kernel_rfl) (by kernel_rfl) (by kernel_rfl) rfl rfl rfl hs650 (fun w' hw' => op_slice_t (by omega) ha652 rfl rfl rfl hu654) ?_
        intro a656 ha656; clear ha652 a652
        refine dr_val (i := 5) ha656 rfl (by kernel_rfl) (by kernel_rfl) (by kernel_rfl) rfl rfl rfl hs650 (fun w' hw' => op_move ha656 rfl rfl) ?_
        intro a657 ha657; clear ha656 a656
        refine dr_val (i := 8) ha657 rfl (by kernel_rfl) (by kernel_rfl) (by kernel_rfl) rfl rfl rfl hs650 (fun w' hw' => op_move ha657 rfl rfl) ?_
        intro a658 ha658; clear ha657 a657
        refine dr_val (i := 9) ha658 rfl (by kernel_rfl) (by kernel_rfl) (by kernel_rfl) rfl rfl rfl hs650 (fun w' hw' => op_move ha658 rfl rfl) ?_
        intro a659 ha659; clear ha658 a658
        obtain ⟨u660, hu661, hr662⟩ := Rds.part (hf42.rds pos_shStr) Try.underlying52 ti9 (some (.int .i64 (k : Nat))) none k acc.length (.inr ⟨.i64, rfl⟩) (.inl ⟨rfl, rfl⟩) (by first | omega | (simp; omega)) (by first | omega | (simp; omega))
        replace hr662 := hr662.cast (ys := acc.drop k) (by first | rw [List.take_length] | simp)
        refine dr_val (i := 10) ha659 rfl (by kernel_rfl) (by kernel_rfl) (by kernel_rfl) rfl rfl rfl hs650 (fun w' hw' => op_slice_f (by omega) ha659 rfl rfl rfl hu661) ?_
        intro a663 ha663; clear ha659 a659
        refine dr_two (i := 0) (j := 6) (by kernel_rfl) ?_ ?_
        ·
         refine po_eff ha663 rfl rfl rfl rfl (op_buildSlice (s := shStr) (xs := ([] : List Str)) (cs := []) (vs := []) (S := fun _ => False) (le := w647.heap.size) ha663 rfl pos_shStr Try.underlying52 ti9 rfl rfl (by decide) (by kernel_rfl) rfl (fun _ h => h.elim)) ?_
         rintro v664 w665 ⟨ho666, he667, hob668⟩ a669 ha669; clear ha663 a663
         have hs670 := hs650.trans' he667
         have hx671 := hx649.trans' he667
         have hzhx671 := he667.size
         refine ⟨hs670, ?_⟩
         refine dr_two (i := 4) (j := 6) (by kernel_rfl) ?_ ?_
         ·
          refine po_eff ha669 rfl rfl rfl rfl (op_append (ts := #[]) (s := shStr) ha669 rfl Try.underlying52 ti9 rfl pos_shStr rfl rfl ho666 (hr655.ext pos_shStr hs670) (by omega) (by omega) (by first | omega | (simp; omega)) (by first | omega | (simp; omega)) (.inl flat_shStr)) ?_
          rintro v672 w673 ⟨ho674, hst675, hob676⟩ a677 ha677; clear ha669 a669
          replace ho674 := ho674.cast (List.nil_append _)
          have hs678 := hs670.stp hst675 (by intro q hq; have hq0 := ho666.lt q hq; omega)
          have hx679 := hx671.stp hst675 (by intro q hq; have hq0 := ho666.lt q hq; omega)
          have hzhx679 := hst675.size
          have hsp680 : ∀ q, Value.ownBlock v672 = some q → Value.ownBlock v ≠ some q := by intro q hq hb; have hq0 := hf42.lt q hb; rcases hob676 with h | h; (rw [h] at hq; first | (have hq1 := ho666.lt q hq; omega)); (rw [h] at hq; cases hq; omega)
          refine ⟨hs678, ?_⟩
          refine dr_one (i := 6) (by kernel_rfl) ?_
          refine po_eff ha677 rfl rfl rfl rfl (op_buildSlice (s := shStr) (xs := [x24.2.2.1]) (cs := [St x24.2.2.1]) (vs := [(0, St x24.2.2.1)]) (S := fun _ => False) (le := w673.heap.size) ha677 rfl pos_shStr Try.underlying52 ti9 rfl rfl (by decide) (by kernel_rfl) (Els.single (mk_shStr x24.2.2.1 (by first | assumption | omega | exact owS_i64 hent hlen | (simp; done)))) (fun _ h => h.elim)) ?_
          rintro v681 w682 ⟨ho683, he684, hob685⟩ a686 ha686; clear ha677 a677
          have hs687 := hs678.trans' he684
          have hx688 := hx679.trans' he684
          have hzhx688 := he684.size
          replace ho674 := ho674.ext he684
          refine ⟨hs687, ?_⟩
          refine dr_one (i := 7) (by kernel_rfl) ?_
          refine po_eff ha686 rfl rfl rfl rfl (op_append (ts := #[]) (s := shStr) ha686 rfl Try.underlying52 ti9 rfl pos_shStr rfl rfl ho674 (ho683.rds pos_shStr) (by omega) (by omega) (by first | omega | (simp; omega)) (by first | omega | (simp; omega)) (.inl flat_shStr)) ?_
          rintro v689 w690 ⟨ho691, hst692, hob693⟩ a694 ha694; clear ha686 a686
          have hs695 := hs687.stp hst692 (by intro q hq; have hq0 := ho674.lt q hq; omega)
          have hx696 := hx688.stp hst692 (by intro q hq; have hq0 := ho674.lt q hq; omega)
          have hzhx696 := hst692.size
          replace ho683 := ho683.stp hst692 (by intro q hq; have hq0 := ho674.lt q hq; omega)
          have hsp697 : ∀ q, Value.ownBlock v689 = some q → Value.ownBlock v ≠ some q := by intro q hq hb; have hq0 := hf42.lt q hb; rcases hob693 with h | h; (rw [h] at hq; first | (have hq1 := ho674.lt q hq; omega) | exact hsp680 q hq hb); (rw [h] at hq; cases hq; omega)
          have hsp698 : ∀ q, Value.ownBlock v689 = some q → Value.ownBlock v681 ≠ some q := by intro q hq hb; have hq0 := ho683.lt q hb; rcases hob693 with h | h; (rw [h] at hq; first | (have hq1 := ho674.lt q hq; omega)); (rw [h] at hq; cases hq; omega)
          refine ⟨hs695, ?_⟩
          refine dr_one (i := 11) (by kernel_rfl) ?_
          refine po_eff ha694 rfl rfl rfl rfl (op_append (ts := #[]) (s := shStr) ha694 rfl Try.underlying52 ti9 rfl pos_shStr rfl rfl ho691 (hr662.ext pos_shStr hs695) (by omega) (by omega) (by first | omega | (simp; omega)) (by first | omega | (simp; omega)) (.inl flat_shStr)) ?_
          rintro v699 w700 ⟨ho701, hst702, hob703⟩ a704 ha704; clear ha694 a694
          have hs705 := hs695.stp hst702 (by intro q hq; have hq0 := ho691.lt q hq; omega)
          have hx706 := hx696.stp hst702 (by intro q hq; have hq0 := ho691.lt q hq; omega)
          have hzhx706 := hst702.size
          first | replace ho683 := ho683.stp hst702 (by intro q hq; have hq0 := ho691.lt q hq; omega) | replace ho683 := ho683.stpF flat_shStr hst702 (fun q hq => hsp698 q hq)
          have hsp707 : ∀ q, Value.ownBlock v699 = some q → Value.ownBlock v ≠ some q := by intro q hq hb; have hq0 := hf42.lt q hb; rcases hob703 with h | h; (rw [h] at hq; first | (have hq1 := ho691.lt q hq; omega) | exact hsp697 q hq hb); (rw [h] at hq; cases hq; omega)
          have hsp708 : ∀ q, Value.ownBlock v699 = some q → Value.ownBlock v681 ≠ some q := by intro q hq hb; have hq0 := ho683.lt q hb; rcases hob703 with h | h; (rw [h] at hq; first | (have hq1 := ho691.lt q hq; omega) | exact hsp698 q hq hb); (rw [h] at hq; cases hq; omega)
          refine ⟨hs705, ?_⟩
          refine dr_val (i := 12) ha704 rfl (by kernel_rfl) (by kernel_rfl) (by kernel_rfl) rfl rfl rfl hs705 (fun w' hw' => op_assign ha704 rfl rfl) ?_
          intro a709 ha709; clear ha704 a704
          refine dr_end (by kernel_rfl) ?_
          replace hf42 := hf42.ext hs705
          replace hc633 := hc633.ext hs705
          replace hr655 := hr655.ext pos_shStr hs705
          replace hr662 := hr662.ext pos_shStr hs705
          refine block_n ?_
          refine then_n ?_
          refine wp_region_lit ?_
          refine wl_val ha709 rfl rfl rfl (op_move ha709 rfl rfl) ?_
          intro a710 ha710; clear ha709 a709
          refine wl_val ha710 rfl rfl rfl ((op_add ha710 rfl rfl rfl).int (IntWalk.i64_in _ (by omega))) ?_
          intro a711 ha711; clear ha710 a710
          refine wl_val ha711 rfl rfl rfl (op_assign ha711 rfl rfl) ?_
          intro a712 ha712; clear ha711 a711
          refine wpList_nil ?_
          have hins := insU_front (x := x24.2.2.1) hU hk2 (.inl (by omega))
          have hieq : ((acc.take k ++ [x24.2.2.1]) ++ acc.drop k) = insU x24.2.2.1 acc := by rw [hins]; simp
          have hils := insU_len x24.2.2.1 acc
          refine round_end (x := (i, v, acc)) ((i + 1), v699, ((acc.take k ++ [x24.2.2.1]) ++ acc.drop k)) ?_ ?_
          ·
           refine ⟨(Sl.cons_ ha712 rfl rfl (Sl.cons_ ha712 rfl rfl (Sl.cons_ ha712 rfl (int_eq (by omega)) (Sl.nil_ ha712)))), hx706, (ho701.fin (by omega) (by omega) (by omega)), (by omega), (by omega), (by rw [hieq]; omega), (by rw [hieq]; exact insU_up hU), (by rw [drop_cons hx24, spN, if_pos (by assumption)] at hF; rw [hieq]; exact hF)⟩
          ·show (list.length - ((i + 1)) : Nat) < list.length - i; omega
         ·
          refine po_eff ha669 rfl rfl rfl rfl (op_buildSlice (s := shStr) (xs := [x24.2.2.1]) (cs := [St x24.2.2.1]) (vs := [(0, St x24.2.2.1)]) (S := fun _ => False) (le := w665.heap.size) ha669 rfl pos_shStr Try.underlying52 ti9 rfl rfl (by decide) (by kernel_rfl) (Els.single (mk_shStr x24.2.2.1 (by first | assumption | omega | exact owS_i64 hent hlen | (simp; done)))) (fun _ h => h.elim)) ?_
          rintro v713 w714 ⟨ho715, he716, hob717⟩ a718 ha718; clear ha669 a669
          have hs719 := hs670.trans' he716
          have hx720 := hx671.trans' he716
          have hzhx720 := he716.size
          replace ho666 := ho666.ext he716
          refine ⟨hs719, ?_⟩
          refine dr_one (i := 4) (by kernel_rfl) ?_
          refine po_eff ha718 rfl rfl rfl rfl (op_append (ts := #[]) (s := shStr) ha718 rfl Try.underlying52 ti9 rfl pos_shStr rfl rfl ho666 (hr655.ext pos_shStr hs719) (by omega) (by omega) (by first | omega | (simp; omega)) (by first | omega | (simp; omega)) (.inl flat_shStr)) ?_
          rintro v721 w722 ⟨ho723, hst724, hob725⟩ a726 ha726; clear ha718 a718
          replace ho723 := ho723.cast (List.nil_append _)
          have hs727 := hs719.stp hst724 (by intro q hq; have hq0 := ho666.lt q hq; omega)
          have hx728 := hx720.stp hst724 (by intro q hq; have hq0 := ho666.lt q hq; omega)
          have hzhx728 := hst724.size
          replace ho715 := ho715.stp hst724 (by intro q hq; have hq0 := ho666.lt q hq; omega)
          have hsp729 : ∀ q, Value.ownBlock v721 = some q → Value.ownBlock v ≠ some q := by intro q hq hb; have hq0 := hf42.lt q hb; rcases hob725 with h | h; (rw [h] at hq; first | (have hq1 := ho666.lt q hq; omega)); (rw [h] at hq; cases hq; omega)
          have hsp730 : ∀ q, Value.ownBlock v721 = some q → Value.ownBlock v713 ≠ some q := by intro q hq hb; have hq0 := ho715.lt q hb; rcases hob725 with h | h; (rw [h] at hq; first | (have hq1 := ho666.lt q hq; omega)); (rw [h] at hq; cases hq; omega)
          refine ⟨hs727, ?_⟩
          refine dr_one (i := 7) (by kernel_rfl) ?_
          refine po_eff ha726 rfl rfl rfl rfl (op_append (ts := #[]) (s := shStr) ha726 rfl Try.underlying52 ti9 rfl pos_shStr rfl rfl ho723 (ho715.rds pos_shStr) (by omega) (by omega) (by first | omega | (simp; omega)) (by first | omega | (simp; omega)) (.inl flat_shStr)) ?_
          rintro v731 w732 ⟨ho733, hst734, hob735⟩ a736 ha736; clear ha726 a726
          have hs737 := hs727.stp hst734 (by intro q hq; have hq0 := ho723.lt q hq; omega)
          have hx738 := hx728.stp hst734 (by intro q hq; have hq0 := ho723.lt q hq; omega)
          have hzhx738 := hst734.size
          first | replace ho715 := ho715.stp hst734 (by intro q hq; have hq0 := ho723.lt q hq; omega) | replace ho715 := ho715.stpF flat_shStr hst734 (fun q hq => hsp730 q hq)
          have hsp739 : ∀ q, Value.ownBlock v731 = some q → Value.ownBlock v ≠ some q := by intro q hq hb; have hq0 := hf42.lt q hb; rcases hob735 with h | h; (rw [h] at hq; first | (have hq1 := ho723.lt q hq; omega) | exact hsp729 q hq hb); (rw [h] at hq; cases hq; omega)
          have hsp740 : ∀ q, Value.ownBlock v731 = some q → Value.ownBlock v713 ≠ some q := by intro q hq hb; have hq0 := ho715.lt q hb; rcases hob735 with h | h; (rw [h] at hq; first | (have hq1 := ho723.lt q hq; omega) | exact hsp730 q hq hb); (rw [h] at hq; cases hq; omega)
          refine ⟨hs737, ?_⟩
          refine dr_one (i := 11) (by kernel_rfl) ?_
          refine po_eff ha736 rfl rfl rfl rfl (op_append (ts := #[]) (s := shStr) ha736 rfl Try.underlying52 ti9 rfl pos_shStr rfl rfl ho733 (hr662.ext pos_shStr hs737) (by omega) (by omega) (by first | omega | (simp; omega)) (by first | omega | (simp; omega)) (.inl flat_shStr)) ?_
          rintro v741 w742 ⟨ho743, hst744, hob745⟩ a746 ha746; clear ha736 a736
          have hs747 := hs737.stp hst744 (by intro q hq; have hq0 := ho733.lt q hq; omega)
          have hx748 := hx738.stp hst744 (by intro q hq; have hq0 := ho733.lt q hq; omega)
          have hzhx748 := hst744.size
          first | replace ho715 := ho715.stp hst744 (by intro q hq; have hq0 := ho733.lt q hq; omega) | replace ho715 := ho715.stpF flat_shStr hst744 (fun q hq => hsp740 q hq)
          have hsp749 : ∀ q, Value.ownBlock v741 = some q → Value.ownBlock v ≠ some q := by intro q hq hb; have hq0 := hf42.lt q hb; rcases hob745 with h | h; (rw [h] at hq; first | (have hq1 := ho733.lt q hq; omega) | exact hsp739 q hq hb); (rw [h] at hq; cases hq; omega)
          have hsp750 : ∀ q, Value.ownBlock v741 = some q → Value.ownBlock v713 ≠ some q := by intro q hq hb; have hq0 := ho715.lt q hb; rcases hob745 with h | h; (rw [h] at hq; first | (have hq1 := ho733.lt q hq; omega) | exact hsp740 q hq hb); (rw [h] at hq; cases hq; omega)
          refine ⟨hs747, ?_⟩
          refine dr_val (i := 12) ha746 rfl (by kernel_rfl) (by kernel_rfl) (by kernel_rfl) rfl rfl rfl hs747 (fun w' hw' => op_assign ha746 rfl rfl) ?_
          intro a751 ha751; clear ha746 a746
          refine dr_end (by kernel_rfl) ?_
          replace hf42 := hf42.ext hs747
          replace hc633 := hc633.ext hs747
          replace hr655 := hr655.ext pos_shStr hs747
          replace hr662 := hr662.ext pos_shStr hs747
          refine block_n ?_
          refine then_n ?_
          refine wp_region_lit ?_
          refine wl_val ha751 rfl rfl rfl (op_move ha751 rfl rfl) ?_
          intro a752 ha752; clear ha751 a751
          refine wl_val ha752 rfl rfl rfl ((op_add ha752 rfl rfl rfl).int (IntWalk.i64_in _ (by omega))) ?_
          intro a753 ha753; clear ha752 a752
          refine wl_val ha753 rfl rfl rfl (op_assign ha753 rfl rfl) ?_
          intro a754 ha754; clear ha753 a753
          refine wpList_nil ?_
          have hins := insU_front (x := x24.2.2.1) hU hk2 (.inl (by omega))
          have hieq : ((acc.take k ++ [x24.2.2.1]) ++ acc.drop k) = insU x24.2.2.1 acc := by rw [hins]; simp
          have hils := insU_len x24.2.2.1 acc
          refine round_end (x := (i, v, acc)) ((i + 1), v741, ((acc.take k ++ [x24.2.2.1]) ++ acc.drop k)) ?_ ?_
          ·
           refine ⟨(Sl.cons_ ha754 rfl rfl (Sl.cons_ ha754 rfl rfl (Sl.cons_ ha754 rfl (int_eq (by omega)) (Sl.nil_ ha754)))), hx748, (ho743.fin (by omega) (by omega) (by omega)), (by omega), (by omega), (by rw [hieq]; omega), (by rw [hieq]; exact insU_up hU), (by rw [drop_cons hx24, spN, if_pos (by assumption)] at hF; rw [hieq]; exact hF)⟩
          ·show (list.length - ((i + 1)) : Nat) < list.length - i; omega
        ·
         refine po_eff ha663 rfl rfl rfl rfl (op_buildSlice (s := shStr) (xs := [x24.2.2.1]) (cs := [St x24.2.2.1]) (vs := [(0, St x24.2.2.1)]) (S := fun _ => False) (le := w647.heap.size) ha663 rfl pos_shStr Try.underlying52 ti9 rfl rfl (by decide) (by kernel_rfl) (Els.single (mk_shStr x24.2.2.1 (by first | assumption | omega | exact owS_i64 hent hlen | (simp; done)))) (fun _ h => h.elim)) ?_
         rintro v755 w756 ⟨ho757, he758, hob759⟩ a760 ha760; clear ha663 a663
         have hs761 := hs650.trans' he758
         have hx762 := hx649.trans' he758
         have hzhx762 := he758.size
         refine ⟨hs761, ?_⟩
         refine dr_one (i := 0) (by kernel_rfl) ?_
         refine po_eff ha760 rfl rfl rfl rfl (op_buildSlice (s := shStr) (xs := ([] : List Str)) (cs := []) (vs := []) (S := fun _ => False) (le := w756.heap.size) ha760 rfl pos_shStr Try.underlying52 ti9 rfl rfl (by decide) (by kernel_rfl) rfl (fun _ h => h.elim)) ?_
         rintro v763 w764 ⟨ho765, he766, hob767⟩ a768 ha768; clear ha760 a760
         have hs769 := hs761.trans' he766
         have hx770 := hx762.trans' he766
         have hzhx770 := he766.size
         replace ho757 := ho757.ext he766
         refine ⟨hs769, ?_⟩
         refine dr_one (i := 4) (by kernel_rfl) ?_
         refine po_eff ha768 rfl rfl rfl rfl (op_append (ts := #[]) (s := shStr) ha768 rfl Try.underlying52 ti9 rfl pos_shStr rfl rfl ho765 (hr655.ext pos_shStr hs769) (by omega) (by omega) (by first | omega | (simp; omega)) (by first | omega | (simp; omega)) (.inl flat_shStr)) ?_
         rintro v771 w772 ⟨ho773, hst774, hob775⟩ a776 ha776; clear ha768 a768
         replace ho773 := ho773.cast (List.nil_append _)
         have hs777 := hs769.stp hst774 (by intro q hq; have hq0 := ho765.lt q hq; omega)
         have hx778 := hx770.stp hst774 (by intro q hq; have hq0 := ho765.lt q hq; omega)
         have hzhx778 := hst774.size
         replace ho757 := ho757.stp hst774 (by intro q hq; have hq0 := ho765.lt q hq; omega)
         have hsp779 : ∀ q, Value.ownBlock v771 = some q → Value.ownBlock v ≠ some q := by intro q hq hb; have hq0 := hf42.lt q hb; rcases hob775 with h | h; (rw [h] at hq; first | (have hq1 := ho765.lt q hq; omega)); (rw [h] at hq; cases hq; omega)
         have hsp780 : ∀ q, Value.ownBlock v771 = some q → Value.ownBlock v755 ≠ some q := by intro q hq hb; have hq0 := ho757.lt q hb; rcases hob775 with h | h; (rw [h] at hq; first | (have hq1 := ho765.lt q hq; omega)); (rw [h] at hq; cases hq; omega)
         refine ⟨hs777, ?_⟩
         refine dr_one (i := 7) (by kernel_rfl) ?_
         refine po_eff ha776 rfl rfl rfl rfl (op_append (ts := #[]) (s := shStr) ha776 rfl Try.underlying52 ti9 rfl pos_shStr rfl rfl ho773 (ho757.rds pos_shStr) (by omega) (by omega) (by first | omega | (simp; omega)) (by first | omega | (simp; omega)) (.inl flat_shStr)) ?_
         rintro v781 w782 ⟨ho783, hst784, hob785⟩ a786 ha786; clear ha776 a776
         have hs787 := hs777.stp hst784 (by intro q hq; have hq0 := ho773.lt q hq; omega)
         have hx788 := hx778.stp hst784 (by intro q hq; have hq0 := ho773.lt q hq; omega)
         have hzhx788 := hst784.size
         replace ho757 := ho757.stp hst784 (by intro q hq; have hq0 := ho773.lt q hq; omega)
         have hsp789 : ∀ q, Value.ownBlock v781 = some q → Value.ownBlock v ≠ some q := by intro q hq hb; have hq0 := hf42.lt q hb; rcases hob785 with h | h; (rw [h] at hq; first | (have hq1 := ho773.lt q hq; omega) | exact hsp779 q hq hb); (rw [h] at hq; cases hq; omega)
         have hsp790 : ∀ q, Value.ownBlock v781 = some q → Value.ownBlock v755 ≠ some q := by intro q hq hb; have hq0 := ho757.lt q hb; rcases hob785 with h | h; (rw [h] at hq; first | (have hq1 := ho773.lt q hq; omega) | exact hsp780 q hq hb); (rw [h] at hq; cases hq; omega)
         refine ⟨hs787, ?_⟩
         refine dr_one (i := 11) (by kernel_rfl) ?_
         refine po_eff ha786 rfl rfl rfl rfl (op_append (ts := #[]) (s := shStr) ha786 rfl Try.underlying52 ti9 rfl pos_shStr rfl rfl ho783 (hr662.ext pos_shStr hs787) (by omega) (by omega) (by first | omega | (simp; omega)) (by first | omega | (simp; omega)) (.inl flat_shStr)) ?_
         rintro v791 w792 ⟨ho793, hst794, hob795⟩ a796 ha796; clear ha786 a786
         have hs797 := hs787.stp hst794 (by intro q hq; have hq0 := ho783.lt q hq; omega)
         have hx798 := hx788.stp hst794 (by intro q hq; have hq0 := ho783.lt q hq; omega)
         have hzhx798 := hst794.size
         replace ho757 := ho757.stp hst794 (by intro q hq; have hq0 := ho783.lt q hq; omega)
         have hsp799 : ∀ q, Value.ownBlock v791 = some q → Value.ownBlock v ≠ some q := by intro q hq hb; have hq0 := hf42.lt q hb; rcases hob795 with h | h; (rw [h] at hq; first | (have hq1 := ho783.lt q hq; omega) | exact hsp789 q hq hb); (rw [h] at hq; cases hq; omega)
         have hsp800 : ∀ q, Value.ownBlock v791 = some q → Value.ownBlock v755 ≠ some q := by intro q hq hb; have hq0 := ho757.lt q hb; rcases hob795 with h | h; (rw [h] at hq; first | (have hq1 := ho783.lt q hq; omega) | exact hsp790 q hq hb); (rw [h] at hq; cases hq; omega)
         refine ⟨hs797, ?_⟩
         refine dr_val (i := 12) ha796 rfl (by kernel_rfl) (by kernel_rfl) (by kernel_rfl) rfl rfl rfl hs797 (fun w' hw' => op_assign ha796 rfl rfl) ?_
         intro a801 ha801; clear ha796 a796
         refine dr_end (by kernel_rfl) ?_
         replace hf42 := hf42.ext hs797
         replace hc633 := hc633.ext hs797
         replace hr655 := hr655.ext pos_shStr hs797
         replace hr662 := hr662.ext pos_shStr hs797
         refine block_n ?_
         refine then_n ?_
         refine wp_region_lit ?_
         refine wl_val ha801 rfl rfl rfl (op_move ha801 rfl rfl) ?_
         intro a802 ha802; clear ha801 a801
         refine wl_val ha802 rfl rfl rfl ((op_add ha802 rfl rfl rfl).int (IntWalk.i64_in _ (by omega))) ?_
         intro a803 ha803; clear ha802 a802
         refine wl_val ha803 rfl rfl rfl (op_assign ha803 rfl rfl) ?_
         intro a804 ha804; clear ha803 a803
         refine wpList_nil ?_
         have hins := insU_front (x := x24.2.2.1) hU hk2 (.inl (by omega))
         have hieq : ((acc.take k ++ [x24.2.2.1]) ++ acc.drop k) = insU x24.2.2.1 acc := by rw [hins]; simp
         have hils := insU_len x24.2.2.1 acc
         refine round_end (x := (i, v, acc)) ((i + 1), v791, ((acc.take k ++ [x24.2.2.1]) ++ acc.drop k)) ?_ ?_
         ·
          refine ⟨(Sl.cons_ ha804 rfl rfl (Sl.cons_ ha804 rfl rfl (Sl.cons_ ha804 rfl (int_eq (by omega)) (Sl.nil_ ha804)))), hx798, (ho793.fin (by omega) (by omega) (by omega)), (by omega), (by omega), (by rw [hieq]; omega), (by rw [hieq]; exact insU_up hU), (by rw [drop_cons hx24, spN, if_pos (by assumption)] at hF; rw [hieq]; exact hF)⟩
         ·show (list.length - ((i + 1)) : Nat) < list.length - i; omega
     ·
      rw [decide_eq_false c454] at ha453
      refine wl_skip ha453 rfl rfl rfl ?_
      intro a805 ha805; clear ha453 a453
      refine wl_skip ha805 rfl rfl rfl ?_
      intro a806 ha806; clear ha805 a805
      refine wl_skip ha806 rfl rfl rfl ?_
      intro a807 ha807; clear ha806 a806
      refine wl_skip ha807 rfl rfl rfl ?_
      intro a808 ha808; clear ha807 a807
      refine wl_skip ha808 rfl rfl rfl ?_
      intro a809 ha809; clear ha808 a808
      refine wl_skip ha809 rfl rfl rfl ?_
      intro a810 ha810; clear ha809 a809
      refine wl_skip ha810 rfl rfl rfl ?_
      intro a811 ha811; clear ha810 a810
      refine wl_skip ha811 rfl rfl rfl ?_
      intro a812 ha812; clear ha811 a811
      refine wl_skip ha812 rfl rfl rfl ?_
      intro a813 ha813; clear ha812 a812
      refine wl_skip ha813 rfl rfl rfl ?_
      intro a814 ha814; clear ha813 a813
      refine wl_skip ha814 rfl rfl rfl ?_
      intro a815 ha815; clear ha814 a814
      refine wl_skip ha815 rfl rfl rfl ?_
      intro a816 ha816; clear ha815 a815
      refine wl_val ha816 rfl rfl rfl (op_pick_f ha816 rfl rfl rfl) ?_
      intro a817 ha817; clear ha816 a816
      refine wpList_nil ?_
      refine then_n ?_
      refine cond_f ha817 rfl ?_
      refine wp_skip ?_
      refine block_n ?_
      refine then_n ?_
      refine wp_region_lit ?_
      refine wl_val ha817 rfl rfl rfl (op_move ha817 rfl rfl) ?_
      intro a818 ha818; clear ha817 a817
      refine wl_val ha818 rfl rfl rfl ((op_add ha818 rfl rfl rfl).int (IntWalk.i64_in _ (by omega))) ?_
      intro a819 ha819; clear ha818 a818
      refine wl_val ha819 rfl rfl rfl (op_assign ha819 rfl rfl) ?_
      intro a820 ha820; clear ha819 a819
      refine wpList_nil ?_
      
      refine round_end (x := (i, v, acc)) ((i + 1), v, acc) ?_ ?_
      ·
       refine ⟨(Sl.cons_ ha820 rfl rfl (Sl.cons_ ha820 rfl rfl (Sl.cons_ ha820 rfl (int_eq (by omega)) (Sl.nil_ ha820)))), hx451, (hf42.fin (by omega) (by omega) (by omega)), (by omega), (by omega), (by omega), (by exact hU), (by rw [drop_cons hx24, spN, if_neg (by assumption)] at hF; exact hF)⟩
      ·show (list.length - ((i + 1)) : Nat) < list.length - i; omega
  ·
   rw [decide_eq_false c21] at ha20
   refine cond_f ha20 rfl ?_
   refine wp_exit ?_
   refine then_e ?_
   refine then_e ?_
   refine block_hit ?_
   refine then_n ?_
   refine wp_seq ?_
   refine wp_region_lit ?_
   refine wl_eff ha20 rfl rfl rfl (op_buildSlice (s := shI64) (xs := ([] : List Int)) (cs := []) (vs := []) (S := fun _ => False) (le := w12.heap.size) ha20 rfl pos_shI64 Try.underlying45 ti2 rfl rfl (by decide) (by kernel_rfl) rfl (fun _ h => h.elim)) ?_
   rintro v821 w822 ⟨ho823, he824, hob825⟩ a826 ha826; clear ha20 a20
   have hx827 := hx13.trans' he824
   have hzhx827 := he824.size
   replace hf14 := hf14.ext he824
   refine wl_val ha826 rfl rfl rfl (op_assign ha826 rfl rfl) ?_
   intro a828 ha828; clear ha826 a826
   refine wpList_nil ?_
   refine then_n ?_
   refine wp_seq ?_
   refine wp_seq ?_
   refine wp_region_lit ?_
   refine wl_val ha828 rfl rfl rfl (op_assign ha828 rfl rfl) ?_
   intro a829 ha829; clear ha828 a828
   refine wpList_nil ?_
   refine then_n ?_
   refine wp_block ?_
   refine loop_inv (X := Nat × Value × (List Int)) (fun (⟨j, v2, acc2⟩ : Nat × Value × (List Int)) fr wl => Sl 84 fr [(0, v_list), (4, v), (8, v2), (9, .int .i64 ((j : Nat) : Int))] ∧ Ext w0 wl ∧ Own shStr 9 w0.heap.size w0.heap.size w12.heap.size wl v acc ∧ Own shI64 2 w12.heap.size w12.heap.size wl.heap.size wl v2 acc2 ∧ w822.heap.size ≤ wl.heap.size ∧ (j ≤ acc.length) ∧ (acc2.length ≤ j) ∧ (acc2 = (acc.take j).map fun n => owS n list)) (fun (⟨j, v2, acc2⟩ : Nat × Value × (List Int)) => acc.length - j) (0, v821, ([] : List Int)) ?_ ?_
   ·
    exact ⟨(Sl.cons_ ha829 rfl rfl (Sl.cons_ ha829 rfl rfl (Sl.cons_ ha829 rfl rfl (Sl.cons_ ha829 rfl (int_eq (by omega)) (Sl.nil_ ha829))))), hx827, hf14, (ho823.fin (by omega) (by omega) (by omega)), (by omega), (by omega), (by simp), (by simp)⟩
   ·
    clear ha829 a829
    rintro ⟨j, v2, acc2⟩ a834 w830 ⟨ha834, hx831, hf832, hf833, hzl835, hj, hl2, hG⟩
    have hzhx831 := hx831.size
    refine wp_seq ?_
    refine wp_seq ?_
    refine wp_region_lit ?_
    refine wl_val ha834 rfl rfl rfl (op_move ha834 rfl rfl) ?_
    intro a836 ha836; clear ha834 a834
    refine wl_val ha836 rfl rfl rfl (op_move ha836 rfl rfl) ?_
    intro a837 ha837; clear ha836 a836
    refine wl_val ha837 rfl rfl rfl (op_len_sl ha837 rfl Try.underlying52 rfl (hf832.rds pos_shStr)) ?_
    intro a838 ha838; clear ha837 a837
    refine wl_val ha838 rfl rfl rfl (op_lss ha838 rfl rfl rfl) ?_
    intro a839 ha839; clear ha838 a838
    refine wpList_nil ?_
    refine then_n ?_
    by_cases c840 : ((j : Nat) : Int) < ((acc.length : Nat) : Int)
    ·
     rw [decide_eq_true c840] at ha839
     refine cond_t ha839 rfl ?_
     refine wp_skip ?_
     refine then_n ?_
     refine wp_seq ?_
     refine wp_block ?_
     refine wp_region_lit ?_
     refine wl_val ha839 rfl rfl rfl (op_move ha839 rfl rfl) ?_
     intro a841 ha841; clear ha839 a839
     refine wl_val ha841 rfl rfl rfl (op_move ha841 rfl rfl) ?_
     intro a842 ha842; clear ha841 a841
     refine wl_val ha842 rfl rfl rfl (op_move ha842 rfl rfl) ?_
     intro a843 ha843; clear ha842 a842
     refine wl_val ha843 rfl rfl rfl (op_move ha843 rfl rfl) ?_
     intro a844 ha844; clear ha843 a843
     obtain ⟨x845, hx845⟩ := get_ex (xs := acc) (j := j) (by first | omega | (simp only [List.length_set, List.length_append, List.length_take, List.length_drop, List.length_singleton]; omega))
     obtain ⟨p846, c847, hi848, hc849, hr850, hs851⟩ := Rds.at_ (hf832.rds pos_shStr) hx845
     obtain ⟨rfl, b852⟩ := inv_shStr hr850
     obtain ⟨_, _⟩ : _ ∧ _ := hs851
     refine wl_val ha844 rfl rfl rfl (op_indexAddr ha844 rfl Try.underlying52 ti9 rfl rfl (by omega) hi848) ?_
     intro a853 ha853; clear ha844 a844
     refine wl_val ha853 rfl rfl rfl (op_loadH ha853 rfl Try.underlying9 rfl rfl hc849 rfl) ?_
     intro a854 ha854; clear ha853 a853
     refine wl_callR ha854 rfl rfl rfl (op_call ha854 rfl cb57 rfl) (c_spec_l33Owes _ v_list list x845 (h_list.ext pos_shEnt hx831) (by first | assumption | omega | (simp; omega)) (by first | assumption | omega | (simp; omega))) ?_
     rintro v855 w856 he857 rfl a858 ha858; clear ha854 a854
     have hx859 := hx831.trans' he857
     have hzhx859 := he857.size
     replace hf832 := hf832.ext he857
     replace hf833 := hf833.ext he857
     replace hc849 := hc849.ext he857
     refine wl_eff ha858 rfl rfl rfl (op_buildSlice (s := shI64) (xs := [(owS x845 list : Int)]) (cs := [.int .i64 (owS x845 list : Int)]) (vs := [(0, .int .i64 (owS x845 list : Int))]) (S := fun _ => False) (le := w856.heap.size) ha858 rfl pos_shI64 Try.underlying45 ti2 rfl rfl (by decide) (by kernel_rfl) (Els.single (mk_shI64 ((owS x845 list : Int)) (by first | assumption | omega | exact owS_i64 hent hlen | (simp; done)))) (fun _ h => h.elim)) ?_
     rintro v860 w861 ⟨ho862, he863, hob864⟩ a865 ha865; clear ha858 a858
     have hx866 := hx859.trans' he863
     have hzhx866 := he863.size
     replace hf832 := hf832.ext he863
     replace hf833 := hf833.ext he863
     replace hc849 := hc849.ext he863
     refine wl_eff ha865 rfl rfl rfl (op_append (ts := #[]) (s := shI64) ha865 rfl Try.underlying45 ti2 rfl pos_shI64 rfl rfl hf833 (ho862.rds pos_shI64) (by omega) (by omega) (by first | omega | (simp; omega)) (by first | omega | (simp; omega)) (.inl flat_shI64)) ?_
     rintro v867 w868 ⟨ho869, hst870, hob871⟩ a872 ha872; clear ha865 a865
     have hx873 := hx866.stp hst870 (by intro q hq; have hq0 := hf833.lt q hq; omega)
     have hzhx873 := hst870.size
     replace hf832 := hf832.stp hst870 (by intro q hq; have hq0 := hf833.lt q hq; omega)
     replace ho862 := ho862.stp hst870 (by intro q hq; have hq0 := hf833.lt q hq; omega)
     have hsp874 : ∀ q, Value.ownBlock v867 = some q → Value.ownBlock v860 ≠ some q := by intro q hq hb; have hq0 := ho862.lt q hb; rcases hob871 with h | h; (rw [h] at hq; first | (have hq1 := hf833.lt q hq; omega)); (rw [h] at hq; cases hq; omega)
     refine wl_val ha872 rfl rfl rfl (op_assign ha872 rfl rfl) ?_
     intro a875 ha875; clear ha872 a872
     refine wpList_nil ?_
     refine block_n ?_
     refine then_n ?_
     refine wp_region_lit ?_
     refine wl_val ha875 rfl rfl rfl (op_move ha875 rfl rfl) ?_
     intro a876 ha876; clear ha875 a875
     refine wl_val ha876 rfl rfl rfl ((op_add ha876 rfl rfl rfl).int (IntWalk.i64_in _ (by omega))) ?_
     intro a877 ha877; clear ha876 a876
     refine wl_val ha877 rfl rfl rfl (op_assign ha877 rfl rfl) ?_
     intro a878 ha878; clear ha877 a877
     refine wpList_nil ?_
     refine round_end (x := (j, v2, acc2)) ((j + 1), v867, (acc2 ++ [(owS x845 list : Int)])) ?_ ?_
     ·
      refine ⟨(Sl.cons_ ha878 rfl rfl (Sl.cons_ ha878 rfl rfl (Sl.cons_ ha878 rfl rfl (Sl.cons_ ha878 rfl (int_eq (by omega)) (Sl.nil_ ha878))))), hx873, hf832, (ho869.fin (by omega) (by omega) (by omega)), (by omega), (by omega), (by first | omega | (simp; omega)), (by rw [take_snoc hx845, List.map_append, ← hG]; rfl)⟩
     ·show (acc.length - ((j + 1)) : Nat) < acc.length - j; omega
    ·
     rw [decide_eq_false c840] at ha839
     refine cond_f ha839 rfl ?_
     refine wp_exit ?_
     refine then_e ?_
     refine then_e ?_
     refine block_hit ?_
     refine then_n ?_
     refine wp_seq ?_
     refine wp_region_lit ?_
     refine wl_val ha839 rfl rfl rfl (op_move ha839 rfl rfl) ?_
     intro a879 ha879; clear ha839 a839
     refine wl_val ha879 rfl rfl rfl (op_move ha879 rfl rfl) ?_
     intro a880 ha880; clear ha879 a879
     refine wl_val ha880 rfl rfl rfl (op_assign ha880 rfl rfl) ?_
     intro a881 ha881; clear ha880 a880
     refine wl_val ha881 rfl rfl rfl (op_assign ha881 rfl rfl) ?_
     intro a882 ha882; clear ha881 a881
     refine wpList_nil ?_
     refine then_n ?_
     refine wp_ret ?_
     refine ret2 ha882 rfl rfl rfl ?_
     clear ha882 a882
     rw [drop_nil (by omega), spN, spN_eq g0] at hF
     have hE : acc = dbtN list := hF
     refine ret_mk hx831 ⟨v, v2, (tup2_eq rfl rfl), ?_, ?_⟩
     ·refine (hf832.fin (by omega) (by omega) (by omega)).cast ?_
      exact hE
     ·refine (hf833.fin (by omega) (by omega) (by omega)).cast ?_
      rw [hG, List.take_of_length_le (by omega), hE]; rfl


end Go.Proofs.Ytocedhbefdaefaa
