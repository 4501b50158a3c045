/- Tables read. -/
import Derived.Test.YtjpldgicibnkcaaW10
import Derived.Test.YtjpldgicibnkcaaV1
namespace Go.Proofs.Ytjpldgicibnkcaa
open Go Go.RowKit

/-- The rows of a text, by a reader of numbers. -/
def rwO (rd : Str → Int × Bool) : List Str → Option (List Int)
  | [] => some []
  | c :: cs => if (rd (trS c)).2 then (rwO rd cs).map ((rd (trS c)).1 :: ·) else none
def rsO (rd : Str → Int × Bool) : List Str → Option (List (List Int))
  | [] => some []
  | l :: ls => match rwO rd (spl 124 [] l) with
    | none => none
    | some r => (rsO rd ls).map (r :: ·)
def hdsR (s : Str) : List Str := (spl 124 [] (((spl 10 [] s)[0]?).getD [])).map trS
def lnsS (s : Str) : List Str := ((spl 10 [] s).drop 1).dropLast
def neB (l : Str) : Bool := !decide (l = [])
def lnsI (s : Str) : List Str := ((spl 10 [] s).drop 1).filter neB
def prS (s : Str) : Option Tab := (rsO l01Sg (lnsS s)).map fun r => (hdsR s, r)
def prI (s : Str) : Option Tab := (rsO rdV (lnsI s)).map fun r => (hdsR s, r)
def okT (s : Str) (t : Tab) : Bool := tabB t && decide (txS t = s)
def rdS (s : Str) : Option Tab := match prS s with
  | none => none
  | some t => if okT s t then some t else none
def rdI (s : Str) : Option Tab := if 4000 < s.length then none else match prI s with
  | none => none
  | some t => if okT s t then some t else none
theorem rwO_bad {rd : Str → Int × Bool} {c : Str} {cs : List Str} (h : (rd (trS c)).2 = false) : rwO rd (c :: cs) = none := by rw [rwO, if_neg (by rw [h]; decide)]
theorem rwO_ok {rd : Str → Int × Bool} {c : Str} {cs : List Str} (h : (rd (trS c)).2 = true) : rwO rd (c :: cs) = (rwO rd cs).map ((rd (trS c)).1 :: ·) := by rw [rwO, if_pos h]
theorem rsO_bad {rd : Str → Int × Bool} {l : Str} {ls : List Str} (h : rwO rd (spl 124 [] l) = none) : rsO rd (l :: ls) = none := by rw [rsO, h]
theorem rsO_ok {rd : Str → Int × Bool} {l : Str} {ls : List Str} {r : List Int} (h : rwO rd (spl 124 [] l) = some r) : rsO rd (l :: ls) = (rsO rd ls).map (r :: ·) := by rw [rsO, h]
theorem mp_app {α : Type} {x : Option (List α)} {acc : List α} {n : α} : ((x.map (n :: ·)).map (acc ++ ·)) = x.map ((acc ++ [n]) ++ ·) := by cases x <;> simp
theorem mp_none {α : Type} {f : List α → List α} : (none : Option (List α)).map f = none := rfl
theorem dl_cons {α : Type} {xs : List α} {i : Nat} {x : α} (h : xs[i]? = some x) (h2 : i + 1 < xs.length) : (xs.drop i).dropLast = x :: (xs.drop (i + 1)).dropLast := by
  rw [drop_cons h]
  cases e : xs.drop (i + 1) with
  | nil => have := congrArg List.length e; simp at this; omega
  | cons y ys => rfl
theorem dl_nil {α : Type} {xs : List α} {i : Nat} (h : xs.length ≤ i + 1) : (xs.drop i).dropLast = [] := by
  apply List.eq_nil_of_length_eq_zero; rw [List.length_dropLast, List.length_drop]; omega
theorem fl_skip {l : Str} {ls : List Str} (h : l = []) : (l :: ls).filter neB = ls.filter neB := List.filter_cons_of_neg (by simp [neB, h])
theorem fl_take {l : Str} {ls : List Str} (h : ¬ l = []) : (l :: ls).filter neB = l :: ls.filter neB := List.filter_cons_of_pos (by simp [neB, h])
theorem spl_pos (b : UInt8) : ∀ (s cur : Str), 1 ≤ (spl b cur s).length
  | [], _ => Nat.le_refl _
  | c :: s, cur => by
    rw [spl]; split
    · simp
    · exact spl_pos b s _
theorem spl_el {b : UInt8} : ∀ {s cur x : Str}, x ∈ spl b cur s → x.length ≤ cur.length + s.length
  | [], cur, x, h => by rw [spl, List.mem_singleton] at h; subst h; simp
  | c :: s, cur, x, h => by
    rw [spl] at h; split at h
    · rcases List.mem_cons.1 h with e | e
      · subst e; omega
      · have := spl_el e; simp only [List.length_nil, List.length_cons] at *; omega
    · have := spl_el h; simp only [List.length_append, List.length_cons, List.length_nil] at *; omega
theorem trL_len : ∀ s : Str, (trL s).length ≤ s.length
  | [] => Nat.le_refl _
  | c :: s => by
    have := trL_len s
    rw [trL]; split
    · rw [List.length_cons]; omega
    · exact Nat.le_refl _
theorem trS_len (s : Str) : (trS s).length ≤ s.length := by
  unfold trS trR
  rw [List.length_reverse]
  refine Nat.le_trans (trL_len _) ?_
  rw [List.length_reverse]; exact trL_len s
theorem spl_one {b : UInt8} : ∀ {A cur : Str}, (∀ c ∈ A, c ≠ b) → spl b cur A = [cur ++ A]
  | [], cur, _ => by rw [spl, List.append_nil]
  | c :: A, cur, h => by rw [spl, if_neg (h c (by simp)), spl_one fun d hd => h d (by simp [hd])]; simp
theorem spl_app {b : UInt8} : ∀ {A B cur : Str}, (∀ c ∈ A, c ≠ b) → spl b cur (A ++ b :: B) = (cur ++ A) :: spl b [] B
  | [], B, cur, _ => by rw [List.nil_append, spl, if_pos rfl, List.append_nil]
  | c :: A, B, cur, h => by rw [List.cons_append, spl, if_neg (h c (by simp)), spl_app fun d hd => h d (by simp [hd])]; simp
theorem spl_join : ∀ {ws : List Str} {w cur : Str} {i : Nat}, (∀ c ∈ w, c ≠ 124) → (∀ v ∈ ws, ∀ c ∈ v, c ≠ 124) → spl 124 cur (w ++ joinG [124] (i + 1) ws) = (cur ++ w) :: ws
  | [], w, cur, i, h, _ => by rw [joinG, List.append_nil, spl_one h]
  | v :: vs, w, cur, i, h, h2 => by
    rw [joinG, if_pos (by omega)]
    show spl 124 cur (w ++ 124 :: (v ++ joinG [124] (i + 1 + 1) vs)) = _
    rw [spl_app h, spl_join (h2 v (by simp)) fun u hu => h2 u (by simp [hu])]; rfl
theorem spl_line {ws : List Str} (h0 : ws ≠ []) (h : ∀ v ∈ ws, ∀ c ∈ v, c ≠ 124) : spl 124 [] (joinG [124] 0 ws) = ws := by
  match ws, h0 with
  | w :: ws, _ =>
    rw [joinG, if_neg (by omega)]
    show spl 124 [] (w ++ joinG [124] (0 + 1) ws) = _
    rw [spl_join (h w (by simp)) fun u hu => h u (by simp [hu])]; rfl
theorem trL_bl : ∀ (n : Nat) (s : Str), trL (List.replicate n 32 ++ s) = trL s
  | 0, s => rfl
  | n + 1, s => by rw [List.replicate_succ, List.cons_append, trL, if_pos rfl, trL_bl n s]
/-- Texts that no blank touches. -/
def solid (s : Str) : Prop := s ≠ [] ∧ ∀ c ∈ s, c ≠ 32
theorem trL_so {s : Str} (h : solid s) : trL s = s := by
  match s, h with
  | c :: s, h => rw [trL, if_neg (h.2 c (by simp))]
theorem so_rev {s : Str} (h : solid s) : solid s.reverse := ⟨by simpa using h.1, fun c hc => h.2 c (by simpa using hc)⟩
theorem trR_so {s : Str} (h : solid s) : trR s = s := by unfold trR; rw [trL_so (so_rev h), List.reverse_reverse]
theorem trS_fill {w : Int} {f : Bool} {s : Str} (h : solid s) : trS (fillS w f s) = s := by
  unfold trS fillS
  cases f with
  | true =>
    rw [if_pos rfl]; unfold blS
    rw [trL_bl, trL_so h, trR_so h]
  | false =>
    rw [if_neg (by decide)]
    have e : trL (s ++ blS (w - (s.length : Nat))) = s ++ blS (w - (s.length : Nat)) := by
      match s, h with
      | c :: s, h => rw [List.cons_append, trL, if_neg (h.2 c (by simp))]
    rw [e]; unfold trR blS
    rw [List.reverse_append, List.reverse_replicate, trL_bl, trL_so (so_rev h), List.reverse_reverse]
theorem fill_mem {w : Int} {f : Bool} {s : Str} {c : UInt8} (h : c ∈ fillS w f s) : c = 32 ∨ c ∈ s := by
  unfold fillS blS at h
  split at h
  · rcases List.mem_append.1 h with q | q
    · exact .inl (List.eq_of_mem_replicate q)
    · exact .inr q
  · rcases List.mem_append.1 h with q | q
    · exact .inr q
    · exact .inl (List.eq_of_mem_replicate q)
theorem dec_mem {n : Int} {c : UInt8} (h : c ∈ decS n) : c = 45 ∨ (48 ≤ c.toNat ∧ c.toNat ≤ 57) := by
  unfold decS at h
  split at h
  · rcases List.mem_cons.1 h with q | q
    · exact .inl q
    · exact .inr (digs_dig _ _ (Nat.le_refl _) c q)
  · exact .inr (digs_dig _ _ (Nat.le_refl _) c h)
theorem dec_ne {n : Int} : decS n ≠ [] := by
  intro e
  unfold decS at e
  split at e
  · cases e
  · have := digs_pos n.toNat; rw [e] at this; simp at this
theorem dec_so (n : Int) : solid (decS n) := ⟨dec_ne, fun c hc e => by subst e; rcases dec_mem hc with q | q <;> revert q <;> decide⟩
theorem word_ch {s : Str} (h : wordB s = true) {c : UInt8} (hc : c ∈ s) : 97 ≤ c.toNat ∧ c.toNat ≤ 122 := by
  unfold wordB at h; simp only [Bool.and_eq_true, List.all_eq_true] at h
  have := h.2 c hc; unfold loB at this; simpa using this
theorem word_so {s : Str} (h : wordB s = true) : solid s := by
  refine ⟨fun e => ?_, fun c hc e => ?_⟩
  · subst e; cases h
  · subst e; have := word_ch h hc; revert this; decide
theorem hcs_tr (t : Tab) : ∀ (hs : List Str) (c : Nat), (∀ s ∈ hs, wordB s = true) → (hcs t c hs).map trS = hs
  | [], _, _ => rfl
  | s :: hs, c, h => by rw [hcs, List.map_cons, trS_fill (word_so (h s (by simp))), hcs_tr t hs (c + 1) fun x hx => h x (by simp [hx])]
theorem hcs_ch (t : Tab) : ∀ (hs : List Str) (c : Nat), (∀ s ∈ hs, wordB s = true) → ∀ w ∈ hcs t c hs, ∀ b ∈ w, b ≠ 124 ∧ b ≠ 10
  | [], _, _, w, hw => by cases hw
  | s :: hs, c, h, w, hw => by
    rw [hcs] at hw
    rcases List.mem_cons.1 hw with e | e
    · subst e; intro b hb
      rcases fill_mem hb with q | q
      · subst q; decide
      · have := word_ch (h s (by simp)) q
        constructor <;> (intro e; subst e; revert this; decide)
    · exact hcs_ch t hs (c + 1) (fun x hx => h x (by simp [hx])) w e
theorem rcs_ch (t : Tab) : ∀ (ns : List Int) (c : Nat), ∀ w ∈ rcs t c ns, ∀ b ∈ w, b ≠ 124 ∧ b ≠ 10
  | [], _, w, hw => by cases hw
  | n :: ns, c, w, hw => by
    rw [rcs] at hw
    rcases List.mem_cons.1 hw with e | e
    · subst e; intro b hb
      rcases fill_mem hb with q | q
      · subst q; decide
      · rcases dec_mem q with q | q
        · subst q; decide
        · constructor <;> (intro e; subst e; revert q; decide)
    · exact rcs_ch t ns (c + 1) w e
theorem rwO_rcs (t : Tab) {rd : Str → Int × Bool} (hr : ∀ n : Int, -1000000000000 ≤ n → n ≤ 1000000000000 → rd (decS n) = (n, true)) : ∀ (ns : List Int) (c : Nat), (∀ n ∈ ns, -1000000000000 ≤ n ∧ n ≤ 1000000000000) → rwO rd (rcs t c ns) = some ns
  | [], _, _ => rfl
  | n :: ns, c, h => by
    have hn := h n (by simp)
    have e : rd (trS (fillS (wdC t c) true (decS n))) = (n, true) := by rw [trS_fill (dec_so n), hr n hn.1 hn.2]
    rw [rcs, rwO_ok (by rw [e]), e, rwO_rcs t hr ns (c + 1) fun m hm => h m (by simp [hm])]; rfl
theorem join_ch {b : UInt8} (hb : b ≠ 124) : ∀ (ws : List Str) (i : Nat), (∀ w ∈ ws, ∀ c ∈ w, c ≠ b) → ∀ c ∈ joinG [124] i ws, c ≠ b
  | [], _, _, c, hc => by cases hc
  | w :: ws, i, h, c, hc => by
    rw [joinG] at hc
    rcases List.mem_append.1 hc with q | q
    · split at q
      · rw [List.mem_singleton] at q; subst q; exact Ne.symm hb
      · cases q
    · rcases List.mem_append.1 q with q | q
      · exact h w (by simp) c q
      · exact join_ch hb ws (i + 1) (fun v hv => h v (by simp [hv])) c q
theorem rows_spl {t : Tab} (ht : tabB t = true) : ∀ (rs : List (List Int)), (∀ r ∈ rs, r ∈ t.2) → spl 10 [] (rowsS t rs) = rs.map (fun r => joinG [124] 0 (rcs t 0 r)) ++ [[]]
  | [], _ => rfl
  | r :: rs, h => by
    rw [rowsS, lineS, List.append_assoc]
    show spl 10 [] (joinG [124] 0 (rcs t 0 r) ++ 10 :: rowsS t rs) = _
    rw [spl_app (join_ch (by decide) _ 0 fun w hw c hc => (rcs_ch t r 0 w hw c hc).2), rows_spl ht rs fun q hq => h q (by simp [hq])]
    rfl
theorem tx_spl {t : Tab} (ht : tabB t = true) : spl 10 [] (txS t) = joinG [124] 0 (hcs t 0 t.1) :: (t.2.map (fun r => joinG [124] 0 (rcs t 0 r)) ++ [[]]) := by
  unfold txS
  rw [lineS, List.append_assoc]
  show spl 10 [] (joinG [124] 0 (hcs t 0 t.1) ++ 10 :: rowsS t t.2) = _
  rw [spl_app (join_ch (by decide) _ 0 fun w hw c hc => (hcs_ch t t.1 0 (tab_heads ht) w hw c hc).2), rows_spl ht t.2 fun _ h => h]
  rfl
theorem ne_of_len {α : Type} {xs : List α} (h : 1 ≤ xs.length) : xs ≠ [] := by intro e; subst e; simp at h
theorem hdsR_tx {t : Tab} (ht : tabB t = true) : hdsR (txS t) = t.1 := by
  unfold hdsR; rw [tx_spl ht]
  show (spl 124 [] (joinG [124] 0 (hcs t 0 t.1))).map trS = _
  rw [spl_line (ne_of_len (by rw [hcs_len]; exact (tab_bd ht).1)) fun v hv c hc => (hcs_ch t t.1 0 (tab_heads ht) v hv c hc).1, hcs_tr t t.1 0 (tab_heads ht)]
theorem rsO_tx {t : Tab} (ht : tabB t = true) {rd : Str → Int × Bool} (hr : ∀ n : Int, -1000000000000 ≤ n → n ≤ 1000000000000 → rd (decS n) = (n, true)) : ∀ (rs : List (List Int)), (∀ r ∈ rs, r ∈ t.2) → rsO rd (rs.map fun r => joinG [124] 0 (rcs t 0 r)) = some rs
  | [], _ => rfl
  | r :: rs, h => by
    have hrow := tab_rows ht r (h r (by simp))
    have e : rwO rd (spl 124 [] (joinG [124] 0 (rcs t 0 r))) = some r := by
      rw [spl_line (ne_of_len (by rw [rcs_len, hrow.1]; exact (tab_bd ht).1)) fun v hv c hc => (rcs_ch t r 0 v hv c hc).1]
      exact rwO_rcs t hr r 0 hrow.2
    rw [List.map_cons, rsO_ok e, rsO_tx ht hr rs fun q hq => h q (by simp [hq])]; rfl
theorem line_ne {t : Tab} (ht : tabB t = true) {r : List Int} (hr : r ∈ t.2) : joinG [124] 0 (rcs t 0 r) ≠ [] := by
  have h1 := (tab_rows ht r hr).1
  have h2 := (tab_bd ht).1
  match r, h1 with
  | [], h1 => simp at h1; omega
  | n :: ns, _ =>
    rw [rcs, joinG]; intro e
    have e2 := (List.append_eq_nil_iff.1 (List.append_eq_nil_iff.1 e).2).1
    unfold fillS at e2; rw [if_pos rfl] at e2
    exact dec_ne (List.append_eq_nil_iff.1 e2).2
theorem prS_tx {t : Tab} (ht : tabB t = true) : prS (txS t) = some t := by
  unfold prS lnsS
  rw [hdsR_tx ht, tx_spl ht]
  show (rsO l01Sg ((t.2.map (fun r => joinG [124] 0 (rcs t 0 r)) ++ [[]]).dropLast)).map _ = _
  rw [List.dropLast_concat, rsO_tx ht (fun n h1 h2 => l01Sg_dec (by omega)) t.2 fun _ h => h]; rfl
theorem prI_tx {t : Tab} (ht : tabB t = true) : prI (txS t) = some t := by
  unfold prI lnsI
  rw [hdsR_tx ht, tx_spl ht]
  show (rsO rdV ((t.2.map (fun r => joinG [124] 0 (rcs t 0 r)) ++ [[]]).filter neB)).map _ = _
  have e : (t.2.map (fun r => joinG [124] 0 (rcs t 0 r)) ++ [[]]).filter neB = t.2.map (fun r => joinG [124] 0 (rcs t 0 r)) := by
    rw [List.filter_append]
    have e1 : ([[]] : List Str).filter neB = [] := rfl
    rw [e1, List.append_nil, List.filter_eq_self]
    intro l hl
    obtain ⟨r, hr, rfl⟩ := List.mem_map.1 hl
    simp [neB, line_ne ht hr]
  rw [e, rsO_tx ht (fun n h1 h2 => rdV_dec (by omega)) t.2 fun _ h => h]; rfl
theorem dec_len14 {n : Int} (h : -1000000000000 ≤ n ∧ n ≤ 1000000000000) : (decS n).length ≤ 14 := by
  unfold decS
  split
  · have := digs_len 12 (0 - n).toNat (by omega); rw [List.length_cons]; omega
  · have := digs_len 12 n.toNat (by omega); omega
theorem wdF_16 (c : Nat) : ∀ (rs : List (List Int)) (w : Int), 0 ≤ w ∧ w ≤ 16 → (∀ r ∈ rs, ∀ n ∈ r, -1000000000000 ≤ n ∧ n ≤ 1000000000000) → 0 ≤ wdF c rs w ∧ wdF c rs w ≤ 16
  | [], w, h, _ => h
  | r :: rs, w, h, hr => by
    have h1 : (decS (rowC c r)).length ≤ 14 := by
      unfold rowC
      cases e : r[(c : Int).toNat]? with
      | none => exact dec_len14 (by simp)
      | some n => have h2 := hr r (List.mem_cons_self ..) n (List.mem_of_getElem? e); exact dec_len14 h2
    exact wdF_16 c rs _ (by omega) (fun r' h' => hr r' (List.mem_cons_of_mem _ h'))
theorem wdC_16 {t : Tab} (h : tabB t = true) (c : Nat) : 0 ≤ wdC t c ∧ wdC t c ≤ 16 := by
  cases e : t.1[c]? with
  | none => unfold wdC; rw [e]; exact ⟨Int.le_refl _, by show (0 : Int) ≤ 16; decide⟩
  | some s =>
    have h1 := wordB_len (tab_heads h s (List.mem_of_getElem? e))
    rw [wdC_eq e]
    exact wdF_16 c t.2 _ (by omega) (fun r hr => (tab_rows h r hr).2)
theorem fill_16 {w : Int} {f : Bool} {s : Str} (h : w ≤ 16) (h2 : s.length ≤ 16) : (fillS w f s).length ≤ 16 := by
  have hb := blS_len (w - (s.length : Nat))
  unfold fillS
  split <;> rw [List.length_append, hb] <;> omega
theorem join_17 : ∀ (ws : List Str) (i : Nat), (∀ w ∈ ws, w.length ≤ 16) → (joinG [124] i ws).length ≤ 17 * ws.length
  | [], _, _ => Nat.zero_le _
  | w :: ws, i, h => by
    have h1 := join_17 ws (i + 1) (fun v hv => h v (by simp [hv]))
    have h2 := h w (by simp)
    have h3 : (if 0 < i then ([124] : Str) else []).length ≤ 1 := by split <;> simp
    rw [joinG, List.length_append, List.length_append, List.length_cons]; omega
theorem hcs_16 {t : Tab} (h : tabB t = true) : ∀ (hs : List Str) (c : Nat), (∀ s ∈ hs, wordB s = true) → ∀ w ∈ hcs t c hs, w.length ≤ 16
  | [], _, _, w, hw => by cases hw
  | s :: hs, c, hk, w, hw => by
    rw [hcs] at hw
    rcases List.mem_cons.1 hw with e | e
    · subst e; exact fill_16 (wdC_16 h c).2 (wordB_len (hk s (by simp))).2
    · exact hcs_16 h hs (c + 1) (fun x hx => hk x (by simp [hx])) w e
theorem rcs_16 {t : Tab} (h : tabB t = true) : ∀ (ns : List Int) (c : Nat), (∀ n ∈ ns, -1000000000000 ≤ n ∧ n ≤ 1000000000000) → ∀ w ∈ rcs t c ns, w.length ≤ 16
  | [], _, _, w, hw => by cases hw
  | n :: ns, c, hk, w, hw => by
    rw [rcs] at hw
    rcases List.mem_cons.1 hw with e | e
    · subst e; have := dec_len14 (hk n (by simp)); exact fill_16 (wdC_16 h c).2 (by omega)
    · exact rcs_16 h ns (c + 1) (fun x hx => hk x (by simp [hx])) w e
theorem rows_len {t : Tab} (h : tabB t = true) : ∀ (rs : List (List Int)), (∀ r ∈ rs, r ∈ t.2) → (rowsS t rs).length ≤ 103 * rs.length
  | [], _ => Nat.zero_le _
  | r :: rs, hr => by
    have h1 := rows_len h rs fun q hq => hr q (by simp [hq])
    have h2 := tab_rows h r (hr r (by simp))
    have h3 := join_17 (rcs t 0 r) 0 (rcs_16 h r 0 h2.2)
    have h4 := tab_bd h
    rw [rcs_len, h2.1] at h3
    rw [rowsS, lineS, List.length_append, List.length_append, List.length_cons]
    simp only [List.length_cons, List.length_nil]; omega
theorem tx_len {t : Tab} (h : tabB t = true) : (txS t).length ≤ 4000 := by
  have h1 := rows_len h t.2 fun _ q => q
  have h3 := join_17 (hcs t 0 t.1) 0 (hcs_16 h t.1 0 (tab_heads h))
  have h4 := tab_bd h
  rw [hcs_len] at h3
  unfold txS
  rw [lineS, List.length_append, List.length_append]
  simp only [List.length_cons, List.length_nil]; omega
theorem okT_eq {s : Str} {t : Tab} (h : okT s t = true) : tabB t = true ∧ txS t = s := by
  unfold okT at h; simpa using h
/-- The two readers agree. -/
theorem rd_eq (s : Str) : rdS s = rdI s := by
  have key : ∀ t, okT s t = true → rdS s = some t ∧ rdI s = some t := by
    intro t h
    obtain ⟨h1, rfl⟩ := okT_eq h
    have h2 := tx_len h1
    unfold rdS rdI
    rw [prS_tx h1, prI_tx h1, if_neg (by omega)]
    show (if okT (txS t) t = true then some t else none) = some t ∧ (if okT (txS t) t = true then some t else none) = some t
    rw [if_pos h]; exact ⟨rfl, rfl⟩
  cases e1 : rdS s with
  | some t =>
    have : okT s t = true := by
      unfold rdS at e1
      cases q : prS s with
      | none => rw [q] at e1; cases e1
      | some u => rw [q] at e1; simp only at e1; split at e1
                  · cases e1; assumption
                  · cases e1
    exact (key t this).2.symm
  | none =>
    cases e2 : rdI s with
    | none => rfl
    | some t =>
      have : okT s t = true := by
        unfold rdI at e2
        split at e2
        · cases e2
        · cases q : prI s with
          | none => rw [q] at e2; cases e2
          | some u => rw [q] at e2; simp only at e2; split at e2
                      · cases e2; assumption
                      · cases e2
      rw [(key t this).1] at e1; cases e1
def rdT (s : Str) : Tab := (rdS s).getD ([], [])
def rdC (s : Str) : Int := if (rdS s).isSome then 0 else 6
theorem rd_n {s : Str} (h : rdS s = none) : rdT s = ([], []) ∧ rdC s = 6 := by unfold rdT rdC; rw [h]; exact ⟨rfl, rfl⟩
theorem rd_s {s : Str} {t : Tab} (h : rdS s = some t) : rdT s = t ∧ rdC s = 0 := by unfold rdT rdC; rw [h]; exact ⟨rfl, rfl⟩
theorem rdS_none {s : Str} (h : prS s = none) : rdS s = none := by unfold rdS; rw [h]
theorem rdS_some {s : Str} {t : Tab} (h : prS s = some t) : rdS s = if okT s t then some t else none := by unfold rdS; rw [h]
theorem rdI_none {s : Str} (h : prI s = none) : rdS s = none := by rw [rd_eq]; unfold rdI; rw [h]; split <;> rfl
theorem rdI_big {s : Str} (h : 4000 < s.length) : rdS s = none := by rw [rd_eq]; unfold rdI; rw [if_pos h]
theorem rdI_some {s : Str} {t : Tab} (h4 : ¬ 4000 < s.length) (h : prI s = some t) : rdS s = if okT s t then some t else none := by rw [rd_eq]; unfold rdI; rw [if_neg h4, h]
theorem okT_f {s : Str} {t : Tab} (h : tabB t = false ∨ ¬ txS t = s) : okT s t = false := by
  unfold okT; rcases h with h | h
  · rw [h, Bool.false_and]
  · rw [decide_eq_false h, Bool.and_false]
theorem okT_t {s : Str} {t : Tab} (h : tabB t = true) (h' : txS t = s) : okT s t = true := by unfold okT; rw [h, decide_eq_true h']; rfl

set_option maxHeartbeats 4000000 in
theorem c_spec_ReadTable (w0 : World) (s : Str) (g0 : s.length ≤ 1048576) :
  Calls Try.prog 54 #[St s] w0 (Ret w0 (fun v w1 => ∃ r0_0 r0_1 z0_1, v = .tuple #[.agg #[r0_0, r0_1], .int .i64 (rdC s)] ∧ Own shStr 9 w0.heap.size w0.heap.size w1.heap.size w1 r0_0 ((rdT s).1) ∧ Own shRowN 41 w0.heap.size w0.heap.size w1.heap.size w1 r0_1 z0_1 ∧ Nst shI64 2 (fun x : List Int => x) w0.heap.size w1.heap.size w1 z0_1 ∧ z0_1.map (·.1) = ((rdT s).2))) := by
 refine enter (N := 91) Try.func54 rfl rfl rfl ?_
 intro a0 ha0
 have hx0 := Ext.rfl' w0
 have hsp := spl_pos 10 s []
 have hsl := spl_len 10 s []
 refine wp_seq ?_
 refine wp_region_lit ?_
 refine wl_eff ha0 rfl rfl rfl (op_alloc' rfl ti28 rfl) ?_
 rintro _ w2 ⟨rfl, he3, hb4, hz5⟩ a6 ha6; clear ha0 a0
 have hx7 := hx0.trans' he3
 have hzhx7 := he3.size
 refine wl_val ha6 rfl rfl rfl (op_assign ha6 rfl rfl) ?_
 intro a8 ha8; clear ha6 a6
 refine wpList_nil ?_
 refine then_n ?_
 refine wp_seq ?_
 refine wp_region_lit ?_
 refine wl_val ha8 rfl rfl rfl (op_move ha8 rfl rfl) ?_
 intro a9 ha9; clear ha8 a8
 refine wl_callR ha9 rfl rfl rfl (op_call ha9 rfl cb91 rfl) (c_spec_l01Split _ s (10 : UInt8) (by first | assumption | omega | (simp; omega))) ?_
 rintro v10 w11 he12 ho13 a14 ha14; clear ha9 a9
 have hx15 := hx7.trans' he12
 have hzhx15 := he12.size
 replace hb4 := hb4.ext he12
 refine wl_val ha14 rfl rfl rfl (op_assign ha14 rfl rfl) ?_
 intro a16 ha16; clear ha14 a14
 refine wpList_nil ?_
 refine then_n ?_
 refine wp_seq ?_
 refine wp_region_lit ?_
 refine wl_eff ha16 rfl rfl rfl (op_buildSlice (s := shStr) (xs := ([] : List Str)) (cs := []) (vs := []) (S := fun _ => False) (le := w11.heap.size) ha16 rfl pos_shStr Try.underlying22 ti9 rfl rfl (by decide) (by kernel_rfl) rfl (fun _ h => h.elim)) ?_
 rintro v17 w18 ⟨ho19, he20, hob21⟩ a22 ha22; clear ha16 a16
 have hx23 := hx15.trans' he20
 have hzhx23 := he20.size
 replace hb4 := hb4.ext he20
 replace ho13 := ho13.ext he20
 refine wl_eff ha22 rfl rfl rfl (op_buildSlice (s := shRowN) (xs := ([] : List ((List Int) × Value))) (cs := []) (vs := []) (S := fun _ => False) (le := w18.heap.size) ha22 rfl pos_shRowN Try.underlying23 ti41 rfl rfl (by decide) (by kernel_rfl) rfl (fun _ h => h.elim)) ?_
 rintro v24 w25 ⟨ho26, he27, hob28⟩ a29 ha29; clear ha22 a22
 have hx30 := hx23.trans' he27
 have hzhx30 := he27.size
 replace hb4 := hb4.ext he27
 replace ho13 := ho13.ext he27
 replace ho19 := ho19.ext he27
 have hN31 : Nst shI64 2 (fun x : List Int => x) w18.heap.size w25.heap.size w25 (([] : List ((List Int) × Value))) := Nst.nil _ _ _ _ _ _
 refine wl_val ha29 rfl rfl rfl (op_build (vs := [(0, v17), (1, v24)]) (cs := #[v17, v24]) ha29 rfl Try.underlying28 ti28 bp28 rfl ((fill_one ho19.cells1 rfl rfl).trans ((fill_one ho26.cells1 rfl rfl).trans rfl))) ?_
 intro a32 ha32; clear ha29 a29
 refine wl_eff ha32 rfl rfl rfl (op_alloc' rfl ti28 rfl) ?_
 rintro _ w34 ⟨rfl, he35, hb36, hz37⟩ a38 ha38; clear ha32 a32
 have hx39 := hx30.trans' he35
 have hzhx39 := he35.size
 replace hb4 := hb4.ext he35
 replace ho13 := ho13.ext he35
 replace ho19 := ho19.ext he35
 replace ho26 := ho26.ext he35
 replace hN31 := hN31.ext he35
 refine wl_effS ha38 rfl rfl (op_storeAll' ha38 rfl ti28 rfl rfl hb36 rfl rfl (by intro u hu; have hu : u ∈ ([v17, v24] : List Value) := hu; simp only [List.mem_cons, List.mem_nil_iff, or_false] at hu; rcases hu with rfl | rfl <;> first | rfl | exact ho19.one | exact ho26.one) rfl) ?_
 rintro w40 ⟨hb42, hst41, hz43⟩
 have hx44 := hx39.stp hst41 (by intro q hq; cases hq; exact (by omega))
 have hzhx44 := hst41.size
 replace hb4 := hb4.stp hst41 (by intro q hq; cases hq; omega)
 replace ho13 := ho13.stp hst41 (by intro q hq; cases hq; omega)
 replace ho19 := ho19.stp hst41 (by intro q hq; cases hq; omega)
 replace ho26 := ho26.stp hst41 (by intro q hq; cases hq; omega)
 replace hN31 := hN31.stp hst41 (by intro q hq; cases hq; omega)
 clear hb36
 refine wpList_nil ?_
 refine then_n ?_
 refine wp_seq ?_
 refine wp_region_lit ?_
 refine wl_val ha38 rfl rfl rfl (op_move ha38 rfl rfl) ?_
 intro a45 ha45; clear ha38 a38
 obtain ⟨x46, hx46⟩ := get_ex (xs := (spl (10 : UInt8) [] s)) (j := 0) (by omega)
 obtain ⟨p47, c48, hi49, hc50, hr51, hs52⟩ := Rds.at_ (ho13.rds pos_shStr) hx46
 obtain ⟨rfl, b53⟩ := inv_shStr hr51
 obtain ⟨_, _⟩ : _ ∧ _ := hs52
 have hlxx46 := spl_el (List.mem_of_getElem? hx46)
 simp only [List.length_nil, Nat.zero_add] at hlxx46
 have htlx46 := trS_len x46
 have hsgx46 := l01Sg_bd (trS x46)
 have hrvx46 := rdV_bd (trS x46)
 have hclx46 := spl_len 124 x46 []
 have hcpx46 := spl_pos 124 x46 []
 refine wl_val ha45 rfl rfl rfl (op_indexAddr ha45 rfl Try.underlying22 ti9 rfl rfl (by omega) hi49) ?_
 intro a54 ha54; clear ha45 a45
 refine wl_val ha54 rfl rfl rfl (op_loadH ha54 rfl Try.underlying9 rfl rfl hc50 rfl) ?_
 intro a55 ha55; clear ha54 a54
 refine wl_callR ha55 rfl rfl rfl (op_call ha55 rfl cb91 rfl) (c_spec_l01Split _ x46 (124 : UInt8) (by first | assumption | omega | (simp; omega))) ?_
 rintro v56 w57 he58 ho59 a60 ha60; clear ha55 a55
 have hx61 := hx44.trans' he58
 have hzhx61 := he58.size
 replace hb4 := hb4.ext he58
 replace ho13 := ho13.ext he58
 replace ho19 := ho19.ext he58
 replace ho26 := ho26.ext he58
 replace hN31 := hN31.ext he58
 replace hb42 := hb42.ext he58
 replace hc50 := hc50.ext he58
 refine wl_val ha60 rfl rfl rfl (op_assign ha60 rfl rfl) ?_
 intro a62 ha62; clear ha60 a60
 refine wpList_nil ?_
 refine then_n ?_
 refine wp_seq ?_
 refine wp_seq ?_
 refine wp_region_lit ?_
 refine wl_val ha62 rfl rfl rfl (op_assign ha62 rfl rfl) ?_
 intro a63 ha63; clear ha62 a62
 refine wpList_nil ?_
 refine then_n ?_
 refine wp_block ?_
 refine loop_inv (X := Nat × Value × (List Str)) (fun (⟨i, v, acc⟩ : Nat × Value × (List Str)) fr wl => Sl 91 fr [(0, St s), (2, .pointer (some (⟨w0.heap.size, 0, none⟩ : Addr))), (4, v10), (5, .pointer (some (⟨w25.heap.size, 0, none⟩ : Addr))), (6, v56), (7, .int .i64 ((i : Nat) : Int))] ∧ Ext w0 wl ∧ Box wl w0.heap.size 28 [.slice none 0 0, .slice none 0 0] ∧ Own shStr 9 w2.heap.size w2.heap.size w11.heap.size wl v10 ((spl (10 : UInt8) [] s)) ∧ Own shRowN 41 w18.heap.size w18.heap.size w25.heap.size wl v24 (([] : List ((List Int) × Value))) ∧ Nst shI64 2 (fun x : List Int => x) w18.heap.size w25.heap.size wl (([] : List ((List Int) × Value))) ∧ Own shStr 9 w40.heap.size w40.heap.size w57.heap.size wl v56 ((spl (124 : UInt8) [] x46)) ∧ Own shStr 9 w11.heap.size w11.heap.size wl.heap.size wl v acc ∧ Box wl w25.heap.size 28 [v, v24] ∧ w57.heap.size ≤ wl.heap.size ∧ (∀ q, Value.ownBlock v = some q → Value.ownBlock v10 ≠ some q) ∧ (∀ q, Value.ownBlock v = some q → Value.ownBlock v56 ≠ some q) ∧ (i ≤ (spl (124 : UInt8) [] x46).length) ∧ (acc.length ≤ i) ∧ (acc = ((spl (124 : UInt8) [] x46).take i).map trS)) (fun (⟨i, v, acc⟩ : Nat × Value × (List Str)) => (spl (124 : UInt8) [] x46).length - i) (0, v17, ([] : List Str)) ?_ ?_
 ·
  exact ⟨(Sl.cons_ ha63 rfl rfl (Sl.cons_ ha63 rfl rfl (Sl.cons_ ha63 rfl rfl (Sl.cons_ ha63 rfl rfl (Sl.cons_ ha63 rfl rfl (Sl.cons_ ha63 rfl (int_eq (by omega)) (Sl.nil_ ha63))))))), hx61, hb4, ho13, ho26, hN31, ho59, (ho19.fin (by omega) (by omega) (by omega)), hb42, (by omega), (by intro q hq; first | (intro hb; have hq0 := ho19.lt q hq; have hq1 := ho13.lt q hb; omega)), (by intro q hq; first | (intro hb; have hq0 := ho19.lt q hq; have hq1 := ho59.lt q hb; omega)), (by omega), (by exact Nat.zero_le _), (by simp)⟩
 ·
  clear ha63 a63
  rintro ⟨i, v, acc⟩ a75 w64 ⟨ha75, hx65, hf66, hf67, hf69, hf70, hf72, hf68, hf71, hzl76, hsp73, hsp74, hi, hl, hF0⟩
  have hzhx65 := hx65.size
  refine wp_seq ?_
  refine wp_seq ?_
  refine wp_region_lit ?_
  refine wl_val ha75 rfl rfl rfl (op_move ha75 rfl rfl) ?_
  intro a77 ha77; clear ha75 a75
  refine wl_val ha77 rfl rfl rfl (op_move ha77 rfl rfl) ?_
  intro a78 ha78; clear ha77 a77
  refine wl_val ha78 rfl rfl rfl (op_len_sl ha78 rfl Try.underlying22 rfl (hf72.rds pos_shStr)) ?_
  intro a79 ha79; clear ha78 a78
  refine wl_val ha79 rfl rfl rfl (op_lss ha79 rfl rfl rfl) ?_
  intro a80 ha80; clear ha79 a79
  refine wpList_nil ?_
  refine then_n ?_
  by_cases c81 : ((i : Nat) : Int) < ((((spl (124 : UInt8) [] x46)).length : Nat) : Int)
  ·
   rw [decide_eq_true c81] at ha80
   refine cond_t ha80 rfl ?_
   refine wp_skip ?_
   refine then_n ?_
   refine wp_seq ?_
   refine wp_block ?_
   refine dr_enter (fun wa_ wb_ => StpL wa_ wb_ (fun i => Value.ownBlock v = some i ∨ i = w25.heap.size)) follows_mixed ?_
   intro w82 he83
   have hx84 := hx65.trans' he83
   have hzhx84 := he83.size
   replace hf66 := hf66.ext he83
   replace hf67 := hf67.ext he83
   replace hf69 := hf69.ext he83
   replace hf70 := hf70.ext he83
   replace hf72 := hf72.ext he83
   replace hf68 := hf68.ext he83
   replace hf71 := hf71.ext he83
   have hs85 : Ext w82 w82 := Ext.rfl' _
   refine dr_val (i := 0) ha80 rfl (by kernel_rfl) (by kernel_rfl) (by kernel_rfl) rfl rfl rfl (StpL.of_ext hs85) (fun w' hw' => op_fieldAddr (sz := 0) ha80 rfl Try.underlying28 rfl rfl ti22 rfl) ?_
   intro a86 ha86; clear ha80 a80
   refine dr_val (i := 2) ha86 rfl (by kernel_rfl) (by kernel_rfl) (by kernel_rfl) rfl rfl rfl (StpL.of_ext hs85) (fun w' hw' => op_move ha86 rfl rfl) ?_
   intro a87 ha87; clear ha86 a86
   refine dr_val (i := 3) ha87 rfl (by kernel_rfl) (by kernel_rfl) (by kernel_rfl) rfl rfl rfl (StpL.of_ext hs85) (fun w' hw' => op_move ha87 rfl rfl) ?_
   intro a88 ha88; clear ha87 a87
   obtain ⟨x89, hx89⟩ := get_ex (xs := (spl (124 : UInt8) [] x46)) (j := i) (by omega)
   obtain ⟨p90, c91, hi92, hc93, hr94, hs95⟩ := Rds.at_ (hf72.rds pos_shStr) hx89
   obtain ⟨rfl, b96⟩ := inv_shStr hr94
   obtain ⟨_, _⟩ : _ ∧ _ := hs95
   have hlxx89 := spl_el (List.mem_of_getElem? hx89)
   simp only [List.length_nil, Nat.zero_add] at hlxx89
   have htlx89 := trS_len x89
   have hsgx89 := l01Sg_bd (trS x89)
   have hrvx89 := rdV_bd (trS x89)
   have hclx89 := spl_len 124 x89 []
   have hcpx89 := spl_pos 124 x89 []
   refine dr_val (i := 4) ha88 rfl (by kernel_rfl) (by kernel_rfl) (by kernel_rfl) rfl rfl rfl (StpL.of_ext hs85) (fun w' hw' => op_indexAddr ha88 rfl Try.underlying22 ti9 rfl rfl (by omega) hi92) ?_
   intro a97 ha97; clear ha88 a88
   refine dr_two (i := 1) (j := 5) (by kernel_rfl) ?_ ?_
   ·
    refine po_to ha97 rfl rfl rfl rfl (op_loadF (off := 0) ha97 rfl Try.underlying22 rfl rfl (hf71.ext hs85).cells rfl) ?_
    intro a98 ha98; clear ha97 a97
    refine ⟨(StpL.of_ext hs85), ?_⟩
    refine dr_one (i := 5) (by kernel_rfl) ?_
    refine po_to ha98 rfl rfl rfl rfl (op_loadH ha98 rfl Try.underlying9 rfl rfl (hc93.ext hs85) rfl) ?_
    intro a99 ha99; clear ha98 a98
    refine ⟨(StpL.of_ext hs85), ?_⟩
    refine dr_one (i := 6) (by kernel_rfl) ?_
    refine po_callR ha99 rfl rfl rfl rfl (op_call ha99 rfl cb92 rfl) (c_spec_l31Trim _ x89 (by first | assumption | omega | (simp; omega))) ?_
    rintro v100 w101 he102 rfl a103 ha103; clear ha99 a99
    have hs104 := hs85.trans' he102
    have hx105 := hx84.trans' he102
    have hzhx105 := he102.size
    refine ⟨(StpL.of_ext hs104), ?_⟩
    refine dr_one (i := 7) (by kernel_rfl) ?_
    refine po_eff ha103 rfl rfl rfl rfl (op_buildSlice (s := shStr) (xs := [(trS x89)]) (cs := [St ((trS x89))]) (vs := [(0, St ((trS x89)))]) (S := fun _ => False) (le := w101.heap.size) ha103 rfl pos_shStr Try.underlying22 ti9 rfl rfl (by decide) (by kernel_rfl) (Els.single (mk_shStr ((trS x89)) (by first | assumption | omega | (simp; done)))) (fun _ h => h.elim)) ?_
    rintro v106 w107 ⟨ho108, he109, hob110⟩ a111 ha111; clear ha103 a103
    have hs112 := hs104.trans' he109
    have hx113 := hx105.trans' he109
    have hzhx113 := he109.size
    refine ⟨(StpL.of_ext hs112), ?_⟩
    refine dr_one (i := 8) (by kernel_rfl) ?_
    replace hf66 := hf66.ext hs112
    replace hf67 := hf67.ext hs112
    replace hf69 := hf69.ext hs112
    replace hf70 := hf70.ext hs112
    replace hf72 := hf72.ext hs112
    replace hf68 := hf68.ext hs112
    replace hf71 := hf71.ext hs112
    replace hc93 := hc93.ext hs112
    refine po_eff ha111 rfl rfl rfl rfl (op_append (ts := #[]) (s := shStr) ha111 rfl Try.underlying22 ti9 rfl pos_shStr rfl rfl hf68 (ho108.rds pos_shStr) (by omega) (by omega) (by first | omega | (simp; omega)) (by first | omega | (simp; omega)) (.inl flat_shStr)) ?_
    rintro v114 w115 ⟨ho116, hst117, hob118⟩ a119 ha119; clear ha111 a111
    have hx120 := hx113.stp hst117 (by intro q hq; have hq0 := hf68.lt q hq; omega)
    have hzhx120 := hst117.size
    replace hf66 := hf66.stp hst117 (by intro q hq; have hq0 := hf68.lt q hq; omega)
    replace hf67 := hf67.stp hst117 (by intro q hq; have hq0 := hf68.lt q hq; omega)
    replace hf69 : Own shRowN 41 w18.heap.size w18.heap.size w25.heap.size w115 v24 (([] : List ((List Int) × Value))) := by first | exact hf69.stp hst117 (by intro q hq; have hq0 := hf68.lt q hq; omega) | exact hf69.stpF flat_shRowN hst117 (hf69.ne hf68 rfl)
    replace hf70 : Nst shI64 2 (fun x : List Int => x) w18.heap.size w25.heap.size w115 (([] : List ((List Int) × Value))) := by first | exact hf70.stpF flat_shI64 hst117 hf68 rfl | exact hf70.stp hst117 (by intro q hq; have hq0 := hf68.lt q hq; omega)
    replace hf72 : Own shStr 9 w40.heap.size w40.heap.size w57.heap.size w115 v56 ((spl (124 : UInt8) [] x46)) := by first | exact hf72.stp hst117 (by intro q hq; have hq0 := hf68.lt q hq; omega) | exact hf72.stpF flat_shStr hst117 (fun q hq => hsp74 q hq)
    replace hf71 : Box w115 w25.heap.size 28 [v, v24] := by first | exact hf71.stp hst117 (by intro q hq; have hq0 := hf68.lt q hq; omega) | exact hf71.stp hst117 (by intro q hq e; subst e; exact hf68.ne_box hf71 rfl hq)
    replace ho108 := ho108.stp hst117 (by intro q hq; have hq0 := hf68.lt q hq; omega)
    have hsp121 : ∀ q, Value.ownBlock v114 = some q → Value.ownBlock v10 ≠ some q := by intro q hq hb; have hq0 := hf67.lt q hb; rcases hob118 with h | h; (rw [h] at hq; first | (have hq1 := hf68.lt q hq; omega) | exact hsp73 q hq hb); (rw [h] at hq; cases hq; omega)
    have hsp122 : ∀ q, Value.ownBlock v114 = some q → Value.ownBlock v56 ≠ some q := by intro q hq hb; have hq0 := hf72.lt q hb; rcases hob118 with h | h; (rw [h] at hq; first | (have hq1 := hf68.lt q hq; omega) | exact hsp74 q hq hb); (rw [h] at hq; cases hq; omega)
    have hsp123 : ∀ q, Value.ownBlock v114 = some q → Value.ownBlock v106 ≠ some q := by intro q hq hb; have hq0 := ho108.lt q hb; rcases hob118 with h | h; (rw [h] at hq; first | (have hq1 := hf68.lt q hq; omega)); (rw [h] at hq; cases hq; omega)
    have hs124 := (StpL.of_ext (B := fun i => Value.ownBlock v = some i ∨ i = w25.heap.size) hs112).trans' (Stp.toL hst117 (by intro q hq; exact Or.inl hq))
    refine ⟨hs124, ?_⟩
    refine dr_val (i := 9) ha119 rfl (by kernel_rfl) (by kernel_rfl) (by kernel_rfl) rfl rfl rfl hs124 (fun w' hw' => op_fieldAddr (sz := 0) ha119 rfl Try.underlying28 rfl rfl ti22 rfl) ?_
    intro a125 ha125; clear ha119 a119
    refine dr_one (i := 10) (by kernel_rfl) ?_
    refine po_effS ha125 rfl rfl rfl (op_store' (off := 0) ha125 rfl ti22 rfl rfl hf71 ho116.cells1 rfl (by intro u hu; have hu : u ∈ ([v114] : List Value) := hu; simp only [List.mem_cons, List.mem_nil_iff, or_false] at hu; rcases hu with rfl <;> first | rfl | exact ho116.one) (Nat.le_of_ble_eq_true rfl)) ?_
    rintro w126 ⟨hb128, hst127, hz129⟩
    have hx130 := hx120.stp hst127 (by intro q hq; cases hq; exact (by omega))
    have hzhx130 := hst127.size
    replace hf66 := hf66.stp hst127 (by intro q hq; cases hq; omega)
    replace hf67 := hf67.stp hst127 (by intro q hq; cases hq; omega)
    replace hf69 := hf69.stp hst127 (by intro q hq; cases hq; omega)
    replace hf70 := hf70.stp hst127 (by intro q hq; cases hq; omega)
    replace hf72 := hf72.stp hst127 (by intro q hq; cases hq; omega)
    replace ho108 := ho108.stp hst127 (by intro q hq; cases hq; omega)
    replace ho116 : Own shStr 9 w11.heap.size w11.heap.size w115.heap.size w126 v114 ((acc ++ [(trS x89)])) := by first | exact ho116.stp hst127 (by intro q hq; cases hq; omega) | exact ho116.stpF flat_shStr hst127 (by intro q hq; cases hq; exact ho116.ne_box (by assumption) rfl)
    clear hf71
    have hs131 := hs124.trans' (Stp.toL hst127 (by intro q hq; cases hq; exact Or.inr (rfl)))
    refine ⟨hs131, ?_⟩
    refine dr_end (by kernel_rfl) ?_
    refine block_n ?_
    refine then_n ?_
    refine wp_region_lit ?_
    refine wl_val ha125 rfl rfl rfl (op_move ha125 rfl rfl) ?_
    intro a132 ha132; clear ha125 a125
    refine wl_val ha132 rfl rfl rfl ((op_add ha132 rfl rfl rfl).int (IntWalk.i64_in _ (by omega))) ?_
    intro a133 ha133; clear ha132 a132
    refine wl_val ha133 rfl rfl rfl (op_assign ha133 rfl rfl) ?_
    intro a134 ha134; clear ha133 a133
    refine wpList_nil ?_
    refine round_end (x := (i, v, acc)) ((i + 1), v114, (acc ++ [(trS x89)])) ?_ ?_
    ·
     refine ⟨(Sl.cons_ ha134 rfl rfl (Sl.cons_ ha134 rfl rfl (Sl.cons_ ha134 rfl rfl (Sl.cons_ ha134 rfl rfl (Sl.cons_ ha134 rfl rfl (Sl.cons_ ha134 rfl (int_eq (by omega)) (Sl.nil_ ha134))))))), hx130, hf66, hf67, hf69, hf70, hf72, (ho116.fin (by omega) (by omega) (by omega)), hb128, (by omega), (by intro q hq; first | (intro hb; have hq0 := ho116.lt q hq; have hq1 := hf67.lt q hb; omega) | exact hsp121 q hq), (by intro q hq; first | (intro hb; have hq0 := ho116.lt q hq; have hq1 := hf72.lt q hb; omega) | exact hsp122 q hq), (by omega), (by first | omega | (simp; omega)), (by rw [take_snoc hx89, List.map_append, ← hF0]; rfl)⟩
    ·show ((spl (124 : UInt8) [] x46).length - ((i + 1)) : Nat) < (spl (124 : UInt8) [] x46).length - i; omega
   ·
    refine po_to ha97 rfl rfl rfl rfl (op_loadH ha97 rfl Try.underlying9 rfl rfl (hc93.ext hs85) rfl) ?_
    intro a135 ha135; clear ha97 a97
    refine ⟨(StpL.of_ext hs85), ?_⟩
    refine dr_two (i := 1) (j := 6) (by kernel_rfl) ?_ ?_
    ·
     refine po_to ha135 rfl rfl rfl rfl (op_loadF (off := 0) ha135 rfl Try.underlying22 rfl rfl (hf71.ext hs85).cells rfl) ?_
     intro a136 ha136; clear ha135 a135
     refine ⟨(StpL.of_ext hs85), ?_⟩
     refine dr_one (i := 6) (by kernel_rfl) ?_
     refine po_callR ha136 rfl rfl rfl rfl (op_call ha136 rfl cb92 rfl) (c_spec_l31Trim _ x89 (by first | assumption | omega | (simp; omega))) ?_
     rintro v137 w138 he139 rfl a140 ha140; clear ha136 a136
     have hs141 := hs85.trans' he139
     have hx142 := hx84.trans' he139
     have hzhx142 := he139.size
     refine ⟨(StpL.of_ext hs141), ?_⟩
     refine dr_one (i := 7) (by kernel_rfl) ?_
     refine po_eff ha140 rfl rfl rfl rfl (op_buildSlice (s := shStr) (xs := [(trS x89)]) (cs := [St ((trS x89))]) (vs := [(0, St ((trS x89)))]) (S := fun _ => False) (le := w138.heap.size) ha140 rfl pos_shStr Try.underlying22 ti9 rfl rfl (by decide) (by kernel_rfl) (Els.single (mk_shStr ((trS x89)) (by first | assumption | omega | (simp; done)))) (fun _ h => h.elim)) ?_
     rintro v143 w144 ⟨ho145, he146, hob147⟩ a148 ha148; clear ha140 a140
     have hs149 := hs141.trans' he146
     have hx150 := hx142.trans' he146
     have hzhx150 := he146.size
     refine ⟨(StpL.of_ext hs149), ?_⟩
     refine dr_one (i := 8) (by kernel_rfl) ?_
     replace hf66 := hf66.ext hs149
     replace hf67 := hf67.ext hs149
     replace hf69 := hf69.ext hs149
     replace hf70 := hf70.ext hs149
     replace hf72 := hf72.ext hs149
     replace hf68 := hf68.ext hs149
     replace hf71 := hf71.ext hs149
     replace hc93 := hc93.ext hs149
     refine po_eff ha148 rfl rfl rfl rfl (op_append (ts := #[]) (s := shStr) ha148 rfl Try.underlying22 ti9 rfl pos_shStr rfl rfl hf68 (ho145.rds pos_shStr) (by omega) (by omega) (by first | omega | (simp; omega)) (by first | omega | (simp; omega)) (.inl flat_shStr)) ?_
     rintro v151 w152 ⟨ho153, hst154, hob155⟩ a156 ha156; clear ha148 a148
     have hx157 := hx150.stp hst154 (by intro q hq; have hq0 := hf68.lt q hq; omega)
     have hzhx157 := hst154.size
     replace hf66 := hf66.stp hst154 (by intro q hq; have hq0 := hf68.lt q hq; omega)
     replace hf67 := hf67.stp hst154 (by intro q hq; have hq0 := hf68.lt q hq; omega)
     replace hf69 : Own shRowN 41 w18.heap.size w18.heap.size w25.heap.size w152 v24 (([] : List ((List Int) × Value))) := by first | exact hf69.stp hst154 (by intro q hq; have hq0 := hf68.lt q hq; omega) | exact hf69.stpF flat_shRowN hst154 (hf69.ne hf68 rfl)
     replace hf70 : Nst shI64 2 (fun x : List Int => x) w18.heap.size w25.heap.size w152 (([] : List ((List Int) × Value))) := by first | exact hf70.stpF flat_shI64 hst154 hf68 rfl | exact hf70.stp hst154 (by intro q hq; have hq0 := hf68.lt q hq; omega)
     replace hf72 : Own shStr 9 w40.heap.size w40.heap.size w57.heap.size w152 v56 ((spl (124 : UInt8) [] x46)) := by first | exact hf72.stp hst154 (by intro q hq; have hq0 := hf68.lt q hq; omega) | exact hf72.stpF flat_shStr hst154 (fun q hq => hsp74 q hq)
     replace hf71 : Box w152 w25.heap.size 28 [v, v24] := by first | exact hf71.stp hst154 (by intro q hq; have hq0 := hf68.lt q hq; omega) | exact hf71.stp hst154 (by intro q hq e; subst e; exact hf68.ne_box hf71 rfl hq)
     replace ho145 := ho145.stp hst154 (by intro q hq; have hq0 := hf68.lt q hq; omega)
     have hsp158 : ∀ q, Value.ownBlock v151 = some q → Value.ownBlock v10 ≠ some q := by intro q hq hb; have hq0 := hf67.lt q hb; rcases hob155 with h | h; (rw [h] at hq; first | (have hq1 := hf68.lt q hq; omega) | exact hsp73 q hq hb); (rw [h] at hq; cases hq; omega)
     have hsp159 : ∀ q, Value.ownBlock v151 = some q → Value.ownBlock v56 ≠ some q := by intro q hq hb; have hq0 := hf72.lt q hb; rcases hob155 with h | h; (rw [h] at hq; first | (have hq1 := hf68.lt q hq; omega) | exact hsp74 q hq hb); (rw [h] at hq; cases hq; omega)
     have hsp160 : ∀ q, Value.ownBlock v151 = some q → Value.ownBlock v143 ≠ some q := by intro q hq hb; have hq0 := ho145.lt q hb; rcases hob155 with h | h; (rw [h] at hq; first | (have hq1 := hf68.lt q hq; omega)); (rw [h] at hq; cases hq; omega)
     have hs161 := (StpL.of_ext (B := fun i => Value.ownBlock v = some i ∨ i = w25.heap.size) hs149).trans' (Stp.toL hst154 (by intro q hq; exact Or.inl hq))
     refine ⟨hs161, ?_⟩
     refine dr_val (i := 9) ha156 rfl (by kernel_rfl) (by kernel_rfl) (by kernel_rfl) rfl rfl rfl hs161 (fun w' hw' => op_fieldAddr (sz := 0) ha156 rfl Try.underlying28 rfl rfl ti22 rfl) ?_
     intro a162 ha162; clear ha156 a156
     refine dr_one (i := 10) (by kernel_rfl) ?_
     refine po_effS ha162 rfl rfl rfl (op_store' (off := 0) ha162 rfl ti22 rfl rfl hf71 ho153.cells1 rfl (by intro u hu; have hu : u ∈ ([v151] : List Value) := hu; simp only [List.mem_cons, List.mem_nil_iff, or_false] at hu; rcases hu with rfl <;> first | rfl | exact ho153.one) (Nat.le_of_ble_eq_true rfl)) ?_
     rintro w163 ⟨hb165, hst164, hz166⟩
     have hx167 := hx157.stp hst164 (by intro q hq; cases hq; exact (by omega))
     have hzhx167 := hst164.size
     replace hf66 := hf66.stp hst164 (by intro q hq; cases hq; omega)
     replace hf67 := hf67.stp hst164 (by intro q hq; cases hq; omega)
     replace hf69 := hf69.stp hst164 (by intro q hq; cases hq; omega)
     replace hf70 := hf70.stp hst164 (by intro q hq; cases hq; omega)
     replace hf72 := hf72.stp hst164 (by intro q hq; cases hq; omega)
     replace ho145 := ho145.stp hst164 (by intro q hq; cases hq; omega)
     replace ho153 : Own shStr 9 w11.heap.size w11.heap.size w152.heap.size w163 v151 ((acc ++ [(trS x89)])) := by first | exact ho153.stp hst164 (by intro q hq; cases hq; omega) | exact ho153.stpF flat_shStr hst164 (by intro q hq; cases hq; exact ho153.ne_box (by assumption) rfl)
     clear hf71
     have hs168 := hs161.trans' (Stp.toL hst164 (by intro q hq; cases hq; exact Or.inr (rfl)))
     refine ⟨hs168, ?_⟩
     refine dr_end (by kernel_rfl) ?_
     refine block_n ?_
     refine then_n ?_
     refine wp_region_lit ?_
     refine wl_val ha162 rfl rfl rfl (op_move ha162 rfl rfl) ?_
     intro a169 ha169; clear ha162 a162
     refine wl_val ha169 rfl rfl rfl ((op_add ha169 rfl rfl rfl).int (IntWalk.i64_in _ (by omega))) ?_
     intro a170 ha170; clear ha169 a169
     refine wl_val ha170 rfl rfl rfl (op_assign ha170 rfl rfl) ?_
     intro a171 ha171; clear ha170 a170
     refine wpList_nil ?_
     refine round_end (x := (i, v, acc)) ((i + 1), v151, (acc ++ [(trS x89)])) ?_ ?_
     ·
      refine ⟨(Sl.cons_ ha171 rfl rfl (Sl.cons_ ha171 rfl rfl (Sl.cons_ ha171 rfl rfl (Sl.cons_ ha171 rfl rfl (Sl.cons_ ha171 rfl rfl (Sl.cons_ ha171 rfl (int_eq (by omega)) (Sl.nil_ ha171))))))), hx167, hf66, hf67, hf69, hf70, hf72, (ho153.fin (by omega) (by omega) (by omega)), hb165, (by omega), (by intro q hq; first | (intro hb; have hq0 := ho153.lt q hq; have hq1 := hf67.lt q hb; omega) | exact hsp158 q hq), (by intro q hq; first | (intro hb; have hq0 := ho153.lt q hq; have hq1 := hf72.lt q hb; omega) | exact hsp159 q hq), (by omega), (by first | omega | (simp; omega)), (by rw [take_snoc hx89, List.map_append, ← hF0]; rfl)⟩
     ·show ((spl (124 : UInt8) [] x46).length - ((i + 1)) : Nat) < (spl (124 : UInt8) [] x46).length - i; omega
    ·
     refine po_callR ha135 rfl rfl rfl rfl (op_call ha135 rfl cb92 rfl) (c_spec_l31Trim _ x89 (by first | assumption | omega | (simp; omega))) ?_
     rintro v172 w173 he174 rfl a175 ha175; clear ha135 a135
     have hs176 := hs85.trans' he174
     have hx177 := hx84.trans' he174
     have hzhx177 := he174.size
     refine ⟨(StpL.of_ext hs176), ?_⟩
     refine dr_two (i := 1) (j := 7) (by kernel_rfl) ?_ ?_
     ·
      refine po_to ha175 rfl rfl rfl rfl (op_loadF (off := 0) ha175 rfl Try.underlying22 rfl rfl (hf71.ext hs176).cells rfl) ?_
      intro a178 ha178; clear ha175 a175
      refine ⟨(StpL.of_ext hs176), ?_⟩
      refine dr_one (i := 7) (by kernel_rfl) ?_
      refine po_eff ha178 rfl rfl rfl rfl (op_buildSlice (s := shStr) (xs := [(trS x89)]) (cs := [St ((trS x89))]) (vs := [(0, St ((trS x89)))]) (S := fun _ => False) (le := w173.heap.size) ha178 rfl pos_shStr Try.underlying22 ti9 rfl rfl (by decide) (by kernel_rfl) (Els.single (mk_shStr ((trS x89)) (by first | assumption | omega | (simp; done)))) (fun _ h => h.elim)) ?_
      rintro v179 w180 ⟨ho181, he182, hob183⟩ a184 ha184; clear ha178 a178
      have hs185 := hs176.trans' he182
      have hx186 := hx177.trans' he182
      have hzhx186 := he182.size
      refine ⟨(StpL.of_ext hs185), ?_⟩
      refine dr_one (i := 8) (by kernel_rfl) ?_
      replace hf66 := hf66.ext hs185
      replace hf67 := hf67.ext hs185
      replace hf69 := hf69.ext hs185
      replace hf70 := hf70.ext hs185
      replace hf72 := hf72.ext hs185
      replace hf68 := hf68.ext hs185
      replace hf71 := hf71.ext hs185
      replace hc93 := hc93.ext hs185
      refine po_eff ha184 rfl rfl rfl rfl (op_append (ts := #[]) (s := shStr) ha184 rfl Try.underlying22 ti9 rfl pos_shStr rfl rfl hf68 (ho181.rds pos_shStr) (by omega) (by omega) (by first | omega | (simp; omega)) (by first | omega | (simp; omega)) (.inl flat_shStr)) ?_
      rintro v187 w188 ⟨ho189, hst190, hob191⟩ a192 ha192; clear ha184 a184
      have hx193 := hx186.stp hst190 (by intro q hq; have hq0 := hf68.lt q hq; omega)
      have hzhx193 := hst190.size
      replace hf66 := hf66.stp hst190 (by intro q hq; have hq0 := hf68.lt q hq; omega)
      replace hf67 := hf67.stp hst190 (by intro q hq; have hq0 := hf68.lt q hq; omega)
      replace hf69 : Own shRowN 41 w18.heap.size w18.heap.size w25.heap.size w188 v24 (([] : List ((List Int) × Value))) := by first | exact hf69.stp hst190 (by intro q hq; have hq0 := hf68.lt q hq; omega) | exact hf69.stpF flat_shRowN hst190 (hf69.ne hf68 rfl)
      replace hf70 : Nst shI64 2 (fun x : List Int => x) w18.heap.size w25.heap.size w188 (([] : List ((List Int) × Value))) := by first | exact hf70.stpF flat_shI64 hst190 hf68 rfl | exact hf70.stp hst190 (by intro q hq; have hq0 := hf68.lt q hq; omega)
      replace hf72 : Own shStr 9 w40.heap.size w40.heap.size w57.heap.size w188 v56 ((spl (124 : UInt8) [] x46)) := by first | exact hf72.stp hst190 (by intro q hq; have hq0 := hf68.lt q hq; omega) | exact hf72.stpF flat_shStr hst190 (fun q hq => hsp74 q hq)
      replace hf71 : Box w188 w25.heap.size 28 [v, v24] := by first | exact hf71.stp hst190 (by intro q hq; have hq0 := hf68.lt q hq; omega) | exact hf71.stp hst190 (by intro q hq e; subst e; exact hf68.ne_box hf71 rfl hq)
      replace ho181 := ho181.stp hst190 (by intro q hq; have hq0 := hf68.lt q hq; omega)
      have hsp194 : ∀ q, Value.ownBlock v187 = some q → Value.ownBlock v10 ≠ some q := by intro q hq hb; have hq0 := hf67.lt q hb; rcases hob191 with h | h; (rw [h] at hq; first | (have hq1 := hf68.lt q hq; omega) | exact hsp73 q hq hb); (rw [h] at hq; cases hq; omega)
      have hsp195 : ∀ q, Value.ownBlock v187 = some q → Value.ownBlock v56 ≠ some q := by intro q hq hb; have hq0 := hf72.lt q hb; rcases hob191 with h | h; (rw [h] at hq; first | (have hq1 := hf68.lt q hq; omega) | exact hsp74 q hq hb); (rw [h] at hq; cases hq; omega)
      have hsp196 : ∀ q, Value.ownBlock v187 = some q → Value.ownBlock v179 ≠ some q := by intro q hq hb; have hq0 := ho181.lt q hb; rcases hob191 with h | h; (rw [h] at hq; first | (have hq1 := hf68.lt q hq; omega)); (rw [h] at hq; cases hq; omega)
      have hs197 := (StpL.of_ext (B := fun i => Value.ownBlock v = some i ∨ i = w25.heap.size) hs185).trans' (Stp.toL hst190 (by intro q hq; exact Or.inl hq))
      refine ⟨hs197, ?_⟩
      refine dr_val (i := 9) ha192 rfl (by kernel_rfl) (by kernel_rfl) (by kernel_rfl) rfl rfl rfl hs197 (fun w' hw' => op_fieldAddr (sz := 0) ha192 rfl Try.underlying28 rfl rfl ti22 rfl) ?_
      intro a198 ha198; clear ha192 a192
      refine dr_one (i := 10) (by kernel_rfl) ?_
      refine po_effS ha198 rfl rfl rfl (op_store' (off := 0) ha198 rfl ti22 rfl rfl hf71 ho189.cells1 rfl (by intro u hu; have hu : u ∈ ([v187] : List Value) := hu; simp only [List.mem_cons, List.mem_nil_iff, or_false] at hu; rcases hu with rfl <;> first | rfl | exact ho189.one) (Nat.le_of_ble_eq_true rfl)) ?_
      rintro w199 ⟨hb201, hst200, hz202⟩
      have hx203 := hx193.stp hst200 (by intro q hq; cases hq; exact (by omega))
      have hzhx203 := hst200.size
      replace hf66 := hf66.stp hst200 (by intro q hq; cases hq; omega)
      replace hf67 := hf67.stp hst200 (by intro q hq; cases hq; omega)
      replace hf69 := hf69.stp hst200 (by intro q hq; cases hq; omega)
      replace hf70 := hf70.stp hst200 (by intro q hq; cases hq; omega)
      replace hf72 := hf72.stp hst200 (by intro q hq; cases hq; omega)
      replace ho181 := ho181.stp hst200 (by intro q hq; cases hq; omega)
      replace ho189 : Own shStr 9 w11.heap.size w11.heap.size w188.heap.size w199 v187 ((acc ++ [(trS x89)])) := by first | exact ho189.stp hst200 (by intro q hq; cases hq; omega) | exact ho189.stpF flat_shStr hst200 (by intro q hq; cases hq; exact ho189.ne_box (by assumption) rfl)
      clear hf71
      have hs204 := hs197.trans' (Stp.toL hst200 (by intro q hq; cases hq; exact Or.inr (rfl)))
      refine ⟨hs204, ?_⟩
      refine dr_end (by kernel_rfl) ?_
      refine block_n ?_
      refine then_n ?_
      refine wp_region_lit ?_
      refine wl_val ha198 rfl rfl rfl (op_move ha198 rfl rfl) ?_
      intro a205 ha205; clear ha198 a198
      refine wl_val ha205 rfl rfl rfl ((op_add ha205 rfl rfl rfl).int (IntWalk.i64_in _ (by omega))) ?_
      intro a206 ha206; clear ha205 a205
      refine wl_val ha206 rfl rfl rfl (op_assign ha206 rfl rfl) ?_
      intro a207 ha207; clear ha206 a206
      refine wpList_nil ?_
      refine round_end (x := (i, v, acc)) ((i + 1), v187, (acc ++ [(trS x89)])) ?_ ?_
      ·
       refine ⟨(Sl.cons_ ha207 rfl rfl (Sl.cons_ ha207 rfl rfl (Sl.cons_ ha207 rfl rfl (Sl.cons_ ha207 rfl rfl (Sl.cons_ ha207 rfl rfl (Sl.cons_ ha207 rfl (int_eq (by omega)) (Sl.nil_ ha207))))))), hx203, hf66, hf67, hf69, hf70, hf72, (ho189.fin (by omega) (by omega) (by omega)), hb201, (by omega), (by intro q hq; first | (intro hb; have hq0 := ho189.lt q hq; have hq1 := hf67.lt q hb; omega) | exact hsp194 q hq), (by intro q hq; first | (intro hb; have hq0 := ho189.lt q hq; have hq1 := hf72.lt q hb; omega) | exact hsp195 q hq), (by omega), (by first | omega | (simp; omega)), (by rw [take_snoc hx89, List.map_append, ← hF0]; rfl)⟩
      ·show ((spl (124 : UInt8) [] x46).length - ((i + 1)) : Nat) < (spl (124 : UInt8) [] x46).length - i; omega
     ·
      refine po_eff ha175 rfl rfl rfl rfl (op_buildSlice (s := shStr) (xs := [(trS x89)]) (cs := [St ((trS x89))]) (vs := [(0, St ((trS x89)))]) (S := fun _ => False) (le := w173.heap.size) ha175 rfl pos_shStr Try.underlying22 ti9 rfl rfl (by decide) (by kernel_rfl) (Els.single (mk_shStr ((trS x89)) (by first | assumption | omega | (simp; done)))) (fun _ h => h.elim)) ?_
      rintro v208 w209 ⟨ho210, he211, hob212⟩ a213 ha213; clear ha175 a175
      have hs214 := hs176.trans' he211
      have hx215 := hx177.trans' he211
      have hzhx215 := he211.size
      refine ⟨(StpL.of_ext hs214), ?_⟩
      refine dr_one (i := 1) (by kernel_rfl) ?_
      refine po_to ha213 rfl rfl rfl rfl (op_loadF (off := 0) ha213 rfl Try.underlying22 rfl rfl (hf71.ext hs214).cells rfl) ?_
      intro a216 ha216; clear ha213 a213
      refine ⟨(StpL.of_ext hs214), ?_⟩
      refine dr_one (i := 8) (by kernel_rfl) ?_
      replace hf66 := hf66.ext hs214
      replace hf67 := hf67.ext hs214
      replace hf69 := hf69.ext hs214
      replace hf70 := hf70.ext hs214
      replace hf72 := hf72.ext hs214
      replace hf68 := hf68.ext hs214
      replace hf71 := hf71.ext hs214
      replace hc93 := hc93.ext hs214
      refine po_eff ha216 rfl rfl rfl rfl (op_append (ts := #[]) (s := shStr) ha216 rfl Try.underlying22 ti9 rfl pos_shStr rfl rfl hf68 (ho210.rds pos_shStr) (by omega) (by omega) (by first | omega | (simp; omega)) (by first | omega | (simp; omega)) (.inl flat_shStr)) ?_
      rintro v217 w218 ⟨ho219, hst220, hob221⟩ a222 ha222; clear ha216 a216
      have hx223 := hx215.stp hst220 (by intro q hq; have hq0 := hf68.lt q hq; omega)
      have hzhx223 := hst220.size
      replace hf66 := hf66.stp hst220 (by intro q hq; have hq0 := hf68.lt q hq; omega)
      replace hf67 := hf67.stp hst220 (by intro q hq; have hq0 := hf68.lt q hq; omega)
      replace hf69 : Own shRowN 41 w18.heap.size w18.heap.size w25.heap.size w218 v24 (([] : List ((List Int) × Value))) := by first | exact hf69.stp hst220 (by intro q hq; have hq0 := hf68.lt q hq; omega) | exact hf69.stpF flat_shRowN hst220 (hf69.ne hf68 rfl)
      replace hf70 : Nst shI64 2 (fun x : List Int => x) w18.heap.size w25.heap.size w218 (([] : List ((List Int) × Value))) := by first | exact hf70.stpF flat_shI64 hst220 hf68 rfl | exact hf70.stp hst220 (by intro q hq; have hq0 := hf68.lt q hq; omega)
      replace hf72 : Own shStr 9 w40.heap.size w40.heap.size w57.heap.size w218 v56 ((spl (124 : UInt8) [] x46)) := by first | exact hf72.stp hst220 (by intro q hq; have hq0 := hf68.lt q hq; omega) | exact hf72.stpF flat_shStr hst220 (fun q hq => hsp74 q hq)
      replace hf71 : Box w218 w25.heap.size 28 [v, v24] := by first | exact hf71.stp hst220 (by intro q hq; have hq0 := hf68.lt q hq; omega) | exact hf71.stp hst220 (by intro q hq e; subst e; exact hf68.ne_box hf71 rfl hq)
      replace ho210 := ho210.stp hst220 (by intro q hq; have hq0 := hf68.lt q hq; omega)
      have hsp224 : ∀ q, Value.ownBlock v217 = some q → Value.ownBlock v10 ≠ some q := by intro q hq hb; have hq0 := hf67.lt q hb; rcases hob221 with h | h; (rw [h] at hq; first | (have hq1 := hf68.lt q hq; omega) | exact hsp73 q hq hb); (rw [h] at hq; cases hq; omega)
      have hsp225 : ∀ q, Value.ownBlock v217 = some q → Value.ownBlock v56 ≠ some q := by intro q hq hb; have hq0 := hf72.lt q hb; rcases hob221 with h | h; (rw [h] at hq; first | (have hq1 := hf68.lt q hq; omega) | exact hsp74 q hq hb); (rw [h] at hq; cases hq; omega)
      have hsp226 : ∀ q, Value.ownBlock v217 = some q → Value.ownBlock v208 ≠ some q := by intro q hq hb; have hq0 := ho210.lt q hb; rcases hob221 with h | h; (rw [h] at hq; first | (have hq1 := hf68.lt q hq; omega)); (rw [h] at hq; cases hq; omega)
      have hs227 := (StpL.of_ext (B := fun i => Value.ownBlock v = some i ∨ i = w25.heap.size) hs214).trans' (Stp.toL hst220 (by intro q hq; exact Or.inl hq))
      refine ⟨hs227, ?_⟩
      refine dr_val (i := 9) ha222 rfl (by kernel_rfl) (by kernel_rfl) (by kernel_rfl) rfl rfl rfl hs227 (fun w' hw' => op_fieldAddr (sz := 0) ha222 rfl Try.underlying28 rfl rfl ti22 rfl) ?_
      intro a228 ha228; clear ha222 a222
      refine dr_one (i := 10) (by kernel_rfl) ?_
      refine po_effS ha228 rfl rfl rfl (op_store' (off := 0) ha228 rfl ti22 rfl rfl hf71 ho219.cells1 rfl (by intro u hu; have hu : u ∈ ([v217] : List Value) := hu; simp only [List.mem_cons, List.mem_nil_iff, or_false] at hu; rcases hu with rfl <;> first | rfl | exact ho219.one) (Nat.le_of_ble_eq_true rfl)) ?_
      rintro w229 ⟨hb231, hst230, hz232⟩
      have hx233 := hx223.stp hst230 (by intro q hq; cases hq; exact (by omega))
      have hzhx233 := hst230.size
      replace hf66 := hf66.stp hst230 (by intro q hq; cases hq; omega)
      replace hf67 := hf67.stp hst230 (by intro q hq; cases hq; omega)
      replace hf69 := hf69.stp hst230 (by intro q hq; cases hq; omega)
      replace hf70 := hf70.stp hst230 (by intro q hq; cases hq; omega)
      replace hf72 := hf72.stp hst230 (by intro q hq; cases hq; omega)
      replace ho210 := ho210.stp hst230 (by intro q hq; cases hq; omega)
      replace ho219 : Own shStr 9 w11.heap.size w11.heap.size w218.heap.size w229 v217 ((acc ++ [(trS x89)])) := by first | exact ho219.stp hst230 (by intro q hq; cases hq; omega) | exact ho219.stpF flat_shStr hst230 (by intro q hq; cases hq; exact ho219.ne_box (by assumption) rfl)
      clear hf71
      have hs234 := hs227.trans' (Stp.toL hst230 (by intro q hq; cases hq; exact Or.inr (rfl)))
      refine ⟨hs234, ?_⟩
      refine dr_end (by kernel_rfl) ?_
      refine block_n ?_
      refine then_n ?_
      refine wp_region_lit ?_
      refine wl_val ha228 rfl rfl rfl (op_move ha228 rfl rfl) ?_
      intro a235 ha235; clear ha228 a228
      refine wl_val ha235 rfl rfl rfl ((op_add ha235 rfl rfl rfl).int (IntWalk.i64_in _ (by omega))) ?_
      intro a236 ha236; clear ha235 a235
      refine wl_val ha236 rfl rfl rfl (op_assign ha236 rfl rfl) ?_
      intro a237 ha237; clear ha236 a236
      refine wpList_nil ?_
      refine round_end (x := (i, v, acc)) ((i + 1), v217, (acc ++ [(trS x89)])) ?_ ?_
      ·
       refine ⟨(Sl.cons_ ha237 rfl rfl (Sl.cons_ ha237 rfl rfl (Sl.cons_ ha237 rfl rfl (Sl.cons_ ha237 rfl rfl (Sl.cons_ ha237 rfl rfl (Sl.cons_ ha237 rfl (int_eq (by omega)) (Sl.nil_ ha237))))))), hx233, hf66, hf67, hf69, hf70, hf72, (ho219.fin (by omega) (by omega) (by omega)), hb231, (by omega), (by intro q hq; first | (intro hb; have hq0 := ho219.lt q hq; have hq1 := hf67.lt q hb; omega) | exact hsp224 q hq), (by intro q hq; first | (intro hb; have hq0 := ho219.lt q hq; have hq1 := hf72.lt q hb; omega) | exact hsp225 q hq), (by omega), (by first | omega | (simp; omega)), (by rw [take_snoc hx89, List.map_append, ← hF0]; rfl)⟩
      ·show ((spl (124 : UInt8) [] x46).length - ((i + 1)) : Nat) < (spl (124 : UInt8) [] x46).length - i; omega
  ·
   rw [decide_eq_false c81] at ha80
   refine cond_f ha80 rfl ?_
   refine wp_exit ?_
   refine then_e ?_
   refine then_e ?_
   refine block_hit ?_
   refine then_n ?_
   refine wp_seq ?_
   refine wp_seq ?_
   refine wp_region_lit ?_
   refine wl_val ha80 rfl rfl rfl (op_assign ha80 rfl rfl) ?_
   intro a238 ha238; clear ha80 a80
   refine wpList_nil ?_
   refine then_n ?_
   refine wp_block ?_
   refine loop_inv (X := Nat × Value × (List (List Int × Value))) (fun (⟨i, v1, zs⟩ : Nat × Value × (List (List Int × Value))) fr wl => Sl 91 fr [(0, St s), (2, .pointer (some (⟨w0.heap.size, 0, none⟩ : Addr))), (4, v10), (5, .pointer (some (⟨w25.heap.size, 0, none⟩ : Addr))), (8, .int .i64 ((i : Nat) : Int))] ∧ Ext w0 wl ∧ Box wl w0.heap.size 28 [.slice none 0 0, .slice none 0 0] ∧ Own shStr 9 w2.heap.size w2.heap.size w11.heap.size wl v10 ((spl (10 : UInt8) [] s)) ∧ Own shStr 9 w11.heap.size w11.heap.size w64.heap.size wl v acc ∧ Own shRowN 41 w18.heap.size w18.heap.size wl.heap.size wl v1 zs ∧ Nst shI64 2 (fun x : List Int => x) w18.heap.size wl.heap.size wl zs ∧ Box wl w25.heap.size 28 [v, v1] ∧ w64.heap.size ≤ wl.heap.size ∧ (1 ≤ i) ∧ (i ≤ (spl (10 : UInt8) [] s).length) ∧ (zs.length ≤ i) ∧ (acc = hdsR s) ∧ ((rsO l01Sg (((spl (10 : UInt8) [] s).drop i).dropLast)).map (zs.map (·.1) ++ ·) = rsO l01Sg (lnsS s))) (fun (⟨i, v1, zs⟩ : Nat × Value × (List (List Int × Value))) => (spl (10 : UInt8) [] s).length - i) (1, v24, ([] : List ((List Int) × Value))) ?_ ?_
   ·
    exact ⟨(Sl.cons_ ha238 rfl rfl (Sl.cons_ ha238 rfl rfl (Sl.cons_ ha238 rfl rfl (Sl.cons_ ha238 rfl rfl (Sl.cons_ ha238 rfl (int_eq (by omega)) (Sl.nil_ ha238)))))), hx65, hf66, hf67, hf68, (hf69.fin (by omega) (by omega) (by omega)), (hf70.fin (by omega) (by omega)), hf71, (by omega), (by omega), (by omega), (by exact Nat.zero_le _), (by rw [hF0]; unfold hdsR; rw [hx46, List.take_of_length_le (by omega)]; rfl), (by unfold lnsS; simp)⟩
   ·
    clear ha238 a238
    rintro ⟨i, v1, zs⟩ a247 w239 ⟨ha247, hx240, hf241, hf242, hf243, hf244, hf245, hf246, hzl248, hi1, hi, hl, hH, hF⟩
    have hzhx240 := hx240.size
    refine wp_seq ?_
    refine wp_seq ?_
    refine wp_region_lit ?_
    refine wl_val ha247 rfl rfl rfl (op_move ha247 rfl rfl) ?_
    intro a249 ha249; clear ha247 a247
    refine wl_val ha249 rfl rfl rfl ((op_add ha249 rfl rfl rfl).int (IntWalk.i64_in _ (by omega))) ?_
    intro a250 ha250; clear ha249 a249
    refine wl_val ha250 rfl rfl rfl (op_move ha250 rfl rfl) ?_
    intro a251 ha251; clear ha250 a250
    refine wl_val ha251 rfl rfl rfl (op_len_sl ha251 rfl Try.underlying22 rfl (hf242.rds pos_shStr)) ?_
    intro a252 ha252; clear ha251 a251
    refine wl_val ha252 rfl rfl rfl (op_lss ha252 rfl rfl rfl) ?_
    intro a253 ha253; clear ha252 a252
    refine wpList_nil ?_
    refine then_n ?_
    by_cases c254 : (((i : Nat) : Int) + (1 : Int)) < ((((spl (10 : UInt8) [] s)).length : Nat) : Int)
    ·
     rw [decide_eq_true c254] at ha253
     refine cond_t ha253 rfl ?_
     refine wp_skip ?_
     refine then_n ?_
     refine wp_seq ?_
     refine wp_block ?_
     refine wp_seq ?_
     refine wp_region_lit ?_
     refine wl_val ha253 rfl rfl rfl (op_move ha253 rfl rfl) ?_
     intro a255 ha255; clear ha253 a253
     refine wl_val ha255 rfl rfl rfl (op_move ha255 rfl rfl) ?_
     intro a256 ha256; clear ha255 a255
     obtain ⟨x257, hx257⟩ := get_ex (xs := (spl (10 : UInt8) [] s)) (j := i) (by omega)
     obtain ⟨p258, c259, hi260, hc261, hr262, hs263⟩ := Rds.at_ (hf242.rds pos_shStr) hx257
     obtain ⟨rfl, b264⟩ := inv_shStr hr262
     obtain ⟨_, _⟩ : _ ∧ _ := hs263
     have hlxx257 := spl_el (List.mem_of_getElem? hx257)
     simp only [List.length_nil, Nat.zero_add] at hlxx257
     have htlx257 := trS_len x257
     have hsgx257 := l01Sg_bd (trS x257)
     have hrvx257 := rdV_bd (trS x257)
     have hclx257 := spl_len 124 x257 []
     have hcpx257 := spl_pos 124 x257 []
     refine wl_val ha256 rfl rfl rfl (op_indexAddr ha256 rfl Try.underlying22 ti9 rfl rfl (by omega) hi260) ?_
     intro a265 ha265; clear ha256 a256
     refine wl_val ha265 rfl rfl rfl (op_loadH ha265 rfl Try.underlying9 rfl rfl hc261 rfl) ?_
     intro a266 ha266; clear ha265 a265
     refine wl_callR ha266 rfl rfl rfl (op_call ha266 rfl cb91 rfl) (c_spec_l01Split _ x257 (124 : UInt8) (by first | assumption | omega | (simp; omega))) ?_
     rintro v267 w268 he269 ho270 a271 ha271; clear ha266 a266
     have hx272 := hx240.trans' he269
     have hzhx272 := he269.size
     replace hf241 := hf241.ext he269
     replace hf242 := hf242.ext he269
     replace hf243 := hf243.ext he269
     replace hf244 := hf244.ext he269
     replace hf245 := hf245.ext he269
     replace hf246 := hf246.ext he269
     replace hc261 := hc261.ext he269
     refine wl_val ha271 rfl rfl rfl (op_assign ha271 rfl rfl) ?_
     intro a273 ha273; clear ha271 a271
     refine wpList_nil ?_
     refine then_n ?_
     refine wp_seq ?_
     refine wp_region_lit ?_
     refine wl_eff ha273 rfl rfl rfl (op_buildSlice (s := shI64) (xs := ([] : List Int)) (cs := []) (vs := []) (S := fun _ => False) (le := w268.heap.size) ha273 rfl pos_shI64 Try.underlying41 ti2 rfl rfl (by decide) (by kernel_rfl) rfl (fun _ h => h.elim)) ?_
     rintro v274 w275 ⟨ho276, he277, hob278⟩ a279 ha279; clear ha273 a273
     have hx280 := hx272.trans' he277
     have hzhx280 := he277.size
     replace hf241 := hf241.ext he277
     replace hf242 := hf242.ext he277
     replace hf243 := hf243.ext he277
     replace hf244 := hf244.ext he277
     replace hf245 := hf245.ext he277
     replace hf246 := hf246.ext he277
     replace hc261 := hc261.ext he277
     replace ho270 := ho270.ext he277
     refine wl_val ha279 rfl rfl rfl (op_assign ha279 rfl rfl) ?_
     intro a281 ha281; clear ha279 a279
     refine wpList_nil ?_
     refine then_n ?_
     refine wp_seq ?_
     refine wp_seq ?_
     refine wp_region_lit ?_
     refine wl_val ha281 rfl rfl rfl (op_assign ha281 rfl rfl) ?_
     intro a282 ha282; clear ha281 a281
     refine wpList_nil ?_
     refine then_n ?_
     refine wp_block ?_
     refine loop_inv (X := Nat × Value × (List Int)) (fun (⟨j, v2, acc2⟩ : Nat × Value × (List Int)) fr wl => Sl 91 fr [(0, St s), (2, .pointer (some (⟨w0.heap.size, 0, none⟩ : Addr))), (4, v10), (5, .pointer (some (⟨w25.heap.size, 0, none⟩ : Addr))), (8, .int .i64 ((i : Nat) : Int)), (9, v267), (10, v2), (11, .int .i64 ((j : Nat) : Int))] ∧ Ext w0 wl ∧ Box wl w0.heap.size 28 [.slice none 0 0, .slice none 0 0] ∧ Own shStr 9 w2.heap.size w2.heap.size w11.heap.size wl v10 ((spl (10 : UInt8) [] s)) ∧ Own shStr 9 w11.heap.size w11.heap.size w64.heap.size wl v acc ∧ Own shRowN 41 w18.heap.size w18.heap.size w239.heap.size wl v1 zs ∧ Nst shI64 2 (fun x : List Int => x) w18.heap.size w239.heap.size wl zs ∧ Box wl w25.heap.size 28 [v, v1] ∧ Own shStr 9 w239.heap.size w239.heap.size w268.heap.size wl v267 ((spl (124 : UInt8) [] x257)) ∧ Own shI64 2 w268.heap.size w268.heap.size wl.heap.size wl v2 acc2 ∧ w275.heap.size ≤ wl.heap.size ∧ (j ≤ (spl (124 : UInt8) [] x257).length) ∧ (acc2.length ≤ j) ∧ ((rwO l01Sg ((spl (124 : UInt8) [] x257).drop j)).map (acc2 ++ ·) = rwO l01Sg (spl (124 : UInt8) [] x257))) (fun (⟨j, v2, acc2⟩ : Nat × Value × (List Int)) => (spl (124 : UInt8) [] x257).length - j) (0, v274, ([] : List Int)) ?_ ?_
     ·
      exact ⟨(Sl.cons_ ha282 rfl rfl (Sl.cons_ ha282 rfl rfl (Sl.cons_ ha282 rfl rfl (Sl.cons_ ha282 rfl rfl (Sl.cons_ ha282 rfl rfl (Sl.cons_ ha282 rfl rfl (Sl.cons_ ha282 rfl rfl (Sl.cons_ ha282 rfl (int_eq (by omega)) (Sl.nil_ ha282))))))))), hx280, hf241, hf242, hf243, hf244, hf245, hf246, ho270, (ho276.fin (by omega) (by omega) (by omega)), (by omega), (by omega), (by exact Nat.zero_le _), (by simp)⟩
     ·
      clear ha282 a282
      rintro ⟨j, v2, acc2⟩ a293 w283 ⟨ha293, hx284, hf285, hf286, hf288, hf289, hf290, hf287, hf291, hf292, hzl294, hj, hl2, hF2⟩
      have hzhx284 := hx284.size
      refine wp_seq ?_
      refine wp_seq ?_
      refine wp_region_lit ?_
      refine wl_val ha293 rfl rfl rfl (op_move ha293 rfl rfl) ?_
      intro a295 ha295; clear ha293 a293
      refine wl_val ha295 rfl rfl rfl (op_move ha295 rfl rfl) ?_
      intro a296 ha296; clear ha295 a295
      refine wl_val ha296 rfl rfl rfl (op_len_sl ha296 rfl Try.underlying22 rfl (hf291.rds pos_shStr)) ?_
      intro a297 ha297; clear ha296 a296
      refine wl_val ha297 rfl rfl rfl (op_lss ha297 rfl rfl rfl) ?_
      intro a298 ha298; clear ha297 a297
      refine wpList_nil ?_
      refine then_n ?_
      by_cases c299 : ((j : Nat) : Int) < ((((spl (124 : UInt8) [] x257)).length : Nat) : Int)
      ·
       rw [decide_eq_true c299] at ha298
       refine cond_t ha298 rfl ?_
       refine wp_skip ?_
       refine then_n ?_
       refine wp_seq ?_
       refine wp_block ?_
       refine wp_seq ?_
       refine wp_region_lit ?_
       refine wl_val ha298 rfl rfl rfl (op_move ha298 rfl rfl) ?_
       intro a300 ha300; clear ha298 a298
       refine wl_val ha300 rfl rfl rfl (op_move ha300 rfl rfl) ?_
       intro a301 ha301; clear ha300 a300
       obtain ⟨x302, hx302⟩ := get_ex (xs := (spl (124 : UInt8) [] x257)) (j := j) (by omega)
       obtain ⟨p303, c304, hi305, hc306, hr307, hs308⟩ := Rds.at_ (hf291.rds pos_shStr) hx302
       obtain ⟨rfl, b309⟩ := inv_shStr hr307
       obtain ⟨_, _⟩ : _ ∧ _ := hs308
       have hlxx302 := spl_el (List.mem_of_getElem? hx302)
       simp only [List.length_nil, Nat.zero_add] at hlxx302
       have htlx302 := trS_len x302
       have hsgx302 := l01Sg_bd (trS x302)
       have hrvx302 := rdV_bd (trS x302)
       have hclx302 := spl_len 124 x302 []
       have hcpx302 := spl_pos 124 x302 []
       refine wl_val ha301 rfl rfl rfl (op_indexAddr ha301 rfl Try.underlying22 ti9 rfl rfl (by omega) hi305) ?_
       intro a310 ha310; clear ha301 a301
       refine wl_val ha310 rfl rfl rfl (op_loadH ha310 rfl Try.underlying9 rfl rfl hc306 rfl) ?_
       intro a311 ha311; clear ha310 a310
       refine wl_callR ha311 rfl rfl rfl (op_call ha311 rfl cb92 rfl) (c_spec_l31Trim _ x302 (by first | assumption | omega | (simp; omega))) ?_
       rintro v312 w313 he314 rfl a315 ha315; clear ha311 a311
       have hx316 := hx284.trans' he314
       have hzhx316 := he314.size
       replace hf285 := hf285.ext he314
       replace hf286 := hf286.ext he314
       replace hf288 := hf288.ext he314
       replace hf289 := hf289.ext he314
       replace hf290 := hf290.ext he314
       replace hf287 := hf287.ext he314
       replace hf291 := hf291.ext he314
       replace hf292 := hf292.ext he314
       replace hc306 := hc306.ext he314
       refine wl_callR ha315 rfl rfl rfl (op_call ha315 rfl cb93 rfl) (c_spec_l01Signed _ ((trS x302)) (by first | assumption | omega | (simp; omega))) ?_
       rintro v317 w318 he319 rfl a320 ha320; clear ha315 a315
       have hx321 := hx316.trans' he319
       have hzhx321 := he319.size
       replace hf285 := hf285.ext he319
       replace hf286 := hf286.ext he319
       replace hf288 := hf288.ext he319
       replace hf289 := hf289.ext he319
       replace hf290 := hf290.ext he319
       replace hf287 := hf287.ext he319
       replace hf291 := hf291.ext he319
       replace hf292 := hf292.ext he319
       replace hc306 := hc306.ext he319
       refine wl_val ha320 rfl rfl rfl (op_move ha320 rfl rfl) ?_
       intro a322 ha322; clear ha320 a320
       refine wl_val ha322 rfl rfl rfl (op_extract ha322 rfl rfl rfl) ?_
       intro a323 ha323; clear ha322 a322
       refine wl_val ha323 rfl rfl rfl (op_extract ha323 rfl rfl rfl) ?_
       intro a324 ha324; clear ha323 a323
       refine wl_val ha324 rfl rfl rfl (op_assign ha324 rfl rfl) ?_
       intro a325 ha325; clear ha324 a324
       refine wl_val ha325 rfl rfl rfl (op_assign ha325 rfl rfl) ?_
       intro a326 ha326; clear ha325 a325
       refine wpList_nil ?_
       refine then_n ?_
       refine wp_seq ?_
       refine wp_seq ?_
       refine wp_region_lit ?_
       refine wl_val ha326 rfl rfl rfl (op_move ha326 rfl rfl) ?_
       intro a327 ha327; clear ha326 a326
       refine wl_val ha327 rfl rfl rfl (op_not ha327 rfl rfl) ?_
       intro a328 ha328; clear ha327 a327
       refine wpList_nil ?_
       refine then_n ?_
       rcases Bool.eq_false_or_eq_true ((l01Sg ((trS x302))).2) with c329 | c329
       ·
        rw [c329] at ha328
        refine cond_f ha328 rfl ?_
        refine wp_skip ?_
        refine then_n ?_
        refine wp_region_lit ?_
        refine wl_val ha328 rfl rfl rfl (op_move ha328 rfl rfl) ?_
        intro a330 ha330; clear ha328 a328
        refine wl_val ha330 rfl rfl rfl (op_move ha330 rfl rfl) ?_
        intro a331 ha331; clear ha330 a330
        refine wl_eff ha331 rfl rfl rfl (op_buildSlice (s := shI64) (xs := [((l01Sg ((trS x302))).1 : Int)]) (cs := [.int .i64 ((l01Sg ((trS x302))).1 : Int)]) (vs := [(0, .int .i64 ((l01Sg ((trS x302))).1 : Int))]) (S := fun _ => False) (le := w318.heap.size) ha331 rfl pos_shI64 Try.underlying41 ti2 rfl rfl (by decide) (by kernel_rfl) (Els.single (mk_shI64 (((l01Sg ((trS x302))).1 : Int)) (by first | assumption | omega | (simp; done)))) (fun _ h => h.elim)) ?_
        rintro v332 w333 ⟨ho334, he335, hob336⟩ a337 ha337; clear ha331 a331
        have hx338 := hx321.trans' he335
        have hzhx338 := he335.size
        replace hf285 := hf285.ext he335
        replace hf286 := hf286.ext he335
        replace hf288 := hf288.ext he335
        replace hf289 := hf289.ext he335
        replace hf290 := hf290.ext he335
        replace hf287 := hf287.ext he335
        replace hf291 := hf291.ext he335
        replace hf292 := hf292.ext he335
        replace hc306 := hc306.ext he335
        refine wl_eff ha337 rfl rfl rfl (op_append (ts := #[]) (s := shI64) ha337 rfl Try.underlying41 ti2 rfl pos_shI64 rfl rfl hf292 (ho334.rds pos_shI64) (by omega) (by omega) (by first | omega | (simp; omega)) (by first | omega | (simp; omega)) (.inl flat_shI64)) ?_
        rintro v339 w340 ⟨ho341, hst342, hob343⟩ a344 ha344; clear ha337 a337
        have hx345 := hx338.stp hst342 (by intro q hq; have hq0 := hf292.lt q hq; omega)
        have hzhx345 := hst342.size
        replace hf285 := hf285.stp hst342 (by intro q hq; have hq0 := hf292.lt q hq; omega)
        replace hf286 := hf286.stp hst342 (by intro q hq; have hq0 := hf292.lt q hq; omega)
        replace hf288 := hf288.stp hst342 (by intro q hq; have hq0 := hf292.lt q hq; omega)
        replace hf289 := hf289.stp hst342 (by intro q hq; have hq0 := hf292.lt q hq; omega)
        replace hf290 := hf290.stp hst342 (by intro q hq; have hq0 := hf292.lt q hq; omega)
        replace hf287 := hf287.stp hst342 (by intro q hq; have hq0 := hf292.lt q hq; omega)
        replace hf291 := hf291.stp hst342 (by intro q hq; have hq0 := hf292.lt q hq; omega)
        replace ho334 := ho334.stp hst342 (by intro q hq; have hq0 := hf292.lt q hq; omega)
        have hsp346 : ∀ q, Value.ownBlock v339 = some q → Value.ownBlock v332 ≠ some q := by intro q hq hb; have hq0 := ho334.lt q hb; rcases hob343 with h | h; (rw [h] at hq; first | (have hq1 := hf292.lt q hq; omega)); (rw [h] at hq; cases hq; omega)
        refine wl_val ha344 rfl rfl rfl (op_assign ha344 rfl rfl) ?_
        intro a347 ha347; clear ha344 a344
        refine wpList_nil ?_
        refine block_n ?_
        refine then_n ?_
        refine wp_region_lit ?_
        refine wl_val ha347 rfl rfl rfl (op_move ha347 rfl rfl) ?_
        intro a348 ha348; clear ha347 a347
        refine wl_val ha348 rfl rfl rfl ((op_add ha348 rfl rfl rfl).int (IntWalk.i64_in _ (by omega))) ?_
        intro a349 ha349; clear ha348 a348
        refine wl_val ha349 rfl rfl rfl (op_assign ha349 rfl rfl) ?_
        intro a350 ha350; clear ha349 a349
        refine wpList_nil ?_
        refine round_end (x := (j, v2, acc2)) ((j + 1), v339, (acc2 ++ [((l01Sg ((trS x302))).1 : Int)])) ?_ ?_
        ·
         refine ⟨(Sl.cons_ ha350 rfl rfl (Sl.cons_ ha350 rfl rfl (Sl.cons_ ha350 rfl rfl (Sl.cons_ ha350 rfl rfl (Sl.cons_ ha350 rfl rfl (Sl.cons_ ha350 rfl rfl (Sl.cons_ ha350 rfl rfl (Sl.cons_ ha350 rfl (int_eq (by omega)) (Sl.nil_ ha350))))))))), hx345, hf285, hf286, hf288, hf289, hf290, hf287, hf291, (ho341.fin (by omega) (by omega) (by omega)), (by omega), (by omega), (by first | omega | (simp; omega)), (by rw [drop_cons hx302, rwO_ok (by assumption), mp_app] at hF2; exact hF2)⟩
        ·show ((spl (124 : UInt8) [] x257).length - ((j + 1)) : Nat) < (spl (124 : UInt8) [] x257).length - j; omega
       ·
        rw [c329] at ha328
        refine cond_t ha328 rfl ?_
        refine wp_seq ?_
        refine wp_region_lit ?_
        refine wl_val ha328 rfl rfl rfl (op_build (vs := []) (cs := #[.slice none 0 0, .slice none 0 0]) ha328 rfl Try.underlying28 ti28 bp28 rfl rfl) ?_
        intro a351 ha351; clear ha328 a328
        refine wl_effS ha351 rfl rfl (op_storeAll' ha351 rfl ti28 rfl rfl hf285 rfl rfl (by simp [Value.oneCell']) rfl) ?_
        rintro w352 ⟨hb354, hst353, hz355⟩
        have hx356 := hx321.stp hst353 (by intro q hq; cases hq; exact (by omega))
        have hzhx356 := hst353.size
        replace hf286 := hf286.stp hst353 (by intro q hq; cases hq; omega)
        replace hf288 := hf288.stp hst353 (by intro q hq; cases hq; omega)
        replace hf289 := hf289.stp hst353 (by intro q hq; cases hq; omega)
        replace hf290 := hf290.stp hst353 (by intro q hq; cases hq; omega)
        replace hf287 := hf287.stp hst353 (by intro q hq; cases hq; omega)
        replace hf291 := hf291.stp hst353 (by intro q hq; cases hq; omega)
        replace hf292 := hf292.stp hst353 (by intro q hq; cases hq; omega)
        replace hc306 := hc306.stp hst353 (by intro q hq; cases hq; omega)
        clear hf285
        refine wl_val ha351 rfl rfl rfl (op_assign ha351 rfl rfl) ?_
        intro a357 ha357; clear ha351 a351
        refine wpList_nil ?_
        refine then_n ?_
        refine wp_ret ?_
        refine then_r ?_
        refine block_r ?_
        refine then_r ?_
        refine then_r ?_
        refine block_r ?_
        refine then_r ?_
        refine block_r ?_
        refine then_r ?_
        refine then_r ?_
        refine block_r ?_
        refine then_r ?_
        refine retct ha357 rfl rfl rfl Try.underlying28 ti28 rfl hb354.cells ?_
        clear ha357 a357
        rw [drop_cons hx302, rwO_bad (by assumption)] at hF2
        rw [dl_cons hx257 (by omega), rsO_bad hF2.symm] at hF
        have hr : rdS s = none := rdS_none (by unfold prS; rw [← hF]; rfl)
        refine ret_mk hx356 ⟨(.slice none 0 0), (.slice none 0 0), [], (tup2_eq (by rfl) (int_eq (by exact (rd_n hr).2.symm))), ?_, Own.nil _ _ _ _ _ _, Nst.nil _ _ _ _ _ _, ?_⟩
        ·
         refine Own.nil_ _ _ _ _ _ _ ?_
         rw [(rd_n hr).1]
        ·
         rw [(rd_n hr).1]; rfl
      ·
       rw [decide_eq_false c299] at ha298
       refine cond_f ha298 rfl ?_
       refine wp_exit ?_
       refine then_e ?_
       refine then_e ?_
       refine block_hit ?_
       refine then_n ?_
       refine wp_region_lit ?_
       refine wl_val ha298 rfl rfl rfl (op_fieldAddr (sz := 0) ha298 rfl Try.underlying28 rfl rfl ti23 rfl) ?_
       intro a358 ha358; clear ha298 a298
       refine wl_val ha358 rfl rfl rfl (op_loadF (off := 1) ha358 rfl Try.underlying23 rfl rfl hf287.cells rfl) ?_
       intro a359 ha359; clear ha358 a358
       refine wl_val ha359 rfl rfl rfl (op_move ha359 rfl rfl) ?_
       intro a360 ha360; clear ha359 a359
       refine wl_eff ha360 rfl rfl rfl (op_buildSlice (s := shRowN) (xs := [((acc2 : List Int), (v2 : Value))]) (cs := [v2]) (vs := [(0, v2)]) (S := fun _ => False) (le := w283.heap.size) ha360 rfl pos_shRowN Try.underlying23 ti41 rfl rfl (by decide) ((fill_one (off := 0) hf292.cells1 (by kernel_rfl) (by kernel_rfl)).trans (by kernel_rfl)) (Els.single (mk_shRowN (((acc2 : List Int), (v2 : Value))) hf292.one)) (fun _ h => h.elim)) ?_
       rintro v361 w362 ⟨ho363, he364, hob365⟩ a366 ha366; clear ha360 a360
       have hx367 := hx284.trans' he364
       have hzhx367 := he364.size
       replace hf285 := hf285.ext he364
       replace hf286 := hf286.ext he364
       replace hf288 := hf288.ext he364
       replace hf289 := hf289.ext he364
       replace hf290 := hf290.ext he364
       replace hf287 := hf287.ext he364
       replace hf291 := hf291.ext he364
       replace hf292 := hf292.ext he364
       have hN368 : Nst shI64 2 (fun x : List Int => x) w268.heap.size w362.heap.size w362 ([((acc2 : List Int), (v2 : Value))]) := Nst.one (hf292.fin (by omega) (by omega) (by omega))
       refine wl_eff ha366 rfl rfl rfl (op_append (ts := #[]) (s := shRowN) ha366 rfl Try.underlying23 ti41 rfl pos_shRowN rfl rfl hf289 (ho363.rds pos_shRowN) (by omega) (by omega) (by first | omega | (simp; omega)) (by first | omega | (simp; omega)) (.inl flat_shRowN)) ?_
       rintro v369 w370 ⟨ho371, hst372, hob373⟩ a374 ha374; clear ha366 a366
       have hx375 := hx367.stp hst372 (by intro q hq; have hq0 := hf289.lt q hq; omega)
       have hzhx375 := hst372.size
       replace hf285 := hf285.stp hst372 (by intro q hq; have hq0 := hf289.lt q hq; omega)
       replace hf286 := hf286.stp hst372 (by intro q hq; have hq0 := hf289.lt q hq; omega)
       replace hf288 : Own shStr 9 w11.heap.size w11.heap.size w64.heap.size w370 v acc := by first | exact hf288.stp hst372 (by intro q hq; have hq0 := hf289.lt q hq; omega) | exact hf288.stpF flat_shStr hst372 (hf288.ne hf289 rfl)
       replace hf290 : Nst shI64 2 (fun x : List Int => x) w18.heap.size w239.heap.size w370 zs := by first | exact hf290.stpF flat_shI64 hst372 hf289 rfl | exact hf290.stp hst372 (by intro q hq; have hq0 := hf289.lt q hq; omega)
       replace hf287 : Box w370 w25.heap.size 28 [v, v1] := by first | exact hf287.stp hst372 (by intro q hq; have hq0 := hf289.lt q hq; omega) | exact hf287.stp hst372 (by intro q hq e; subst e; exact hf289.ne_box hf287 rfl hq)
       replace hf291 := hf291.stp hst372 (by intro q hq; have hq0 := hf289.lt q hq; omega)
       replace hf292 := hf292.stp hst372 (by intro q hq; have hq0 := hf289.lt q hq; omega)
       replace ho363 := ho363.stp hst372 (by intro q hq; have hq0 := hf289.lt q hq; omega)
       replace hN368 := hN368.stp hst372 (by intro q hq; have hq0 := hf289.lt q hq; omega)
       have hsp376 : ∀ q, Value.ownBlock v369 = some q → Value.ownBlock v361 ≠ some q := by intro q hq hb; have hq0 := ho363.lt q hb; rcases hob373 with h | h; (rw [h] at hq; first | (have hq1 := hf289.lt q hq; omega)); (rw [h] at hq; cases hq; omega)
       have hN377 : Nst shI64 2 (fun x : List Int => x) w18.heap.size w370.heap.size w370 ((zs ++ [((acc2 : List Int), (v2 : Value))])) := (hf290.app hN368 (by omega) (by omega) (by omega)).fin (by omega) (by omega)
       refine wl_val ha374 rfl rfl rfl (op_fieldAddr (sz := 0) ha374 rfl Try.underlying28 rfl rfl ti23 rfl) ?_
       intro a378 ha378; clear ha374 a374
       refine wl_effS ha378 rfl rfl (op_store' (off := 1) ha378 rfl ti23 rfl rfl hf287 ho371.cells1 rfl (by intro u hu; have hu : u ∈ ([v369] : List Value) := hu; simp only [List.mem_cons, List.mem_nil_iff, or_false] at hu; rcases hu with rfl <;> first | rfl | exact ho371.one) (Nat.le_of_ble_eq_true rfl)) ?_
       rintro w379 ⟨hb381, hst380, hz382⟩
       have hx383 := hx375.stp hst380 (by intro q hq; cases hq; exact (by omega))
       have hzhx383 := hst380.size
       replace hf285 := hf285.stp hst380 (by intro q hq; cases hq; omega)
       replace hf286 := hf286.stp hst380 (by intro q hq; cases hq; omega)
       replace hf288 : Own shStr 9 w11.heap.size w11.heap.size w64.heap.size w379 v acc := by first | exact hf288.stp hst380 (by intro q hq; cases hq; omega) | exact hf288.stpF flat_shStr hst380 (by intro q hq; cases hq; exact hf288.ne_box (by assumption) rfl)
       replace hf291 := hf291.stp hst380 (by intro q hq; cases hq; omega)
       replace hf292 := hf292.stp hst380 (by intro q hq; cases hq; omega)
       replace ho363 := ho363.stp hst380 (by intro q hq; cases hq; omega)
       replace ho371 : Own shRowN 41 w18.heap.size w18.heap.size w370.heap.size w379 v369 ((zs ++ [((acc2 : List Int), (v2 : Value))])) := by first | exact ho371.stp hst380 (by intro q hq; cases hq; omega) | exact ho371.stpF flat_shRowN hst380 (by intro q hq; cases hq; exact ho371.ne_box (by assumption) rfl)
       replace hN377 : Nst shI64 2 (fun x : List Int => x) w18.heap.size w370.heap.size w379 ((zs ++ [((acc2 : List Int), (v2 : Value))])) := by first | exact hN377.stp hst380 (by intro q hq; cases hq; omega) | exact hN377.stpB flat_shI64 hst380 (by assumption) rfl
       clear hf287
       refine wpList_nil ?_
       refine block_n ?_
       refine then_n ?_
       refine wp_region_lit ?_
       refine wl_val ha378 rfl rfl rfl (op_move ha378 rfl rfl) ?_
       intro a384 ha384; clear ha378 a378
       refine wl_val ha384 rfl rfl rfl ((op_add ha384 rfl rfl rfl).int (IntWalk.i64_in _ (by omega))) ?_
       intro a385 ha385; clear ha384 a384
       refine wl_val ha385 rfl rfl rfl (op_assign ha385 rfl rfl) ?_
       intro a386 ha386; clear ha385 a385
       refine wpList_nil ?_
       refine round_end (x := (i, v1, zs)) ((i + 1), v369, (zs ++ [((acc2 : List Int), (v2 : Value))])) ?_ ?_
       ·
        refine ⟨(Sl.cons_ ha386 rfl rfl (Sl.cons_ ha386 rfl rfl (Sl.cons_ ha386 rfl rfl (Sl.cons_ ha386 rfl rfl (Sl.cons_ ha386 rfl (int_eq (by omega)) (Sl.nil_ ha386)))))), hx383, hf285, hf286, hf288, (ho371.fin (by omega) (by omega) (by omega)), (hN377.fin (by omega) (by omega)), hb381, (by omega), (by omega), (by omega), (by first | omega | (simp; omega)), (by exact hH), (by have hrow : rwO l01Sg (spl 124 [] x257) = some acc2 := (by rw [drop_nil (by omega), rwO] at hF2; rw [← hF2]; simp); rw [dl_cons hx257 (by omega), rsO_ok hrow, mp_app] at hF; rw [List.map_append]; exact hF)⟩
       ·show ((spl (10 : UInt8) [] s).length - ((i + 1)) : Nat) < (spl (10 : UInt8) [] s).length - i; omega
    ·
     rw [decide_eq_false c254] at ha253
     refine cond_f ha253 rfl ?_
     refine wp_exit ?_
     refine then_e ?_
     refine then_e ?_
     refine block_hit ?_
     refine then_n ?_
     refine wp_seq ?_
     refine wp_seq ?_
     refine wp_region_lit ?_
     refine wl_val ha253 rfl rfl rfl (op_loadS ha253 rfl Try.underlying28 ti28 rfl rfl hf246.cells) ?_
     intro a387 ha387; clear ha253 a253
     refine wl_callR ha387 rfl rfl rfl (op_call ha387 rfl cb17 rfl) (c_spec_IsTable _ v v1 ((acc, (zs.map (·.1)))) (hf243.rds pos_shStr) (rds_shRowN (hf244.fin (by omega) (by omega) (by omega)) hf245)) ?_
     rintro v388 w389 he390 rfl a391 ha391; clear ha387 a387
     have hx392 := hx240.trans' he390
     have hzhx392 := he390.size
     replace hf241 := hf241.ext he390
     replace hf242 := hf242.ext he390
     replace hf243 := hf243.ext he390
     replace hf244 := hf244.ext he390
     replace hf245 := hf245.ext he390
     replace hf246 := hf246.ext he390
     refine wl_val ha391 rfl rfl rfl (op_not ha391 rfl rfl) ?_
     intro a393 ha393; clear ha391 a391
     refine wl_val ha393 rfl rfl rfl (op_move ha393 rfl rfl) ?_
     intro a394 ha394; clear ha393 a393
     rcases Bool.eq_false_or_eq_true (tabB ((acc, (zs.map (·.1))))) with c395 | c395
     ·
      rw [c395] at ha394
      refine wl_val ha394 rfl rfl rfl (op_loadS ha394 rfl Try.underlying28 ti28 rfl rfl hf246.cells) ?_
      intro a396 ha396; clear ha394 a394
      refine wl_callR ha396 rfl rfl rfl (op_call ha396 rfl cb88 rfl) (c_spec_l31Text _ v v1 ((acc, (zs.map (·.1)))) (hf243.rds pos_shStr) (rds_shRowN (hf244.fin (by omega) (by omega) (by omega)) hf245) (by first | assumption | omega | (simp; omega))) ?_
      rintro v397 w398 he399 rfl a400 ha400; clear ha396 a396
      have hx401 := hx392.trans' he399
      have hzhx401 := he399.size
      replace hf241 := hf241.ext he399
      replace hf242 := hf242.ext he399
      replace hf243 := hf243.ext he399
      replace hf244 := hf244.ext he399
      replace hf245 := hf245.ext he399
      replace hf246 := hf246.ext he399
      refine wl_val ha400 rfl rfl rfl (op_move ha400 rfl rfl) ?_
      intro a402 ha402; clear ha400 a400
      refine wl_val ha402 rfl rfl rfl ((op_sneq ha402 rfl rfl rfl).to (congrArg Value.bool decide_not)) ?_
      intro a403 ha403; clear ha402 a402
      refine wl_val ha403 rfl rfl rfl (op_pick_f ha403 rfl rfl rfl) ?_
      intro a404 ha404; clear ha403 a403
      refine wpList_nil ?_
      refine then_n ?_
      by_cases c405 : (txS ((acc, (zs.map (·.1))))) = s
      ·
       rw [decide_eq_true c405] at ha404
       refine cond_f ha404 rfl ?_
       refine wp_skip ?_
       refine then_n ?_
       refine wp_seq ?_
       refine wp_region_lit ?_
       refine wl_val ha404 rfl rfl rfl (op_loadS ha404 rfl Try.underlying28 ti28 rfl rfl hf246.cells) ?_
       intro a406 ha406; clear ha404 a404
       refine wl_effS ha406 rfl rfl (op_storeAll' ha406 rfl ti28 rfl rfl hf241 rfl rfl (by intro u hu; have hu : u ∈ ([v, v1] : List Value) := hu; simp only [List.mem_cons, List.mem_nil_iff, or_false] at hu; rcases hu with rfl | rfl <;> first | rfl | exact hf243.one | exact hf244.one) rfl) ?_
       rintro w407 ⟨hb409, hst408, hz410⟩
       have hx411 := hx401.stp hst408 (by intro q hq; cases hq; exact (by omega))
       have hzhx411 := hst408.size
       replace hf242 := hf242.stp hst408 (by intro q hq; cases hq; omega)
       replace hf243 := hf243.stp hst408 (by intro q hq; cases hq; omega)
       replace hf244 := hf244.stp hst408 (by intro q hq; cases hq; omega)
       replace hf245 := hf245.stp hst408 (by intro q hq; cases hq; omega)
       replace hf246 := hf246.stp hst408 (by intro q hq; cases hq; omega)
       clear hf241
       refine wl_val ha406 rfl rfl rfl (op_assign ha406 rfl rfl) ?_
       intro a412 ha412; clear ha406 a406
       refine wpList_nil ?_
       refine then_n ?_
       refine wp_ret ?_
       refine retct ha412 rfl rfl rfl Try.underlying28 ti28 rfl hb409.cells ?_
       clear ha412 a412
       rw [dl_nil (by omega), rsO] at hF
       have hp : prS s = some (acc, zs.map (·.1)) := by unfold prS; rw [← hF, ← hH]; simp
       have hr : rdS s = some (acc, zs.map (·.1)) := by rw [rdS_some hp, okT_t c395 c405]; rfl
       refine ret_mk hx411 ⟨v, v1, zs, (tup2_eq (by rfl) (int_eq (by exact (rd_s hr).2.symm))), ?_, hf244.fin (by omega) (by omega) (by omega), hf245.fin (by omega) (by omega), ?_⟩
       ·
        refine (hf243.fin (by omega) (by omega) (by omega)).cast ?_
        rw [(rd_s hr).1]
       ·
        rw [(rd_s hr).1]
      ·
       rw [decide_eq_false c405] at ha404
       refine cond_t ha404 rfl ?_
       refine wp_seq ?_
       refine wp_region_lit ?_
       refine wl_val ha404 rfl rfl rfl (op_build (vs := []) (cs := #[.slice none 0 0, .slice none 0 0]) ha404 rfl Try.underlying28 ti28 bp28 rfl rfl) ?_
       intro a413 ha413; clear ha404 a404
       refine wl_effS ha413 rfl rfl (op_storeAll' ha413 rfl ti28 rfl rfl hf241 rfl rfl (by simp [Value.oneCell']) rfl) ?_
       rintro w414 ⟨hb416, hst415, hz417⟩
       have hx418 := hx401.stp hst415 (by intro q hq; cases hq; exact (by omega))
       have hzhx418 := hst415.size
       replace hf242 := hf242.stp hst415 (by intro q hq; cases hq; omega)
       replace hf243 := hf243.stp hst415 (by intro q hq; cases hq; omega)
       replace hf244 := hf244.stp hst415 (by intro q hq; cases hq; omega)
       replace hf245 := hf245.stp hst415 (by intro q hq; cases hq; omega)
       replace hf246 := hf246.stp hst415 (by intro q hq; cases hq; omega)
       clear hf241
       refine wl_val ha413 rfl rfl rfl (op_assign ha413 rfl rfl) ?_
       intro a419 ha419; clear ha413 a413
       refine wpList_nil ?_
       refine then_n ?_
       refine wp_ret ?_
       refine then_r ?_
       refine retct ha419 rfl rfl rfl Try.underlying28 ti28 rfl hb416.cells ?_
       clear ha419 a419
       rw [dl_nil (by omega), rsO] at hF
       have hp : prS s = some (acc, zs.map (·.1)) := by unfold prS; rw [← hF, ← hH]; simp
       have hr : rdS s = none := by rw [rdS_some hp, okT_f (.inr c405)]; rfl
       refine ret_mk hx418 ⟨(.slice none 0 0), (.slice none 0 0), [], (tup2_eq (by rfl) (int_eq (by exact (rd_n hr).2.symm))), ?_, Own.nil _ _ _ _ _ _, Nst.nil _ _ _ _ _ _, ?_⟩
       ·
        refine Own.nil_ _ _ _ _ _ _ ?_
        rw [(rd_n hr).1]
       ·
        rw [(rd_n hr).1]; rfl
     ·
      rw [c395] at ha394
      refine wl_skip ha394 rfl rfl rfl ?_
      intro a420 ha420; clear ha394 a394
      refine wl_skip ha420 rfl rfl rfl ?_
      intro a421 ha421; clear ha420 a420
      refine wl_skip ha421 rfl rfl rfl ?_
      intro a422 ha422; clear ha421 a421
      refine wl_skip ha422 rfl rfl rfl ?_
      intro a423 ha423; clear ha422 a422
      refine wl_val ha423 rfl rfl rfl (op_pick_t ha423 rfl rfl rfl) ?_
      intro a424 ha424; clear ha423 a423
      refine wpList_nil ?_
      refine then_n ?_
      refine cond_t ha424 rfl ?_
      refine wp_seq ?_
      refine wp_region_lit ?_
      refine wl_val ha424 rfl rfl rfl (op_build (vs := []) (cs := #[.slice none 0 0, .slice none 0 0]) ha424 rfl Try.underlying28 ti28 bp28 rfl rfl) ?_
      intro a425 ha425; clear ha424 a424
      refine wl_effS ha425 rfl rfl (op_storeAll' ha425 rfl ti28 rfl rfl hf241 rfl rfl (by simp [Value.oneCell']) rfl) ?_
      rintro w426 ⟨hb428, hst427, hz429⟩
      have hx430 := hx392.stp hst427 (by intro q hq; cases hq; exact (by omega))
      have hzhx430 := hst427.size
      replace hf242 := hf242.stp hst427 (by intro q hq; cases hq; omega)
      replace hf243 := hf243.stp hst427 (by intro q hq; cases hq; omega)
      replace hf244 := hf244.stp hst427 (by intro q hq; cases hq; omega)
      replace hf245 := hf245.stp hst427 (by intro q hq; cases hq; omega)
      replace hf246 := hf246.stp hst427 (by intro q hq; cases hq; omega)
      clear hf241
      refine wl_val ha425 rfl rfl rfl (op_assign ha425 rfl rfl) ?_
      intro a431 ha431; clear ha425 a425
      refine wpList_nil ?_
      refine then_n ?_
      refine wp_ret ?_
      refine then_r ?_
      refine retct ha431 rfl rfl rfl Try.underlying28 ti28 rfl hb428.cells ?_
      clear ha431 a431
      rw [dl_nil (by omega), rsO] at hF
      have hp : prS s = some (acc, zs.map (·.1)) := by unfold prS; rw [← hF, ← hH]; simp
      have hr : rdS s = none := by rw [rdS_some hp, okT_f (.inl c395)]; rfl
      refine ret_mk hx430 ⟨(.slice none 0 0), (.slice none 0 0), [], (tup2_eq (by rfl) (int_eq (by exact (rd_n hr).2.symm))), ?_, Own.nil _ _ _ _ _ _, Nst.nil _ _ _ _ _ _, ?_⟩
      ·
       refine Own.nil_ _ _ _ _ _ _ ?_
       rw [(rd_n hr).1]
      ·
       rw [(rd_n hr).1]; rfl

set_option maxHeartbeats 4000000 in
theorem c_impl_ReadTable (w0 : World) (s : Str) (g0 : s.length ≤ 1048576) :
  Calls Try.prog 55 #[St s] w0 (Ret w0 (fun v w1 => ∃ r0_0 r0_1 z0_1, v = .tuple #[.agg #[r0_0, r0_1], .int .i64 (rdC s)] ∧ Own shStr 9 w0.heap.size w0.heap.size w1.heap.size w1 r0_0 ((rdT s).1) ∧ Own shRowN 41 w0.heap.size w0.heap.size w1.heap.size w1 r0_1 z0_1 ∧ Nst shI64 2 (fun x : List Int => x) w0.heap.size w1.heap.size w1 z0_1 ∧ z0_1.map (·.1) = ((rdT s).2))) := by
 refine enter (N := 86) Try.func55 rfl rfl rfl ?_
 intro a0 ha0
 have hx0 := Ext.rfl' w0
 have hsp := spl_pos 10 s []
 have hsl := spl_len 10 s []
 refine wp_seq ?_
 refine wp_region_lit ?_
 refine wl_eff ha0 rfl rfl rfl (op_alloc' rfl ti28 rfl) ?_
 rintro _ w2 ⟨rfl, he3, hb4, hz5⟩ a6 ha6; clear ha0 a0
 have hx7 := hx0.trans' he3
 have hzhx7 := he3.size
 refine wl_val ha6 rfl rfl rfl (op_assign ha6 rfl rfl) ?_
 intro a8 ha8; clear ha6 a6
 refine wpList_nil ?_
 refine then_n ?_
 refine wp_seq ?_
 refine wp_seq ?_
 refine wp_region_lit ?_
 refine wl_val ha8 rfl rfl rfl (op_move ha8 rfl rfl) ?_
 intro a9 ha9; clear ha8 a8
 refine wl_val ha9 rfl rfl rfl (op_len_str ha9 rfl Try.underlying9 rfl) ?_
 intro a10 ha10; clear ha9 a9
 refine wl_val ha10 rfl rfl rfl (op_gtr ha10 rfl rfl rfl) ?_
 intro a11 ha11; clear ha10 a10
 refine wpList_nil ?_
 refine then_n ?_
 by_cases c12 : (4000 : Int) < ((s.length : Nat) : Int)
 ·
  rw [decide_eq_true c12] at ha11
  refine cond_t ha11 rfl ?_
  refine wp_seq ?_
  refine wp_region_lit ?_
  refine wl_val ha11 rfl rfl rfl (op_build (vs := []) (cs := #[.slice none 0 0, .slice none 0 0]) ha11 rfl Try.underlying28 ti28 bp28 rfl rfl) ?_
  intro a13 ha13; clear ha11 a11
  refine wl_effS ha13 rfl rfl (op_storeAll' ha13 rfl ti28 rfl rfl hb4 rfl rfl (by simp [Value.oneCell']) rfl) ?_
  rintro w14 ⟨hb16, hst15, hz17⟩
  have hx18 := hx7.stp hst15 (by intro q hq; cases hq; exact (by omega))
  have hzhx18 := hst15.size
  clear hb4
  refine wl_val ha13 rfl rfl rfl (op_assign ha13 rfl rfl) ?_
  intro a19 ha19; clear ha13 a13
  refine wpList_nil ?_
  refine then_n ?_
  refine wp_ret ?_
  refine then_r ?_
  refine retct ha19 rfl rfl rfl Try.underlying28 ti28 rfl hb16.cells ?_
  clear ha19 a19
  have hr : rdS s = none := rdI_big (by omega)
  refine ret_mk hx18 ⟨(.slice none 0 0), (.slice none 0 0), [], (tup2_eq (by rfl) (int_eq (by exact (rd_n hr).2.symm))), ?_, Own.nil _ _ _ _ _ _, Nst.nil _ _ _ _ _ _, ?_⟩
  ·
   refine Own.nil_ _ _ _ _ _ _ ?_
   rw [(rd_n hr).1]
  ·
   rw [(rd_n hr).1]; rfl
 ·
  rw [decide_eq_false c12] at ha11
  refine cond_f ha11 rfl ?_
  refine wp_skip ?_
  refine then_n ?_
  refine wp_seq ?_
  refine wp_region_lit ?_
  refine wl_val ha11 rfl rfl rfl (op_move ha11 rfl rfl) ?_
  intro a20 ha20; clear ha11 a11
  refine wl_callR ha20 rfl rfl rfl (op_call ha20 rfl cb94 rfl) (c_impl_splitAt _ s (10 : UInt8) (by first | assumption | omega | (simp; omega))) ?_
  rintro v21 w22 he23 ho24 a25 ha25; clear ha20 a20
  have hx26 := hx7.trans' he23
  have hzhx26 := he23.size
  replace hb4 := hb4.ext he23
  refine wl_val ha25 rfl rfl rfl (op_assign ha25 rfl rfl) ?_
  intro a27 ha27; clear ha25 a25
  refine wpList_nil ?_
  refine then_n ?_
  refine wp_seq ?_
  refine wp_region_lit ?_
  refine wl_eff ha27 rfl rfl rfl (op_alloc' rfl ti28 rfl) ?_
  rintro _ w29 ⟨rfl, he30, hb31, hz32⟩ a33 ha33; clear ha27 a27
  have hx34 := hx26.trans' he30
  have hzhx34 := he30.size
  replace hb4 := hb4.ext he30
  replace ho24 := ho24.ext he30
  refine wpList_nil ?_
  refine then_n ?_
  refine wp_seq ?_
  refine wp_seq ?_
  refine wp_region_lit ?_
  refine wl_val ha33 rfl rfl rfl (op_move ha33 rfl rfl) ?_
  intro a35 ha35; clear ha33 a33
  obtain ⟨x36, hx36⟩ := get_ex (xs := (spl (10 : UInt8) [] s)) (j := 0) (by omega)
  obtain ⟨p37, c38, hi39, hc40, hr41, hs42⟩ := Rds.at_ (ho24.rds pos_shStr) hx36
  obtain ⟨rfl, b43⟩ := inv_shStr hr41
  obtain ⟨_, _⟩ : _ ∧ _ := hs42
  have hlxx36 := spl_el (List.mem_of_getElem? hx36)
  simp only [List.length_nil, Nat.zero_add] at hlxx36
  have htlx36 := trS_len x36
  have hsgx36 := l01Sg_bd (trS x36)
  have hrvx36 := rdV_bd (trS x36)
  have hclx36 := spl_len 124 x36 []
  have hcpx36 := spl_pos 124 x36 []
  refine wl_val ha35 rfl rfl rfl (op_indexAddr ha35 rfl Try.underlying22 ti9 rfl rfl (by omega) hi39) ?_
  intro a44 ha44; clear ha35 a35
  refine wl_val ha44 rfl rfl rfl (op_loadH ha44 rfl Try.underlying9 rfl rfl hc40 rfl) ?_
  intro a45 ha45; clear ha44 a44
  refine wl_callR ha45 rfl rfl rfl (op_call ha45 rfl cb94 rfl) (c_impl_splitAt _ x36 (124 : UInt8) (by first | assumption | omega | (simp; omega))) ?_
  rintro v46 w47 he48 ho49 a50 ha50; clear ha45 a45
  have hx51 := hx34.trans' he48
  have hzhx51 := he48.size
  replace hb4 := hb4.ext he48
  replace ho24 := ho24.ext he48
  replace hb31 := hb31.ext he48
  replace hc40 := hc40.ext he48
  refine wl_val ha50 rfl rfl rfl (op_len_sl ha50 rfl Try.underlying22 rfl (ho49.rds pos_shStr)) ?_
  intro a52 ha52; clear ha50 a50
  refine wl_val ha52 rfl rfl rfl (op_move ha52 rfl rfl) ?_
  intro a53 ha53; clear ha52 a52
  refine wpList_nil ?_
  refine then_n ?_
  refine wp_block ?_
  refine loop_inv (X := Nat × Value × (List Str)) (fun (⟨i, v, acc⟩ : Nat × Value × (List Str)) fr wl => Sl 86 fr [(0, St s), (2, .pointer (some (⟨w0.heap.size, 0, none⟩ : Addr))), (4, v21), (5, .pointer (some (⟨w22.heap.size, 0, none⟩ : Addr))), (24, v46), (25, .int .i64 ((((spl (124 : UInt8) [] x36)).length : Nat) : Int)), (26, .int .i64 ((i : Nat) : Int))] ∧ Ext w0 wl ∧ Box wl w0.heap.size 28 [.slice none 0 0, .slice none 0 0] ∧ Own shStr 9 w2.heap.size w2.heap.size w22.heap.size wl v21 ((spl (10 : UInt8) [] s)) ∧ Own shStr 9 w29.heap.size w29.heap.size w47.heap.size wl v46 ((spl (124 : UInt8) [] x36)) ∧ Own shStr 9 w47.heap.size w47.heap.size wl.heap.size wl v acc ∧ Box wl w22.heap.size 28 [v, .slice none 0 0] ∧ w47.heap.size ≤ wl.heap.size ∧ (∀ q, Value.ownBlock v = some q → Value.ownBlock v21 ≠ some q) ∧ (∀ q, Value.ownBlock v = some q → Value.ownBlock v46 ≠ some q) ∧ (i ≤ (spl (124 : UInt8) [] x36).length) ∧ (acc.length ≤ i) ∧ (acc = ((spl (124 : UInt8) [] x36).take i).map trS)) (fun (⟨i, v, acc⟩ : Nat × Value × (List Str)) => (spl (124 : UInt8) [] x36).length - i) (0, (.slice none 0 0), []) ?_ ?_
  ·
   exact ⟨(Sl.cons_ ha53 rfl rfl (Sl.cons_ ha53 rfl rfl (Sl.cons_ ha53 rfl rfl (Sl.cons_ ha53 rfl rfl (Sl.cons_ ha53 rfl rfl (Sl.cons_ ha53 rfl rfl (Sl.cons_ ha53 rfl (int_eq (by omega)) (Sl.nil_ ha53)))))))), hx51, hb4, ho24, ho49, (Own.nil _ _ _ _ _ _), hb31, (by omega), (by intro q hq; cases hq), (by intro q hq; cases hq), (by omega), (by exact Nat.zero_le _), (by simp)⟩
  ·
   clear ha53 a53
   rintro ⟨i, v, acc⟩ a63 w54 ⟨ha63, hx55, hf56, hf57, hf60, hf58, hf59, hzl64, hsp61, hsp62, hi, hl, hF0⟩
   have hzhx55 := hx55.size
   refine wp_seq ?_
   refine wp_region_lit ?_
   refine wl_val ha63 rfl rfl rfl (op_lss ha63 rfl rfl rfl) ?_
   intro a65 ha65; clear ha63 a63
   refine wpList_nil ?_
   refine then_n ?_
   refine wp_seq ?_
   by_cases c66 : ((i : Nat) : Int) < ((((spl (124 : UInt8) [] x36)).length : Nat) : Int)
   ·
    rw [decide_eq_true c66] at ha65
    refine cond_t ha65 rfl ?_
    refine wp_skip ?_
    refine then_n ?_
    refine wp_seq ?_
    refine wp_block ?_
    refine wp_seq ?_
    refine wp_region_lit ?_
    obtain ⟨x67, hx67⟩ := get_ex (xs := (spl (124 : UInt8) [] x36)) (j := i) (by omega)
    obtain ⟨p68, c69, hi70, hc71, hr72, hs73⟩ := Rds.at_ (hf60.rds pos_shStr) hx67
    obtain ⟨rfl, b74⟩ := inv_shStr hr72
    obtain ⟨_, _⟩ : _ ∧ _ := hs73
    have hlxx67 := spl_el (List.mem_of_getElem? hx67)
    simp only [List.length_nil, Nat.zero_add] at hlxx67
    have htlx67 := trS_len x67
    have hsgx67 := l01Sg_bd (trS x67)
    have hrvx67 := rdV_bd (trS x67)
    have hclx67 := spl_len 124 x67 []
    have hcpx67 := spl_pos 124 x67 []
    refine wl_val ha65 rfl rfl rfl (op_indexAddr ha65 rfl Try.underlying22 ti9 rfl rfl (by omega) hi70) ?_
    intro a75 ha75; clear ha65 a65
    refine wl_val ha75 rfl rfl rfl (op_loadH ha75 rfl Try.underlying9 rfl rfl hc71 rfl) ?_
    intro a76 ha76; clear ha75 a75
    refine wl_val ha76 rfl rfl rfl (op_assign ha76 rfl rfl) ?_
    intro a77 ha77; clear ha76 a76
    refine wpList_nil ?_
    refine then_n ?_
    refine dr_enter (fun wa_ wb_ => StpL wa_ wb_ (fun i => Value.ownBlock v = some i ∨ i = w22.heap.size)) follows_mixed ?_
    intro w78 he79
    have hx80 := hx55.trans' he79
    have hzhx80 := he79.size
    replace hf56 := hf56.ext he79
    replace hf57 := hf57.ext he79
    replace hf60 := hf60.ext he79
    replace hf58 := hf58.ext he79
    replace hf59 := hf59.ext he79
    replace hc71 := hc71.ext he79
    have hs81 : Ext w78 w78 := Ext.rfl' _
    refine dr_val (i := 0) ha77 rfl (by kernel_rfl) (by kernel_rfl) (by kernel_rfl) rfl rfl rfl (StpL.of_ext hs81) (fun w' hw' => op_fieldAddr (sz := 0) ha77 rfl Try.underlying28 rfl rfl ti22 rfl) ?_
    intro a82 ha82; clear ha77 a77
    refine dr_val (i := 2) ha82 rfl (by kernel_rfl) (by kernel_rfl) (by kernel_rfl) rfl rfl rfl (StpL.of_ext hs81) (fun w' hw' => op_move ha82 rfl rfl) ?_
    intro a83 ha83; clear ha82 a82
    refine dr_two (i := 1) (j := 3) (by kernel_rfl) ?_ ?_
    ·
     refine po_to ha83 rfl rfl rfl rfl (op_loadF (off := 0) ha83 rfl Try.underlying22 rfl rfl (hf59.ext hs81).cells rfl) ?_
     intro a84 ha84; clear ha83 a83
     refine ⟨(StpL.of_ext hs81), ?_⟩
     refine dr_one (i := 3) (by kernel_rfl) ?_
     refine po_callR ha84 rfl rfl rfl rfl (op_call ha84 rfl cb95 rfl) (c_impl_trimmed _ x67 (by first | assumption | omega | (simp; omega))) ?_
     rintro v85 w86 he87 rfl a88 ha88; clear ha84 a84
     have hs89 := hs81.trans' he87
     have hx90 := hx80.trans' he87
     have hzhx90 := he87.size
     refine ⟨(StpL.of_ext hs89), ?_⟩
     refine dr_one (i := 4) (by kernel_rfl) ?_
     refine po_eff ha88 rfl rfl rfl rfl (op_buildSlice (s := shStr) (xs := [(trS x67)]) (cs := [St ((trS x67))]) (vs := [(0, St ((trS x67)))]) (S := fun _ => False) (le := w86.heap.size) ha88 rfl pos_shStr Try.underlying22 ti9 rfl rfl (by decide) (by kernel_rfl) (Els.single (mk_shStr ((trS x67)) (by first | assumption | omega | (simp; done)))) (fun _ h => h.elim)) ?_
     rintro v91 w92 ⟨ho93, he94, hob95⟩ a96 ha96; clear ha88 a88
     have hs97 := hs89.trans' he94
     have hx98 := hx90.trans' he94
     have hzhx98 := he94.size
     refine ⟨(StpL.of_ext hs97), ?_⟩
     refine dr_one (i := 5) (by kernel_rfl) ?_
     replace hf56 := hf56.ext hs97
     replace hf57 := hf57.ext hs97
     replace hf60 := hf60.ext hs97
     replace hf58 := hf58.ext hs97
     replace hf59 := hf59.ext hs97
     replace hc71 := hc71.ext hs97
     refine po_eff ha96 rfl rfl rfl rfl (op_append (ts := #[]) (s := shStr) ha96 rfl Try.underlying22 ti9 rfl pos_shStr rfl rfl hf58 (ho93.rds pos_shStr) (by omega) (by omega) (by first | omega | (simp; omega)) (by first | omega | (simp; omega)) (.inl flat_shStr)) ?_
     rintro v99 w100 ⟨ho101, hst102, hob103⟩ a104 ha104; clear ha96 a96
     have hx105 := hx98.stp hst102 (by intro q hq; have hq0 := hf58.lt q hq; omega)
     have hzhx105 := hst102.size
     replace hf56 := hf56.stp hst102 (by intro q hq; have hq0 := hf58.lt q hq; omega)
     replace hf57 := hf57.stp hst102 (by intro q hq; have hq0 := hf58.lt q hq; omega)
     replace hf60 := hf60.stp hst102 (by intro q hq; have hq0 := hf58.lt q hq; omega)
     replace hf59 := hf59.stp hst102 (by intro q hq; have hq0 := hf58.lt q hq; omega)
     replace ho93 := ho93.stp hst102 (by intro q hq; have hq0 := hf58.lt q hq; omega)
     have hsp106 : ∀ q, Value.ownBlock v99 = some q → Value.ownBlock v21 ≠ some q := by intro q hq hb; have hq0 := hf57.lt q hb; rcases hob103 with h | h; (rw [h] at hq; first | (have hq1 := hf58.lt q hq; omega) | exact hsp61 q hq hb); (rw [h] at hq; cases hq; omega)
     have hsp107 : ∀ q, Value.ownBlock v99 = some q → Value.ownBlock v46 ≠ some q := by intro q hq hb; have hq0 := hf60.lt q hb; rcases hob103 with h | h; (rw [h] at hq; first | (have hq1 := hf58.lt q hq; omega) | exact hsp62 q hq hb); (rw [h] at hq; cases hq; omega)
     have hsp108 : ∀ q, Value.ownBlock v99 = some q → Value.ownBlock v91 ≠ some q := by intro q hq hb; have hq0 := ho93.lt q hb; rcases hob103 with h | h; (rw [h] at hq; first | (have hq1 := hf58.lt q hq; omega)); (rw [h] at hq; cases hq; omega)
     have hs109 := (StpL.of_ext (B := fun i => Value.ownBlock v = some i ∨ i = w22.heap.size) hs97).trans' (Stp.toL hst102 (by intro q hq; exact Or.inl hq))
     refine ⟨hs109, ?_⟩
     refine dr_val (i := 6) ha104 rfl (by kernel_rfl) (by kernel_rfl) (by kernel_rfl) rfl rfl rfl hs109 (fun w' hw' => op_fieldAddr (sz := 0) ha104 rfl Try.underlying28 rfl rfl ti22 rfl) ?_
     intro a110 ha110; clear ha104 a104
     refine dr_one (i := 7) (by kernel_rfl) ?_
     refine po_effS ha110 rfl rfl rfl (op_store' (off := 0) ha110 rfl ti22 rfl rfl hf59 ho101.cells1 rfl (by intro u hu; have hu : u ∈ ([v99] : List Value) := hu; simp only [List.mem_cons, List.mem_nil_iff, or_false] at hu; rcases hu with rfl <;> first | rfl | exact ho101.one) (Nat.le_of_ble_eq_true rfl)) ?_
     rintro w111 ⟨hb113, hst112, hz114⟩
     have hx115 := hx105.stp hst112 (by intro q hq; cases hq; exact (by omega))
     have hzhx115 := hst112.size
     replace hf56 := hf56.stp hst112 (by intro q hq; cases hq; omega)
     replace hf57 := hf57.stp hst112 (by intro q hq; cases hq; omega)
     replace hf60 := hf60.stp hst112 (by intro q hq; cases hq; omega)
     replace ho93 := ho93.stp hst112 (by intro q hq; cases hq; omega)
     replace ho101 := ho101.stp hst112 (by intro q hq; cases hq; omega)
     clear hf59
     have hs116 := hs109.trans' (Stp.toL hst112 (by intro q hq; cases hq; exact Or.inr (rfl)))
     refine ⟨hs116, ?_⟩
     refine dr_end (by kernel_rfl) ?_
     refine block_n ?_
     refine then_n ?_
     refine wp_region_lit ?_
     refine wl_val ha110 rfl rfl rfl ((op_add ha110 rfl rfl rfl).int (IntWalk.i64_in _ (by omega))) ?_
     intro a117 ha117; clear ha110 a110
     refine wl_val ha117 rfl rfl rfl (op_move ha117 rfl rfl) ?_
     intro a118 ha118; clear ha117 a117
     refine wpList_nil ?_
     refine round_end (x := (i, v, acc)) ((i + 1), v99, (acc ++ [(trS x67)])) ?_ ?_
     ·
      refine ⟨(Sl.cons_ ha118 rfl rfl (Sl.cons_ ha118 rfl rfl (Sl.cons_ ha118 rfl rfl (Sl.cons_ ha118 rfl rfl (Sl.cons_ ha118 rfl rfl (Sl.cons_ ha118 rfl rfl (Sl.cons_ ha118 rfl (int_eq (by omega)) (Sl.nil_ ha118)))))))), hx115, hf56, hf57, hf60, (ho101.fin (by omega) (by omega) (by omega)), hb113, (by omega), (by intro q hq; first | (intro hb; have hq0 := ho101.lt q hq; have hq1 := hf57.lt q hb; omega) | exact hsp106 q hq), (by intro q hq; first | (intro hb; have hq0 := ho101.lt q hq; have hq1 := hf60.lt q hb; omega) | exact hsp107 q hq), (by omega), (by first | omega | (simp; omega)), (by rw [take_snoc hx67, List.map_append, ← hF0]; rfl)⟩
     ·show ((spl (124 : UInt8) [] x36).length - ((i + 1)) : Nat) < (spl (124 : UInt8) [] x36).length - i; omega
    ·
     refine po_callR ha83 rfl rfl rfl rfl (op_call ha83 rfl cb95 rfl) (c_impl_trimmed _ x67 (by first | assumption | omega | (simp; omega))) ?_
     rintro v119 w120 he121 rfl a122 ha122; clear ha83 a83
     have hs123 := hs81.trans' he121
     have hx124 := hx80.trans' he121
     have hzhx124 := he121.size
     refine ⟨(StpL.of_ext hs123), ?_⟩
     refine dr_two (i := 1) (j := 4) (by kernel_rfl) ?_ ?_
     ·
      refine po_to ha122 rfl rfl rfl rfl (op_loadF (off := 0) ha122 rfl Try.underlying22 rfl rfl (hf59.ext hs123).cells rfl) ?_
      intro a125 ha125; clear ha122 a122
      refine ⟨(StpL.of_ext hs123), ?_⟩
      refine dr_one (i := 4) (by kernel_rfl) ?_
      refine po_eff ha125 rfl rfl rfl rfl (op_buildSlice (s := shStr) (xs := [(trS x67)]) (cs := [St ((trS x67))]) (vs := [(0, St ((trS x67)))]) (S := fun _ => False) (le := w120.heap.size) ha125 rfl pos_shStr Try.underlying22 ti9 rfl rfl (by decide) (by kernel_rfl) (Els.single (mk_shStr ((trS x67)) (by first | assumption | omega | (simp; done)))) (fun _ h => h.elim)) ?_
      rintro v126 w127 ⟨ho128, he129, hob130⟩ a131 ha131; clear ha125 a125
      have hs132 := hs123.trans' he129
      have hx133 := hx124.trans' he129
      have hzhx133 := he129.size
      refine ⟨(StpL.of_ext hs132), ?_⟩
      refine dr_one (i := 5) (by kernel_rfl) ?_
      replace hf56 := hf56.ext hs132
      replace hf57 := hf57.ext hs132
      replace hf60 := hf60.ext hs132
      replace hf58 := hf58.ext hs132
      replace hf59 := hf59.ext hs132
      replace hc71 := hc71.ext hs132
      refine po_eff ha131 rfl rfl rfl rfl (op_append (ts := #[]) (s := shStr) ha131 rfl Try.underlying22 ti9 rfl pos_shStr rfl rfl hf58 (ho128.rds pos_shStr) (by omega) (by omega) (by first | omega | (simp; omega)) (by first | omega | (simp; omega)) (.inl flat_shStr)) ?_
      rintro v134 w135 ⟨ho136, hst137, hob138⟩ a139 ha139; clear ha131 a131
      have hx140 := hx133.stp hst137 (by intro q hq; have hq0 := hf58.lt q hq; omega)
      have hzhx140 := hst137.size
      replace hf56 := hf56.stp hst137 (by intro q hq; have hq0 := hf58.lt q hq; omega)
      replace hf57 := hf57.stp hst137 (by intro q hq; have hq0 := hf58.lt q hq; omega)
      replace hf60 := hf60.stp hst137 (by intro q hq; have hq0 := hf58.lt q hq; omega)
      replace hf59 := hf59.stp hst137 (by intro q hq; have hq0 := hf58.lt q hq; omega)
      replace ho128 := ho128.stp hst137 (by intro q hq; have hq0 := hf58.lt q hq; omega)
      have hsp141 : ∀ q, Value.ownBlock v134 = some q → Value.ownBlock v21 ≠ some q := by intro q hq hb; have hq0 := hf57.lt q hb; rcases hob138 with h | h; (rw [h] at hq; first | (have hq1 := hf58.lt q hq; omega) | exact hsp61 q hq hb); (rw [h] at hq; cases hq; omega)
      have hsp142 : ∀ q, Value.ownBlock v134 = some q → Value.ownBlock v46 ≠ some q := by intro q hq hb; have hq0 := hf60.lt q hb; rcases hob138 with h | h; (rw [h] at hq; first | (have hq1 := hf58.lt q hq; omega) | exact hsp62 q hq hb); (rw [h] at hq; cases hq; omega)
      have hsp143 : ∀ q, Value.ownBlock v134 = some q → Value.ownBlock v126 ≠ some q := by intro q hq hb; have hq0 := ho128.lt q hb; rcases hob138 with h | h; (rw [h] at hq; first | (have hq1 := hf58.lt q hq; omega)); (rw [h] at hq; cases hq; omega)
      have hs144 := (StpL.of_ext (B := fun i => Value.ownBlock v = some i ∨ i = w22.heap.size) hs132).trans' (Stp.toL hst137 (by intro q hq; exact Or.inl hq))
      refine ⟨hs144, ?_⟩
      refine dr_val (i := 6) ha139 rfl (by kernel_rfl) (by kernel_rfl) (by kernel_rfl) rfl rfl rfl hs144 (fun w' hw' => op_fieldAddr (sz := 0) ha139 rfl Try.underlying28 rfl rfl ti22 rfl) ?_
      intro a145 ha145; clear ha139 a139
      refine dr_one (i := 7) (by kernel_rfl) ?_
      refine po_effS ha145 rfl rfl rfl (op_store' (off := 0) ha145 rfl ti22 rfl rfl hf59 ho136.cells1 rfl (by intro u hu; have hu : u ∈ ([v134] : List Value) := hu; simp only [List.mem_cons, List.mem_nil_iff, or_false] at hu; rcases hu with rfl <;> first | rfl | exact ho136.one) (Nat.le_of_ble_eq_true rfl)) ?_
      rintro w146 ⟨hb148, hst147, hz149⟩
      have hx150 := hx140.stp hst147 (by intro q hq; cases hq; exact (by omega))
      have hzhx150 := hst147.size
      replace hf56 := hf56.stp hst147 (by intro q hq; cases hq; omega)
      replace hf57 := hf57.stp hst147 (by intro q hq; cases hq; omega)
      replace hf60 := hf60.stp hst147 (by intro q hq; cases hq; omega)
      replace ho128 := ho128.stp hst147 (by intro q hq; cases hq; omega)
      replace ho136 := ho136.stp hst147 (by intro q hq; cases hq; omega)
      clear hf59
      have hs151 := hs144.trans' (Stp.toL hst147 (by intro q hq; cases hq; exact Or.inr (rfl)))
      refine ⟨hs151, ?_⟩
      refine dr_end (by kernel_rfl) ?_
      refine block_n ?_
      refine then_n ?_
      refine wp_region_lit ?_
      refine wl_val ha145 rfl rfl rfl ((op_add ha145 rfl rfl rfl).int (IntWalk.i64_in _ (by omega))) ?_
      intro a152 ha152; clear ha145 a145
      refine wl_val ha152 rfl rfl rfl (op_move ha152 rfl rfl) ?_
      intro a153 ha153; clear ha152 a152
      refine wpList_nil ?_
      refine round_end (x := (i, v, acc)) ((i + 1), v134, (acc ++ [(trS x67)])) ?_ ?_
      ·
       refine ⟨(Sl.cons_ ha153 rfl rfl (Sl.cons_ ha153 rfl rfl (Sl.cons_ ha153 rfl rfl (Sl.cons_ ha153 rfl rfl (Sl.cons_ ha153 rfl rfl (Sl.cons_ ha153 rfl rfl (Sl.cons_ ha153 rfl (int_eq (by omega)) (Sl.nil_ ha153)))))))), hx150, hf56, hf57, hf60, (ho136.fin (by omega) (by omega) (by omega)), hb148, (by omega), (by intro q hq; first | (intro hb; have hq0 := ho136.lt q hq; have hq1 := hf57.lt q hb; omega) | exact hsp141 q hq), (by intro q hq; first | (intro hb; have hq0 := ho136.lt q hq; have hq1 := hf60.lt q hb; omega) | exact hsp142 q hq), (by omega), (by first | omega | (simp; omega)), (by rw [take_snoc hx67, List.map_append, ← hF0]; rfl)⟩
      ·show ((spl (124 : UInt8) [] x36).length - ((i + 1)) : Nat) < (spl (124 : UInt8) [] x36).length - i; omega
     ·
      refine po_eff ha122 rfl rfl rfl rfl (op_buildSlice (s := shStr) (xs := [(trS x67)]) (cs := [St ((trS x67))]) (vs := [(0, St ((trS x67)))]) (S := fun _ => False) (le := w120.heap.size) ha122 rfl pos_shStr Try.underlying22 ti9 rfl rfl (by decide) (by kernel_rfl) (Els.single (mk_shStr ((trS x67)) (by first | assumption | omega | (simp; done)))) (fun _ h => h.elim)) ?_
      rintro v154 w155 ⟨ho156, he157, hob158⟩ a159 ha159; clear ha122 a122
      have hs160 := hs123.trans' he157
      have hx161 := hx124.trans' he157
      have hzhx161 := he157.size
      refine ⟨(StpL.of_ext hs160), ?_⟩
      refine dr_one (i := 1) (by kernel_rfl) ?_
      refine po_to ha159 rfl rfl rfl rfl (op_loadF (off := 0) ha159 rfl Try.underlying22 rfl rfl (hf59.ext hs160).cells rfl) ?_
      intro a162 ha162; clear ha159 a159
      refine ⟨(StpL.of_ext hs160), ?_⟩
      refine dr_one (i := 5) (by kernel_rfl) ?_
      replace hf56 := hf56.ext hs160
      replace hf57 := hf57.ext hs160
      replace hf60 := hf60.ext hs160
      replace hf58 := hf58.ext hs160
      replace hf59 := hf59.ext hs160
      replace hc71 := hc71.ext hs160
      refine po_eff ha162 rfl rfl rfl rfl (op_append (ts := #[]) (s := shStr) ha162 rfl Try.underlying22 ti9 rfl pos_shStr rfl rfl hf58 (ho156.rds pos_shStr) (by omega) (by omega) (by first | omega | (simp; omega)) (by first | omega | (simp; omega)) (.inl flat_shStr)) ?_
      rintro v163 w164 ⟨ho165, hst166, hob167⟩ a168 ha168; clear ha162 a162
      have hx169 := hx161.stp hst166 (by intro q hq; have hq0 := hf58.lt q hq; omega)
      have hzhx169 := hst166.size
      replace hf56 := hf56.stp hst166 (by intro q hq; have hq0 := hf58.lt q hq; omega)
      replace hf57 := hf57.stp hst166 (by intro q hq; have hq0 := hf58.lt q hq; omega)
      replace hf60 := hf60.stp hst166 (by intro q hq; have hq0 := hf58.lt q hq; omega)
      replace hf59 := hf59.stp hst166 (by intro q hq; have hq0 := hf58.lt q hq; omega)
      replace ho156 := ho156.stp hst166 (by intro q hq; have hq0 := hf58.lt q hq; omega)
      have hsp170 : ∀ q, Value.ownBlock v163 = some q → Value.ownBlock v21 ≠ some q := by intro q hq hb; have hq0 := hf57.lt q hb; rcases hob167 with h | h; (rw [h] at hq; first | (have hq1 := hf58.lt q hq; omega) | exact hsp61 q hq hb); (rw [h] at hq; cases hq; omega)
      have hsp171 : ∀ q, Value.ownBlock v163 = some q → Value.ownBlock v46 ≠ some q := by intro q hq hb; have hq0 := hf60.lt q hb; rcases hob167 with h | h; (rw [h] at hq; first | (have hq1 := hf58.lt q hq; omega) | exact hsp62 q hq hb); (rw [h] at hq; cases hq; omega)
      have hsp172 : ∀ q, Value.ownBlock v163 = some q → Value.ownBlock v154 ≠ some q := by intro q hq hb; have hq0 := ho156.lt q hb; rcases hob167 with h | h; (rw [h] at hq; first | (have hq1 := hf58.lt q hq; omega)); (rw [h] at hq; cases hq; omega)
      have hs173 := (StpL.of_ext (B := fun i => Value.ownBlock v = some i ∨ i = w22.heap.size) hs160).trans' (Stp.toL hst166 (by intro q hq; exact Or.inl hq))
      refine ⟨hs173, ?_⟩
      refine dr_val (i := 6) ha168 rfl (by kernel_rfl) (by kernel_rfl) (by kernel_rfl) rfl rfl rfl hs173 (fun w' hw' => op_fieldAddr (sz := 0) ha168 rfl Try.underlying28 rfl rfl ti22 rfl) ?_
      intro a174 ha174; clear ha168 a168
      refine dr_one (i := 7) (by kernel_rfl) ?_
      refine po_effS ha174 rfl rfl rfl (op_store' (off := 0) ha174 rfl ti22 rfl rfl hf59 ho165.cells1 rfl (by intro u hu; have hu : u ∈ ([v163] : List Value) := hu; simp only [List.mem_cons, List.mem_nil_iff, or_false] at hu; rcases hu with rfl <;> first | rfl | exact ho165.one) (Nat.le_of_ble_eq_true rfl)) ?_
      rintro w175 ⟨hb177, hst176, hz178⟩
      have hx179 := hx169.stp hst176 (by intro q hq; cases hq; exact (by omega))
      have hzhx179 := hst176.size
      replace hf56 := hf56.stp hst176 (by intro q hq; cases hq; omega)
      replace hf57 := hf57.stp hst176 (by intro q hq; cases hq; omega)
      replace hf60 := hf60.stp hst176 (by intro q hq; cases hq; omega)
      replace ho156 := ho156.stp hst176 (by intro q hq; cases hq; omega)
      replace ho165 := ho165.stp hst176 (by intro q hq; cases hq; omega)
      clear hf59
      have hs180 := hs173.trans' (Stp.toL hst176 (by intro q hq; cases hq; exact Or.inr (rfl)))
      refine ⟨hs180, ?_⟩
      refine dr_end (by kernel_rfl) ?_
      refine block_n ?_
      refine then_n ?_
      refine wp_region_lit ?_
      refine wl_val ha174 rfl rfl rfl ((op_add ha174 rfl rfl rfl).int (IntWalk.i64_in _ (by omega))) ?_
      intro a181 ha181; clear ha174 a174
      refine wl_val ha181 rfl rfl rfl (op_move ha181 rfl rfl) ?_
      intro a182 ha182; clear ha181 a181
      refine wpList_nil ?_
      refine round_end (x := (i, v, acc)) ((i + 1), v163, (acc ++ [(trS x67)])) ?_ ?_
      ·
       refine ⟨(Sl.cons_ ha182 rfl rfl (Sl.cons_ ha182 rfl rfl (Sl.cons_ ha182 rfl rfl (Sl.cons_ ha182 rfl rfl (Sl.cons_ ha182 rfl rfl (Sl.cons_ ha182 rfl rfl (Sl.cons_ ha182 rfl (int_eq (by omega)) (Sl.nil_ ha182)))))))), hx179, hf56, hf57, hf60, (ho165.fin (by omega) (by omega) (by omega)), hb177, (by omega), (by intro q hq; first | (intro hb; have hq0 := ho165.lt q hq; have hq1 := hf57.lt q hb; omega) | exact hsp170 q hq), (by intro q hq; first | (intro hb; have hq0 := ho165.lt q hq; have hq1 := hf60.lt q hb; omega) | exact hsp171 q hq), (by omega), (by first | omega | (simp; omega)), (by rw [take_snoc hx67, List.map_append, ← hF0]; rfl)⟩
      ·show ((spl (124 : UInt8) [] x36).length - ((i + 1)) : Nat) < (spl (124 : UInt8) [] x36).length - i; omega
   ·
    rw [decide_eq_false c66] at ha65
    refine cond_f ha65 rfl ?_
    refine wp_exit ?_
    refine then_e ?_
    refine then_e ?_
    refine block_hit ?_
    refine then_n ?_
    refine wp_seq ?_
    refine wp_seq ?_
    refine wp_region_lit ?_
    refine wl_val ha65 rfl rfl rfl (op_move ha65 rfl rfl) ?_
    intro a183 ha183; clear ha65 a65
    obtain ⟨u184, hu185, hr186⟩ := Rds.part (hf57.rds pos_shStr) Try.underlying22 ti9 (some (.int .i64 (1 : Nat))) none 1 (((spl (10 : UInt8) [] s)).length) (.inr ⟨.i64, rfl⟩) (.inl ⟨rfl, rfl⟩) (by first | omega | (simp; omega)) (by first | omega | (simp; omega))
    replace hr186 := hr186.cast (ys := ((spl (10 : UInt8) [] s)).drop 1) (by first | rw [List.take_length] | simp)
    refine wl_val ha183 rfl rfl rfl (op_slice_f (by omega) ha183 rfl rfl rfl hu185) ?_
    intro a187 ha187; clear ha183 a183
    refine wl_val ha187 rfl rfl rfl (op_len_sl ha187 rfl Try.underlying22 rfl hr186) ?_
    intro a188 ha188; clear ha187 a187
    refine wl_val ha188 rfl rfl rfl (op_move ha188 rfl rfl) ?_
    intro a189 ha189; clear ha188 a188
    refine wpList_nil ?_
    refine then_n ?_
    refine wp_block ?_
    refine loop_inv (X := Nat × Value × (List (List Int × Value))) (fun (⟨i, v1, zs⟩ : Nat × Value × (List (List Int × Value))) fr wl => Sl 86 fr [(0, St s), (2, .pointer (some (⟨w0.heap.size, 0, none⟩ : Addr))), (5, .pointer (some (⟨w22.heap.size, 0, none⟩ : Addr))), (39, u184), (40, .int .i64 (((((spl (10 : UInt8) [] s)).drop 1).length : Nat) : Int)), (41, .int .i64 ((i : Nat) : Int))] ∧ Ext w0 wl ∧ Box wl w0.heap.size 28 [.slice none 0 0, .slice none 0 0] ∧ Own shStr 9 w47.heap.size w47.heap.size w54.heap.size wl v acc ∧ Rds shStr ((Iv (min w2.heap.size w2.heap.size) w22.heap.size)) wl u184 (((spl (10 : UInt8) [] s)).drop 1) ∧ Own shRowN 41 w54.heap.size w54.heap.size wl.heap.size wl v1 zs ∧ Nst shI64 2 (fun x : List Int => x) w54.heap.size wl.heap.size wl zs ∧ Box wl w22.heap.size 28 [v, v1] ∧ w54.heap.size ≤ wl.heap.size ∧ (i ≤ (((spl (10 : UInt8) [] s)).drop 1).length) ∧ (zs.length ≤ i) ∧ (acc = hdsR s) ∧ ((rsO rdV (((((spl (10 : UInt8) [] s)).drop 1).drop i).filter neB)).map (zs.map (·.1) ++ ·) = rsO rdV (lnsI s)) ∧ ((((spl (10 : UInt8) [] s)).drop 1).length ≤ s.length)) (fun (⟨i, v1, zs⟩ : Nat × Value × (List (List Int × Value))) => (((spl (10 : UInt8) [] s)).drop 1).length - i) (0, (.slice none 0 0), []) ?_ ?_
    ·
     exact ⟨(Sl.cons_ ha189 rfl rfl (Sl.cons_ ha189 rfl rfl (Sl.cons_ ha189 rfl rfl (Sl.cons_ ha189 rfl rfl (Sl.cons_ ha189 rfl rfl (Sl.cons_ ha189 rfl (int_eq (by omega)) (Sl.nil_ ha189))))))), hx55, hf56, hf58, hr186, (Own.nil _ _ _ _ _ _), (Nst.nil _ _ _ _ _ _), hf59, (by omega), (by omega), (by exact Nat.zero_le _), (by rw [hF0]; unfold hdsR; rw [hx36, List.take_of_length_le (by omega)]; rfl), (by unfold lnsI; simp), (by (rw [List.length_drop]; omega))⟩
    ·
     clear ha189 a189
     rintro ⟨i, v1, zs⟩ a198 w190 ⟨ha198, hx191, hf192, hf193, hf197, hf194, hf195, hf196, hzl199, hi, hl, hH, hF, hPl⟩
     have hzhx191 := hx191.size
     refine wp_seq ?_
     refine wp_region_lit ?_
     refine wl_val ha198 rfl rfl rfl (op_lss ha198 rfl rfl rfl) ?_
     intro a200 ha200; clear ha198 a198
     refine wpList_nil ?_
     refine then_n ?_
     refine wp_seq ?_
     by_cases c201 : ((i : Nat) : Int) < (((((spl (10 : UInt8) [] s)).drop 1).length : Nat) : Int)
     ·
      rw [decide_eq_true c201] at ha200
      refine cond_t ha200 rfl ?_
      refine wp_skip ?_
      refine then_n ?_
      refine wp_seq ?_
      refine wp_block ?_
      refine wp_seq ?_
      refine wp_region_lit ?_
      obtain ⟨x202, hx202⟩ := get_ex (xs := ((spl (10 : UInt8) [] s)).drop 1) (j := i) (by omega)
      obtain ⟨p203, c204, hi205, hc206, hr207, hs208⟩ := Rds.at_ hf197 hx202
      obtain ⟨rfl, b209⟩ := inv_shStr hr207
      obtain ⟨_, _⟩ : _ ∧ _ := hs208
      have hlxx202 := spl_el (List.mem_of_mem_drop (List.mem_of_getElem? hx202))
      simp only [List.length_nil, Nat.zero_add] at hlxx202
      have htlx202 := trS_len x202
      have hsgx202 := l01Sg_bd (trS x202)
      have hrvx202 := rdV_bd (trS x202)
      have hclx202 := spl_len 124 x202 []
      have hcpx202 := spl_pos 124 x202 []
      refine wl_val ha200 rfl rfl rfl (op_indexAddr ha200 rfl Try.underlying22 ti9 rfl rfl (by omega) hi205) ?_
      intro a210 ha210; clear ha200 a200
      refine wl_val ha210 rfl rfl rfl (op_loadH ha210 rfl Try.underlying9 rfl rfl hc206 rfl) ?_
      intro a211 ha211; clear ha210 a210
      refine wl_val ha211 rfl rfl rfl (op_assign ha211 rfl rfl) ?_
      intro a212 ha212; clear ha211 a211
      refine wpList_nil ?_
      refine then_n ?_
      refine wp_seq ?_
      refine wp_seq ?_
      refine wp_region_lit ?_
      refine wl_val ha212 rfl rfl rfl (op_move ha212 rfl rfl) ?_
      intro a213 ha213; clear ha212 a212
      refine wl_val ha213 rfl rfl rfl (op_seql ha213 rfl rfl rfl) ?_
      intro a214 ha214; clear ha213 a213
      refine wpList_nil ?_
      refine then_n ?_
      by_cases c215 : x202 = ([] : Str)
      ·
       rw [decide_eq_true c215] at ha214
       refine cond_t ha214 rfl ?_
       refine wp_exit ?_
       refine then_e ?_
       refine block_hit ?_
       refine then_n ?_
       refine wp_region_lit ?_
       refine wl_val ha214 rfl rfl rfl ((op_add ha214 rfl rfl rfl).int (IntWalk.i64_in _ (by omega))) ?_
       intro a216 ha216; clear ha214 a214
       refine wl_val ha216 rfl rfl rfl (op_move ha216 rfl rfl) ?_
       intro a217 ha217; clear ha216 a216
       refine wpList_nil ?_
       refine round_end (x := (i, v1, zs)) ((i + 1), v1, zs) ?_ ?_
       ·
        refine ⟨(Sl.cons_ ha217 rfl rfl (Sl.cons_ ha217 rfl rfl (Sl.cons_ ha217 rfl rfl (Sl.cons_ ha217 rfl rfl (Sl.cons_ ha217 rfl rfl (Sl.cons_ ha217 rfl (int_eq (by omega)) (Sl.nil_ ha217))))))), hx191, hf192, hf193, hf197, (hf194.fin (by omega) (by omega) (by omega)), (hf195.fin (by omega) (by omega)), hf196, (by omega), (by omega), (by first | omega | (simp; omega)), (by exact hH), (by rw [drop_cons hx202, fl_skip c215] at hF; exact hF), (by exact hPl)⟩
       ·show ((((spl (10 : UInt8) [] s)).drop 1).length - ((i + 1)) : Nat) < (((spl (10 : UInt8) [] s)).drop 1).length - i; omega
      ·
       rw [decide_eq_false c215] at ha214
       refine cond_f ha214 rfl ?_
       refine wp_skip ?_
       refine then_n ?_
       refine wp_seq ?_
       refine wp_region_lit ?_
       refine wl_val ha214 rfl rfl rfl (op_assign ha214 rfl rfl) ?_
       intro a218 ha218; clear ha214 a214
       refine wpList_nil ?_
       refine then_n ?_
       refine wp_seq ?_
       refine wp_seq ?_
       refine wp_region_lit ?_
       refine wl_val ha218 rfl rfl rfl (op_move ha218 rfl rfl) ?_
       intro a219 ha219; clear ha218 a218
       refine wl_callR ha219 rfl rfl rfl (op_call ha219 rfl cb94 rfl) (c_impl_splitAt _ x202 (124 : UInt8) (by first | assumption | omega | (simp; omega))) ?_
       rintro v220 w221 he222 ho223 a224 ha224; clear ha219 a219
       have hx225 := hx191.trans' he222
       have hzhx225 := he222.size
       replace hf192 := hf192.ext he222
       replace hf193 := hf193.ext he222
       replace hf197 := hf197.ext pos_shStr he222
       replace hf194 := hf194.ext he222
       replace hf195 := hf195.ext he222
       replace hf196 := hf196.ext he222
       replace hc206 := hc206.ext he222
       refine wl_val ha224 rfl rfl rfl (op_len_sl ha224 rfl Try.underlying22 rfl (ho223.rds pos_shStr)) ?_
       intro a226 ha226; clear ha224 a224
       refine wl_val ha226 rfl rfl rfl (op_move ha226 rfl rfl) ?_
       intro a227 ha227; clear ha226 a226
       refine wpList_nil ?_
       refine then_n ?_
       refine wp_block ?_
       refine loop_inv (X := Nat × Value × (List Int)) (fun (⟨j, v2, acc2⟩ : Nat × Value × (List Int)) fr wl => Sl 86 fr [(0, St s), (2, .pointer (some (⟨w0.heap.size, 0, none⟩ : Addr))), (5, .pointer (some (⟨w22.heap.size, 0, none⟩ : Addr))), (10, v2), (39, u184), (40, .int .i64 (((((spl (10 : UInt8) [] s)).drop 1).length : Nat) : Int)), (41, .int .i64 ((i : Nat) : Int)), (48, v220), (49, .int .i64 ((((spl (124 : UInt8) [] x202)).length : Nat) : Int)), (50, .int .i64 ((j : Nat) : Int))] ∧ Ext w0 wl ∧ Box wl w0.heap.size 28 [.slice none 0 0, .slice none 0 0] ∧ Own shStr 9 w47.heap.size w47.heap.size w54.heap.size wl v acc ∧ Own shRowN 41 w54.heap.size w54.heap.size w190.heap.size wl v1 zs ∧ Nst shI64 2 (fun x : List Int => x) w54.heap.size w190.heap.size wl zs ∧ Box wl w22.heap.size 28 [v, v1] ∧ Rds shStr ((Iv (min w2.heap.size w2.heap.size) w22.heap.size)) wl u184 (((spl (10 : UInt8) [] s)).drop 1) ∧ Own shStr 9 w190.heap.size w190.heap.size w221.heap.size wl v220 ((spl (124 : UInt8) [] x202)) ∧ Own shI64 2 w221.heap.size w221.heap.size wl.heap.size wl v2 acc2 ∧ w221.heap.size ≤ wl.heap.size ∧ (j ≤ (spl (124 : UInt8) [] x202).length) ∧ (acc2.length ≤ j) ∧ ((rwO rdV ((spl (124 : UInt8) [] x202).drop j)).map (acc2 ++ ·) = rwO rdV (spl (124 : UInt8) [] x202))) (fun (⟨j, v2, acc2⟩ : Nat × Value × (List Int)) => (spl (124 : UInt8) [] x202).length - j) (0, (.slice none 0 0), []) ?_ ?_
       ·
        exact ⟨(Sl.cons_ ha227 rfl rfl (Sl.cons_ ha227 rfl rfl (Sl.cons_ ha227 rfl rfl (Sl.cons_ ha227 rfl rfl (Sl.cons_ ha227 rfl rfl (Sl.cons_ ha227 rfl rfl (Sl.cons_ ha227 rfl rfl (Sl.cons_ ha227 rfl rfl (Sl.cons_ ha227 rfl rfl (Sl.cons_ ha227 rfl (int_eq (by omega)) (Sl.nil_ ha227))))))))))), hx225, hf192, hf193, hf194, hf195, hf196, hf197, ho223, (Own.nil _ _ _ _ _ _), (by omega), (by omega), (by exact Nat.zero_le _), (by simp)⟩
       ·
        clear ha227 a227
        rintro ⟨j, v2, acc2⟩ a238 w228 ⟨ha238, hx229, hf230, hf232, hf233, hf234, hf231, hf236, hf237, hf235, hzl239, hj, hl2, hF2⟩
        have hzhx229 := hx229.size
        refine wp_seq ?_
        refine wp_region_lit ?_
        refine wl_val ha238 rfl rfl rfl (op_lss ha238 rfl rfl rfl) ?_
        intro a240 ha240; clear ha238 a238
        refine wpList_nil ?_
        refine then_n ?_
        refine wp_seq ?_
        by_cases c241 : ((j : Nat) : Int) < ((((spl (124 : UInt8) [] x202)).length : Nat) : Int)
        ·
         rw [decide_eq_true c241] at ha240
         refine cond_t ha240 rfl ?_
         refine wp_skip ?_
         refine then_n ?_
         refine wp_seq ?_
         refine wp_block ?_
         refine wp_seq ?_
         refine wp_region_lit ?_
         obtain ⟨x242, hx242⟩ := get_ex (xs := (spl (124 : UInt8) [] x202)) (j := j) (by omega)
         obtain ⟨p243, c244, hi245, hc246, hr247, hs248⟩ := Rds.at_ (hf237.rds pos_shStr) hx242
         obtain ⟨rfl, b249⟩ := inv_shStr hr247
         obtain ⟨_, _⟩ : _ ∧ _ := hs248
         have hlxx242 := spl_el (List.mem_of_getElem? hx242)
         simp only [List.length_nil, Nat.zero_add] at hlxx242
         have htlx242 := trS_len x242
         have hsgx242 := l01Sg_bd (trS x242)
         have hrvx242 := rdV_bd (trS x242)
         have hclx242 := spl_len 124 x242 []
         have hcpx242 := spl_pos 124 x242 []
         refine wl_val ha240 rfl rfl rfl (op_indexAddr ha240 rfl Try.underlying22 ti9 rfl rfl (by omega) hi245) ?_
         intro a250 ha250; clear ha240 a240
         refine wl_val ha250 rfl rfl rfl (op_loadH ha250 rfl Try.underlying9 rfl rfl hc246 rfl) ?_
         intro a251 ha251; clear ha250 a250
         refine wl_val ha251 rfl rfl rfl (op_assign ha251 rfl rfl) ?_
         intro a252 ha252; clear ha251 a251
         refine wpList_nil ?_
         refine then_n ?_
         refine wp_seq ?_
         refine wp_region_lit ?_
         refine wl_val ha252 rfl rfl rfl (op_move ha252 rfl rfl) ?_
         intro a253 ha253; clear ha252 a252
         refine wl_callR ha253 rfl rfl rfl (op_call ha253 rfl cb95 rfl) (c_impl_trimmed _ x242 (by first | assumption | omega | (simp; omega))) ?_
         rintro v254 w255 he256 rfl a257 ha257; clear ha253 a253
         have hx258 := hx229.trans' he256
         have hzhx258 := he256.size
         replace hf230 := hf230.ext he256
         replace hf232 := hf232.ext he256
         replace hf233 := hf233.ext he256
         replace hf234 := hf234.ext he256
         replace hf231 := hf231.ext he256
         replace hf236 := hf236.ext pos_shStr he256
         replace hf237 := hf237.ext he256
         replace hf235 := hf235.ext he256
         replace hc246 := hc246.ext he256
         refine wl_callR ha257 rfl rfl rfl (op_call ha257 rfl cb96 rfl) (c_impl_readDecimal _ ((trS x242)) (by first | assumption | omega | (simp; omega))) ?_
         rintro v259 w260 he261 rfl a262 ha262; clear ha257 a257
         have hx263 := hx258.trans' he261
         have hzhx263 := he261.size
         replace hf230 := hf230.ext he261
         replace hf232 := hf232.ext he261
         replace hf233 := hf233.ext he261
         replace hf234 := hf234.ext he261
         replace hf231 := hf231.ext he261
         replace hf236 := hf236.ext pos_shStr he261
         replace hf237 := hf237.ext he261
         replace hf235 := hf235.ext he261
         replace hc246 := hc246.ext he261
         refine wl_val ha262 rfl rfl rfl (op_move ha262 rfl rfl) ?_
         intro a264 ha264; clear ha262 a262
         refine wl_val ha264 rfl rfl rfl (op_extract ha264 rfl rfl rfl) ?_
         intro a265 ha265; clear ha264 a264
         refine wl_val ha265 rfl rfl rfl (op_extract ha265 rfl rfl rfl) ?_
         intro a266 ha266; clear ha265 a265
         refine wl_val ha266 rfl rfl rfl (op_assign ha266 rfl rfl) ?_
         intro a267 ha267; clear ha266 a266
         refine wl_val ha267 rfl rfl rfl (op_assign ha267 rfl rfl) ?_
         intro a268 ha268; clear ha267 a267
         refine wpList_nil ?_
         refine then_n ?_
         refine wp_seq ?_
         refine wp_seq ?_
         refine wp_region_lit ?_
         refine wl_val ha268 rfl rfl rfl (op_move ha268 rfl rfl) ?_
         intro a269 ha269; clear ha268 a268
         refine wl_val ha269 rfl rfl rfl (op_not ha269 rfl rfl) ?_
         intro a270 ha270; clear ha269 a269
         refine wpList_nil ?_
         refine then_n ?_
         rcases Bool.eq_false_or_eq_true ((rdV ((trS x242))).2) with c271 | c271
         ·
          rw [c271] at ha270
          refine cond_f ha270 rfl ?_
          refine wp_skip ?_
          refine then_n ?_
          refine wp_region_lit ?_
          refine wl_val ha270 rfl rfl rfl (op_move ha270 rfl rfl) ?_
          intro a272 ha272; clear ha270 a270
          refine wl_val ha272 rfl rfl rfl (op_move ha272 rfl rfl) ?_
          intro a273 ha273; clear ha272 a272
          refine wl_eff ha273 rfl rfl rfl (op_buildSlice (s := shI64) (xs := [((rdV ((trS x242))).1 : Int)]) (cs := [.int .i64 ((rdV ((trS x242))).1 : Int)]) (vs := [(0, .int .i64 ((rdV ((trS x242))).1 : Int))]) (S := fun _ => False) (le := w260.heap.size) ha273 rfl pos_shI64 Try.underlying41 ti2 rfl rfl (by decide) (by kernel_rfl) (Els.single (mk_shI64 (((rdV ((trS x242))).1 : Int)) (by first | assumption | omega | (simp; done)))) (fun _ h => h.elim)) ?_
          rintro v274 w275 ⟨ho276, he277, hob278⟩ a279 ha279; clear ha273 a273
          have hx280 := hx263.trans' he277
          have hzhx280 := he277.size
          replace hf230 := hf230.ext he277
          replace hf232 := hf232.ext he277
          replace hf233 := hf233.ext he277
          replace hf234 := hf234.ext he277
          replace hf231 := hf231.ext he277
          replace hf236 := hf236.ext pos_shStr he277
          replace hf237 := hf237.ext he277
          replace hf235 := hf235.ext he277
          replace hc246 := hc246.ext he277
          refine wl_eff ha279 rfl rfl rfl (op_append (ts := #[]) (s := shI64) ha279 rfl Try.underlying41 ti2 rfl pos_shI64 rfl rfl hf235 (ho276.rds pos_shI64) (by omega) (by omega) (by first | omega | (simp; omega)) (by first | omega | (simp; omega)) (.inl flat_shI64)) ?_
          rintro v281 w282 ⟨ho283, hst284, hob285⟩ a286 ha286; clear ha279 a279
          have hx287 := hx280.stp hst284 (by intro q hq; have hq0 := hf235.lt q hq; omega)
          have hzhx287 := hst284.size
          replace hf230 := hf230.stp hst284 (by intro q hq; have hq0 := hf235.lt q hq; omega)
          replace hf232 := hf232.stp hst284 (by intro q hq; have hq0 := hf235.lt q hq; omega)
          replace hf233 := hf233.stp hst284 (by intro q hq; have hq0 := hf235.lt q hq; omega)
          replace hf234 := hf234.stp hst284 (by intro q hq; have hq0 := hf235.lt q hq; omega)
          replace hf231 := hf231.stp hst284 (by intro q hq; have hq0 := hf235.lt q hq; omega)
          replace hf236 := hf236.stp pos_shStr hst284 (by intro q hq; have hq0 := hf235.lt q hq; exact not_iv (by omega))
          replace hf237 := hf237.stp hst284 (by intro q hq; have hq0 := hf235.lt q hq; omega)
          replace ho276 := ho276.stp hst284 (by intro q hq; have hq0 := hf235.lt q hq; omega)
          have hsp288 : ∀ q, Value.ownBlock v281 = some q → Value.ownBlock v274 ≠ some q := by intro q hq hb; have hq0 := ho276.lt q hb; rcases hob285 with h | h; (rw [h] at hq; first | (have hq1 := hf235.lt q hq; omega)); (rw [h] at hq; cases hq; omega)
          refine wl_val ha286 rfl rfl rfl (op_assign ha286 rfl rfl) ?_
          intro a289 ha289; clear ha286 a286
          refine wpList_nil ?_
          refine block_n ?_
          refine then_n ?_
          refine wp_region_lit ?_
          refine wl_val ha289 rfl rfl rfl ((op_add ha289 rfl rfl rfl).int (IntWalk.i64_in _ (by omega))) ?_
          intro a290 ha290; clear ha289 a289
          refine wl_val ha290 rfl rfl rfl (op_move ha290 rfl rfl) ?_
          intro a291 ha291; clear ha290 a290
          refine wpList_nil ?_
          refine round_end (x := (j, v2, acc2)) ((j + 1), v281, (acc2 ++ [((rdV ((trS x242))).1 : Int)])) ?_ ?_
          ·
           refine ⟨(Sl.cons_ ha291 rfl rfl (Sl.cons_ ha291 rfl rfl (Sl.cons_ ha291 rfl rfl (Sl.cons_ ha291 rfl rfl (Sl.cons_ ha291 rfl rfl (Sl.cons_ ha291 rfl rfl (Sl.cons_ ha291 rfl rfl (Sl.cons_ ha291 rfl rfl (Sl.cons_ ha291 rfl rfl (Sl.cons_ ha291 rfl (int_eq (by omega)) (Sl.nil_ ha291))))))))))), hx287, hf230, hf232, hf233, hf234, hf231, hf236, hf237, (ho283.fin (by omega) (by omega) (by omega)), (by omega), (by omega), (by first | omega | (simp; omega)), (by rw [drop_cons hx242, rwO_ok (by assumption), mp_app] at hF2; exact hF2)⟩
          ·show ((spl (124 : UInt8) [] x202).length - ((j + 1)) : Nat) < (spl (124 : UInt8) [] x202).length - j; omega
         ·
          rw [c271] at ha270
          refine cond_t ha270 rfl ?_
          refine wp_seq ?_
          refine wp_region_lit ?_
          refine wl_val ha270 rfl rfl rfl (op_build (vs := []) (cs := #[.slice none 0 0, .slice none 0 0]) ha270 rfl Try.underlying28 ti28 bp28 rfl rfl) ?_
          intro a292 ha292; clear ha270 a270
          refine wl_effS ha292 rfl rfl (op_storeAll' ha292 rfl ti28 rfl rfl hf230 rfl rfl (by simp [Value.oneCell']) rfl) ?_
          rintro w293 ⟨hb295, hst294, hz296⟩
          have hx297 := hx263.stp hst294 (by intro q hq; cases hq; exact (by omega))
          have hzhx297 := hst294.size
          replace hf232 := hf232.stp hst294 (by intro q hq; cases hq; omega)
          replace hf233 := hf233.stp hst294 (by intro q hq; cases hq; omega)
          replace hf234 := hf234.stp hst294 (by intro q hq; cases hq; omega)
          replace hf231 := hf231.stp hst294 (by intro q hq; cases hq; omega)
          replace hf236 := hf236.stp pos_shStr hst294 (by intro q hq; cases hq; exact not_iv (by omega))
          replace hf237 := hf237.stp hst294 (by intro q hq; cases hq; omega)
          replace hf235 := hf235.stp hst294 (by intro q hq; cases hq; omega)
          replace hc246 := hc246.stp hst294 (by intro q hq; cases hq; omega)
          clear hf230
          refine wl_val ha292 rfl rfl rfl (op_assign ha292 rfl rfl) ?_
          intro a298 ha298; clear ha292 a292
          refine wpList_nil ?_
          refine then_n ?_
          refine wp_ret ?_
          refine then_r ?_
          refine block_r ?_
          refine then_r ?_
          refine then_r ?_
          refine block_r ?_
          refine then_r ?_
          refine block_r ?_
          refine then_r ?_
          refine then_r ?_
          refine block_r ?_
          refine then_r ?_
          refine retct ha298 rfl rfl rfl Try.underlying28 ti28 rfl hb295.cells ?_
          clear ha298 a298
          rw [drop_cons hx242, rwO_bad (by assumption)] at hF2
          rw [drop_cons hx202, fl_take (by assumption), rsO_bad hF2.symm] at hF
          have hr : rdS s = none := rdI_none (by unfold prI; rw [← hF]; rfl)
          refine ret_mk hx297 ⟨(.slice none 0 0), (.slice none 0 0), [], (tup2_eq (by rfl) (int_eq (by exact (rd_n hr).2.symm))), ?_, Own.nil _ _ _ _ _ _, Nst.nil _ _ _ _ _ _, ?_⟩
          ·
           refine Own.nil_ _ _ _ _ _ _ ?_
           rw [(rd_n hr).1]
          ·
           rw [(rd_n hr).1]; rfl
        ·
         rw [decide_eq_false c241] at ha240
         refine cond_f ha240 rfl ?_
         refine wp_exit ?_
         refine then_e ?_
         refine then_e ?_
         refine block_hit ?_
         refine then_n ?_
         refine wp_region_lit ?_
         refine wl_val ha240 rfl rfl rfl (op_fieldAddr (sz := 0) ha240 rfl Try.underlying28 rfl rfl ti23 rfl) ?_
         intro a299 ha299; clear ha240 a240
         refine wl_val ha299 rfl rfl rfl (op_loadF (off := 1) ha299 rfl Try.underlying23 rfl rfl hf231.cells rfl) ?_
         intro a300 ha300; clear ha299 a299
         refine wl_val ha300 rfl rfl rfl (op_move ha300 rfl rfl) ?_
         intro a301 ha301; clear ha300 a300
         refine wl_eff ha301 rfl rfl rfl (op_buildSlice (s := shRowN) (xs := [((acc2 : List Int), (v2 : Value))]) (cs := [v2]) (vs := [(0, v2)]) (S := fun _ => False) (le := w228.heap.size) ha301 rfl pos_shRowN Try.underlying23 ti41 rfl rfl (by decide) ((fill_one (off := 0) hf235.cells1 (by kernel_rfl) (by kernel_rfl)).trans (by kernel_rfl)) (Els.single (mk_shRowN (((acc2 : List Int), (v2 : Value))) hf235.one)) (fun _ h => h.elim)) ?_
         rintro v302 w303 ⟨ho304, he305, hob306⟩ a307 ha307; clear ha301 a301
         have hx308 := hx229.trans' he305
         have hzhx308 := he305.size
         replace hf230 := hf230.ext he305
         replace hf232 := hf232.ext he305
         replace hf233 := hf233.ext he305
         replace hf234 := hf234.ext he305
         replace hf231 := hf231.ext he305
         replace hf236 := hf236.ext pos_shStr he305
         replace hf237 := hf237.ext he305
         replace hf235 := hf235.ext he305
         have hN309 : Nst shI64 2 (fun x : List Int => x) w221.heap.size w303.heap.size w303 ([((acc2 : List Int), (v2 : Value))]) := Nst.one (hf235.fin (by omega) (by omega) (by omega))
         refine wl_eff ha307 rfl rfl rfl (op_append (ts := #[]) (s := shRowN) ha307 rfl Try.underlying23 ti41 rfl pos_shRowN rfl rfl hf233 (ho304.rds pos_shRowN) (by omega) (by omega) (by first | omega | (simp; omega)) (by first | omega | (simp; omega)) (.inl flat_shRowN)) ?_
         rintro v310 w311 ⟨ho312, hst313, hob314⟩ a315 ha315; clear ha307 a307
         have hx316 := hx308.stp hst313 (by intro q hq; have hq0 := hf233.lt q hq; omega)
         have hzhx316 := hst313.size
         replace hf230 := hf230.stp hst313 (by intro q hq; have hq0 := hf233.lt q hq; omega)
         replace hf232 := hf232.stp hst313 (by intro q hq; have hq0 := hf233.lt q hq; omega)
         replace hf234 : Nst shI64 2 (fun x : List Int => x) w54.heap.size w190.heap.size w311 zs := by first | exact hf234.stpF flat_shI64 hst313 hf233 rfl | exact hf234.stp hst313 (by intro q hq; have hq0 := hf233.lt q hq; omega)
         replace hf231 := hf231.stp hst313 (by intro q hq; have hq0 := hf233.lt q hq; omega)
         replace hf236 := hf236.stp pos_shStr hst313 (by intro q hq; have hq0 := hf233.lt q hq; exact not_iv (by omega))
         replace hf237 := hf237.stp hst313 (by intro q hq; have hq0 := hf233.lt q hq; omega)
         replace hf235 := hf235.stp hst313 (by intro q hq; have hq0 := hf233.lt q hq; omega)
         replace ho304 := ho304.stp hst313 (by intro q hq; have hq0 := hf233.lt q hq; omega)
         replace hN309 := hN309.stp hst313 (by intro q hq; have hq0 := hf233.lt q hq; omega)
         have hsp317 : ∀ q, Value.ownBlock v310 = some q → Value.ownBlock v302 ≠ some q := by intro q hq hb; have hq0 := ho304.lt q hb; rcases hob314 with h | h; (rw [h] at hq; first | (have hq1 := hf233.lt q hq; omega)); (rw [h] at hq; cases hq; omega)
         have hN318 : Nst shI64 2 (fun x : List Int => x) w54.heap.size w311.heap.size w311 ((zs ++ [((acc2 : List Int), (v2 : Value))])) := (hf234.app hN309 (by omega) (by omega) (by omega)).fin (by omega) (by omega)
         refine wl_val ha315 rfl rfl rfl (op_fieldAddr (sz := 0) ha315 rfl Try.underlying28 rfl rfl ti23 rfl) ?_
         intro a319 ha319; clear ha315 a315
         refine wl_effS ha319 rfl rfl (op_store' (off := 1) ha319 rfl ti23 rfl rfl hf231 ho312.cells1 rfl (by intro u hu; have hu : u ∈ ([v310] : List Value) := hu; simp only [List.mem_cons, List.mem_nil_iff, or_false] at hu; rcases hu with rfl <;> first | rfl | exact ho312.one) (Nat.le_of_ble_eq_true rfl)) ?_
         rintro w320 ⟨hb322, hst321, hz323⟩
         have hx324 := hx316.stp hst321 (by intro q hq; cases hq; exact (by omega))
         have hzhx324 := hst321.size
         replace hf230 := hf230.stp hst321 (by intro q hq; cases hq; omega)
         replace hf232 := hf232.stp hst321 (by intro q hq; cases hq; omega)
         replace hf236 := hf236.stp pos_shStr hst321 (by intro q hq; cases hq; exact not_iv (by omega))
         replace hf237 := hf237.stp hst321 (by intro q hq; cases hq; omega)
         replace hf235 := hf235.stp hst321 (by intro q hq; cases hq; omega)
         replace ho304 := ho304.stp hst321 (by intro q hq; cases hq; omega)
         replace ho312 := ho312.stp hst321 (by intro q hq; cases hq; omega)
         replace hN318 := hN318.stp hst321 (by intro q hq; cases hq; omega)
         clear hf231
         refine wpList_nil ?_
         refine block_n ?_
         refine then_n ?_
         refine wp_region_lit ?_
         refine wl_val ha319 rfl rfl rfl ((op_add ha319 rfl rfl rfl).int (IntWalk.i64_in _ (by omega))) ?_
         intro a325 ha325; clear ha319 a319
         refine wl_val ha325 rfl rfl rfl (op_move ha325 rfl rfl) ?_
         intro a326 ha326; clear ha325 a325
         refine wpList_nil ?_
         refine round_end (x := (i, v1, zs)) ((i + 1), v310, (zs ++ [((acc2 : List Int), (v2 : Value))])) ?_ ?_
         ·
          refine ⟨(Sl.cons_ ha326 rfl rfl (Sl.cons_ ha326 rfl rfl (Sl.cons_ ha326 rfl rfl (Sl.cons_ ha326 rfl rfl (Sl.cons_ ha326 rfl rfl (Sl.cons_ ha326 rfl (int_eq (by omega)) (Sl.nil_ ha326))))))), hx324, hf230, hf232, hf236, (ho312.fin (by omega) (by omega) (by omega)), (hN318.fin (by omega) (by omega)), hb322, (by omega), (by omega), (by first | omega | (simp; omega)), (by exact hH), (by have hrow : rwO rdV (spl 124 [] x202) = some acc2 := (by rw [drop_nil (by omega), rwO] at hF2; rw [← hF2]; simp); rw [drop_cons hx202, fl_take c215, rsO_ok hrow, mp_app] at hF; rw [List.map_append]; exact hF), (by exact hPl)⟩
         ·show ((((spl (10 : UInt8) [] s)).drop 1).length - ((i + 1)) : Nat) < (((spl (10 : UInt8) [] s)).drop 1).length - i; omega
     ·
      rw [decide_eq_false c201] at ha200
      refine cond_f ha200 rfl ?_
      refine wp_exit ?_
      refine then_e ?_
      refine then_e ?_
      refine block_hit ?_
      refine then_n ?_
      refine wp_seq ?_
      refine wp_seq ?_
      refine wp_region_lit ?_
      refine wl_val ha200 rfl rfl rfl (op_loadS ha200 rfl Try.underlying28 ti28 rfl rfl hf196.cells) ?_
      intro a327 ha327; clear ha200 a200
      refine wl_callR ha327 rfl rfl rfl (op_call ha327 rfl cb19 rfl) (c_impl_IsTable _ v v1 ((acc, (zs.map (·.1)))) (hf193.rds pos_shStr) (rds_shRowN (hf194.fin (by omega) (by omega) (by omega)) hf195)) ?_
      rintro v328 w329 he330 rfl a331 ha331; clear ha327 a327
      have hx332 := hx191.trans' he330
      have hzhx332 := he330.size
      replace hf192 := hf192.ext he330
      replace hf193 := hf193.ext he330
      replace hf197 := hf197.ext pos_shStr he330
      replace hf194 := hf194.ext he330
      replace hf195 := hf195.ext he330
      replace hf196 := hf196.ext he330
      refine wl_val ha331 rfl rfl rfl (op_not ha331 rfl rfl) ?_
      intro a333 ha333; clear ha331 a331
      refine wl_val ha333 rfl rfl rfl (op_move ha333 rfl rfl) ?_
      intro a334 ha334; clear ha333 a333
      rcases Bool.eq_false_or_eq_true (tabB ((acc, (zs.map (·.1))))) with c335 | c335
      ·
       rw [c335] at ha334
       refine wl_val ha334 rfl rfl rfl (op_loadS ha334 rfl Try.underlying28 ti28 rfl rfl hf196.cells) ?_
       intro a336 ha336; clear ha334 a334
       refine wl_callR ha336 rfl rfl rfl (op_call ha336 rfl cb89 rfl) (c_impl_tableText _ v v1 ((acc, (zs.map (·.1)))) (hf193.rds pos_shStr) (rds_shRowN (hf194.fin (by omega) (by omega) (by omega)) hf195) (by first | assumption | omega | (simp; omega))) ?_
       rintro v337 w338 he339 rfl a340 ha340; clear ha336 a336
       have hx341 := hx332.trans' he339
       have hzhx341 := he339.size
       replace hf192 := hf192.ext he339
       replace hf193 := hf193.ext he339
       replace hf197 := hf197.ext pos_shStr he339
       replace hf194 := hf194.ext he339
       replace hf195 := hf195.ext he339
       replace hf196 := hf196.ext he339
       refine wl_val ha340 rfl rfl rfl (op_move ha340 rfl rfl) ?_
       intro a342 ha342; clear ha340 a340
       refine wl_val ha342 rfl rfl rfl ((op_sneq ha342 rfl rfl rfl).to (congrArg Value.bool decide_not)) ?_
       intro a343 ha343; clear ha342 a342
       refine wl_val ha343 rfl rfl rfl (op_pick_f ha343 rfl rfl rfl) ?_
       intro a344 ha344; clear ha343 a343
       refine wpList_nil ?_
       refine then_n ?_
       by_cases c345 : (txS ((acc, (zs.map (·.1))))) = s
       ·
        rw [decide_eq_true c345] at ha344
        refine cond_f ha344 rfl ?_
        refine wp_skip ?_
        refine then_n ?_
        refine wp_seq ?_
        refine wp_region_lit ?_
        refine wl_val ha344 rfl rfl rfl (op_loadS ha344 rfl Try.underlying28 ti28 rfl rfl hf196.cells) ?_
        intro a346 ha346; clear ha344 a344
        refine wl_effS ha346 rfl rfl (op_storeAll' ha346 rfl ti28 rfl rfl hf192 rfl rfl (by intro u hu; have hu : u ∈ ([v, v1] : List Value) := hu; simp only [List.mem_cons, List.mem_nil_iff, or_false] at hu; rcases hu with rfl | rfl <;> first | rfl | exact hf193.one | exact hf194.one) rfl) ?_
        rintro w347 ⟨hb349, hst348, hz350⟩
        have hx351 := hx341.stp hst348 (by intro q hq; cases hq; exact (by omega))
        have hzhx351 := hst348.size
        replace hf193 := hf193.stp hst348 (by intro q hq; cases hq; omega)
        replace hf197 := hf197.stp pos_shStr hst348 (by intro q hq; cases hq; exact not_iv (by omega))
        replace hf194 := hf194.stp hst348 (by intro q hq; cases hq; omega)
        replace hf195 := hf195.stp hst348 (by intro q hq; cases hq; omega)
        replace hf196 := hf196.stp hst348 (by intro q hq; cases hq; omega)
        clear hf192
        refine wl_val ha346 rfl rfl rfl (op_assign ha346 rfl rfl) ?_
        intro a352 ha352; clear ha346 a346
        refine wpList_nil ?_
        refine then_n ?_
        refine wp_ret ?_
        refine retct ha352 rfl rfl rfl Try.underlying28 ti28 rfl hb349.cells ?_
        clear ha352 a352
        rw [drop_nil (by omega), List.filter_nil, rsO] at hF
        have hp : prI s = some (acc, zs.map (·.1)) := by unfold prI; rw [← hF, ← hH]; simp
        have hr : rdS s = some (acc, zs.map (·.1)) := by rw [rdI_some (by omega) hp, okT_t c335 c345]; rfl
        refine ret_mk hx351 ⟨v, v1, zs, (tup2_eq (by rfl) (int_eq (by exact (rd_s hr).2.symm))), ?_, hf194.fin (by omega) (by omega) (by omega), hf195.fin (by omega) (by omega), ?_⟩
        ·
         refine (hf193.fin (by omega) (by omega) (by omega)).cast ?_
         rw [(rd_s hr).1]
        ·
         rw [(rd_s hr).1]
       ·
        rw [decide_eq_false c345] at ha344
        refine cond_t ha344 rfl ?_
        refine wp_seq ?_
        refine wp_region_lit ?_
        refine wl_val ha344 rfl rfl rfl (op_build (vs := []) (cs := #[.slice none 0 0, .slice none 0 0]) ha344 rfl Try.underlying28 ti28 bp28 rfl rfl) ?_
        intro a353 ha353; clear ha344 a344
        refine wl_effS ha353 rfl rfl (op_storeAll' ha353 rfl ti28 rfl rfl hf192 rfl rfl (by simp [Value.oneCell']) rfl) ?_
        rintro w354 ⟨hb356, hst355, hz357⟩
        have hx358 := hx341.stp hst355 (by intro q hq; cases hq; exact (by omega))
        have hzhx358 := hst355.size
        replace hf193 := hf193.stp hst355 (by intro q hq; cases hq; omega)
        replace hf197 := hf197.stp pos_shStr hst355 (by intro q hq; cases hq; exact not_iv (by omega))
        replace hf194 := hf194.stp hst355 (by intro q hq; cases hq; omega)
        replace hf195 := hf195.stp hst355 (by intro q hq; cases hq; omega)
        replace hf196 := hf196.stp hst355 (by intro q hq; cases hq; omega)
        clear hf192
        refine wl_val ha353 rfl rfl rfl (op_assign ha353 rfl rfl) ?_
        intro a359 ha359; clear ha353 a353
        refine wpList_nil ?_
        refine then_n ?_
        refine wp_ret ?_
        refine then_r ?_
        refine retct ha359 rfl rfl rfl Try.underlying28 ti28 rfl hb356.cells ?_
        clear ha359 a359
        rw [drop_nil (by omega), List.filter_nil, rsO] at hF
        have hp : prI s = some (acc, zs.map (·.1)) := by unfold prI; rw [← hF, ← hH]; simp
        have hr : rdS s = none := by rw [rdI_some (by omega) hp, okT_f (.inr c345)]; rfl
        refine ret_mk hx358 ⟨(.slice none 0 0), (.slice none 0 0), [], (tup2_eq (by rfl) (int_eq (by exact (rd_n hr).2.symm))), ?_, Own.nil _ _ _ _ _ _, Nst.nil _ _ _ _ _ _, ?_⟩
        ·
         refine Own.nil_ _ _ _ _ _ _ ?_
         rw [(rd_n hr).1]
        ·
         rw [(rd_n hr).1]; rfl
      ·
       rw [c335] at ha334
       refine wl_skip ha334 rfl rfl rfl ?_
       intro a360 ha360; clear ha334 a334
       refine wl_skip ha360 rfl rfl rfl ?_
       intro a361 ha361; clear ha360 a360
       refine wl_skip ha361 rfl rfl rfl ?_
       intro a362 ha362; clear ha361 a361
       refine wl_skip ha362 rfl rfl rfl ?_
       intro a363 ha363; clear ha362 a362
       refine wl_val ha363 rfl rfl rfl (op_pick_t ha363 rfl rfl rfl) ?_
       intro a364 ha364; clear ha363 a363
       refine wpList_nil ?_
       refine then_n ?_
       refine cond_t ha364 rfl ?_
       refine wp_seq ?_
       refine wp_region_lit ?_
       refine wl_val ha364 rfl rfl rfl (op_build (vs := []) (cs := #[.slice none 0 0, .slice none 0 0]) ha364 rfl Try.underlying28 ti28 bp28 rfl rfl) ?_
       intro a365 ha365; clear ha364 a364
       refine wl_effS ha365 rfl rfl (op_storeAll' ha365 rfl ti28 rfl rfl hf192 rfl rfl (by simp [Value.oneCell']) rfl) ?_
       rintro w366 ⟨hb368, hst367, hz369⟩
       have hx370 := hx332.stp hst367 (by intro q hq; cases hq; exact (by omega))
       have hzhx370 := hst367.size
       replace hf193 := hf193.stp hst367 (by intro q hq; cases hq; omega)
       replace hf197 := hf197.stp pos_shStr hst367 (by intro q hq; cases hq; exact not_iv (by omega))
       replace hf194 := hf194.stp hst367 (by intro q hq; cases hq; omega)
       replace hf195 := hf195.stp hst367 (by intro q hq; cases hq; omega)
       replace hf196 := hf196.stp hst367 (by intro q hq; cases hq; omega)
       clear hf192
       refine wl_val ha365 rfl rfl rfl (op_assign ha365 rfl rfl) ?_
       intro a371 ha371; clear ha365 a365
       refine wpList_nil ?_
       refine then_n ?_
       refine wp_ret ?_
       refine then_r ?_
       refine retct ha371 rfl rfl rfl Try.underlying28 ti28 rfl hb368.cells ?_
       clear ha371 a371
       rw [drop_nil (by omega), List.filter_nil, rsO] at hF
       have hp : prI s = some (acc, zs.map (·.1)) := by unfold prI; rw [← hF, ← hH]; simp
       have hr : rdS s = none := by rw [rdI_some (by omega) hp, okT_f (.inl c335)]; rfl
       refine ret_mk hx370 ⟨(.slice none 0 0), (.slice none 0 0), [], (tup2_eq (by rfl) (int_eq (by exact (rd_n hr).2.symm))), ?_, Own.nil _ _ _ _ _ _, Nst.nil _ _ _ _ _ _, ?_⟩
       ·
        refine Own.nil_ _ _ _ _ _ _ ?_
        rw [(rd_n hr).1]
       ·
        rw [(rd_n hr).1]; rfl


end Go.Proofs.Ytjpldgicibnkcaa
