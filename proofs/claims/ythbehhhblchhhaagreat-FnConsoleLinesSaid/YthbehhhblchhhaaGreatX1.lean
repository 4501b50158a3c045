/- Desks stay valid; codes and outputs are small. -/
import Derived.Test.YthbehhhblchhhaaGreatX0
namespace Go.Proofs.YthbehhhblchhhaaGreat
open Go Go.RowKit
set_option maxHeartbeats 16000000

theorem stB_pw {xs : List Bin} (h : stB xs = true) : xs.Pairwise fun x y => x.1 < y.1 := List.pairwise_iff_getElem.2 fun _i _j hi hj hij => stB_lt h hij (List.getElem?_eq_getElem hi) (List.getElem?_eq_getElem hj)
theorem stB_mk {xs : List Bin} (hl : xs.length ≤ 20) (hb : ∀ b ∈ xs, binB b = true) (hp : xs.Pairwise fun x y => x.1 < y.1) : stB xs = true := by
  have hu : upB (stAt xs) xs.length = true := by
    rw [upB_iff]; intro i hi
    obtain ⟨b, hb'⟩ := get_ex hi
    refine stAt_ok hb' (hb b (List.mem_of_getElem? hb')) ?_
    rcases Nat.eq_zero_or_pos i with h | h
    · exact .inl h
    · obtain ⟨a, ha⟩ := get_ex (xs := xs) (j := i - 1) (by omega)
      obtain ⟨h1, e1⟩ := List.getElem?_eq_some_iff.1 ha
      obtain ⟨h2, e2⟩ := List.getElem?_eq_some_iff.1 hb'
      exact .inr ⟨a, ha, by rw [← e1, ← e2]; exact List.pairwise_iff_getElem.1 hp _ _ h1 h2 (by omega)⟩
  rw [stB_up hu]; exact decide_eq_true hl
theorem stB_all {xs : List Bin} (h : stB xs = true) : ∀ b ∈ xs, binB b = true := fun b hb => by
  obtain ⟨i, hi⟩ := List.getElem?_of_mem hb
  exact (stB_at h hi).1
theorem set_fst {xs : List Bin} {k : Nat} {b b' : Bin} (hb : xs[k]? = some b) (e : b'.1 = b.1) : (xs.set k b').map (·.1) = xs.map (·.1) := by
  rw [List.map_set, e]
  apply List.ext_getElem?; intro i
  rw [List.getElem?_set]
  split
  · rename_i h; subst h
    have hk := (List.getElem?_eq_some_iff.1 hb).1
    rw [List.getElem?_map, hb]; simp [hk]
  · rfl
theorem chL_ok {xs : List Bin} {k : Nat} {b : Bin} {x y : Int} (h : stB xs = true) (hb : xs[k]? = some b) (hn : binB (adB b x y) = true) : stB (chL xs k x y) = true := by
  rw [chL_eq hb]
  refine stB_mk (by rw [List.length_set]; exact stB_len h) (fun z hz => ?_) ?_
  · rcases List.mem_or_eq_of_mem_set hz with q | q
    · exact stB_all h z q
    · rw [q]; exact hn
  · have h1 := (List.pairwise_map (f := fun b : Bin => b.1) (R := fun x y => x < y)).2 (stB_pw h)
    rw [← set_fst (b' := adB b x y) hb rfl] at h1
    exact List.pairwise_map.1 h1
theorem adB_ok {b : Bin} {x y : Int} (h : binB b = true) (h1 : 0 ≤ b.2.1 + x ∧ b.2.1 + x ≤ 100000) (h2 : 0 ≤ b.2.2.1 + y ∧ b.2.2.1 + y ≤ b.2.1 + x) : binB (adB b x y) = true := by
  obtain ⟨w1, w2, w3, w4, w5⟩ := binB_bd h
  unfold binB adB; simp only [Bool.and_eq_true, decide_eq_true_eq]
  exact ⟨⟨⟨⟨w1, by omega, by omega⟩, by omega, by omega⟩, by omega, by omega⟩, by omega, by omega⟩
theorem op_st {xs : List Bin} {c : Str} {p : Int} (h : stC xs c p = 0) : stB xs = true ∧ (1 ≤ p ∧ p ≤ 100000) ∧ ∃ b, xs[(fnB xs c).toNat]? = some b ∧ bnO xs c = b ∧ binB b = true := by
  obtain ⟨h1, h2, h3⟩ := stC_0 h
  obtain ⟨b, hb, _⟩ := fnB_at h3
  exact ⟨h1, h2, b, hb, bnO_eq hb, (stB_at h1 hb).1⟩
theorem fl_ok {xs : List Bin} {c : Str} {p : Int} (h : flC xs c p = 0) : stB (opL xs c (flC xs c p) p 0) = true := by
  rw [opL_ok h]
  unfold flC at h; split at h
  · obtain ⟨h1, h2, b, hb, e, hB⟩ := op_st ‹_›
    have := binB_bd hB
    rw [e] at h; split at h
    · omega
    · exact chL_ok h1 hb (adB_ok hB (by omega) (by omega))
  · omega
theorem rs_ok {xs : List Bin} {c : Str} {p : Int} (h : rsC xs c p = 0) : stB (opL xs c (rsC xs c p) 0 p) = true := by
  rw [opL_ok h]
  unfold rsC at h; split at h
  · obtain ⟨h1, h2, b, hb, e, hB⟩ := op_st ‹_›
    have := binB_bd hB
    rw [e] at h; split at h
    · omega
    · exact chL_ok h1 hb (adB_ok hB (by omega) (by omega))
  · omega
theorem rl_ok {xs : List Bin} {c : Str} {p x : Int} (hx : x = 0 ∨ x = 0 - p) (h : rlC xs c p = 0) : stB (opL xs c (rlC xs c p) x (0 - p)) = true := by
  rw [opL_ok h]
  unfold rlC at h; split at h
  · obtain ⟨h1, h2, b, hb, e, hB⟩ := op_st ‹_›
    have := binB_bd hB
    rw [e] at h; split at h
    · omega
    · exact chL_ok h1 hb (adB_ok hB (by omega) (by omega))
  · omega
theorem inB_mem {b z : Bin} : ∀ {xs : List Bin}, z ∈ inB b xs → z = b ∨ z ∈ xs
  | [], h => by simp [inB] at h; exact .inl h
  | y :: ys, h => by
    rw [inB] at h; split at h
    · rcases List.mem_cons.1 h with q | q
      · exact .inr (by simp [q])
      · rcases inB_mem q with q | q
        · exact .inl q
        · exact .inr (by simp [q])
    · rcases List.mem_cons.1 h with q | q
      · exact .inl q
      · exact .inr q
theorem inB_len (b : Bin) : ∀ xs : List Bin, (inB b xs).length = xs.length + 1
  | [] => rfl
  | y :: ys => by rw [inB]; split <;> simp [inB_len b ys]
theorem inB_pw {b : Bin} : ∀ {xs : List Bin}, (xs.Pairwise fun x y => x.1 < y.1) → (∀ y ∈ xs, y.1 ≠ b.1) → (inB b xs).Pairwise fun x y => x.1 < y.1
  | [], _, _ => by simp [inB]
  | y :: ys, h, hn => by
    have h' := List.pairwise_cons.1 h
    rw [inB]; split
    · rename_i hy
      refine List.Pairwise.cons (fun z hz => ?_) (inB_pw h'.2 fun z hz => hn z (by simp [hz]))
      rcases inB_mem hz with q | q
      · rw [q]; exact hy
      · exact h'.1 z q
    · rename_i hy
      have hb : b.1 < y.1 := (str_le hy).resolve_right fun e => hn y (by simp) e.symm
      refine List.Pairwise.cons (fun z hz => ?_) h
      rcases List.mem_cons.1 hz with q | q
      · rw [q]; exact hb
      · exact str_tr hb (h'.1 z q)
theorem ad_ok {xs : List Bin} {b : Bin} (h : stB xs = true) (h0 : adC xs b = 0) : stB (adL xs b) = true := by
  unfold adL; rw [if_pos h0]
  unfold adC at h0; split at h0
  · rename_i hb
    split at h0
    · omega
    · split at h0
      · omega
      · have hB := (stB_at hb (i := 0) (b := b) rfl).1
        have hl := stB_len h
        refine stB_mk (by rw [inB_len]; omega) (fun z hz => ?_) (inB_pw (stB_pw h) fun y hy => ?_)
        · rcases inB_mem hz with q | q
          · rw [q]; exact hB
          · exact stB_all h z q
        · have hfn : fdF (cnB b.1) xs < 0 := by unfold fnB at *; omega
          have := fdF_neg.1 hfn y hy
          simpa [cnB] using this
  · omega
theorem mk_ok {xs : List Prom} {p : Prom} (h : mkPC xs p = 0) : prsB (mkPL xs p) = true := by
  unfold mkPL; rw [if_pos h]
  unfold mkPC at h; split at h
  · split at h
    · omega
    · split at h
      · assumption
      · omega
  · omega
theorem ae_ok {xs : List Ent} {e : Ent} (h : addC xs e = 0) : dbB (addL xs e) = true := by
  unfold addC at h; unfold addL; split at h
  · split at h
    · omega
    · split at h
      · rename_i h1 h2 h3
        rw [if_pos h1, if_neg h2, if_pos h3]; exact h3
      · omega
  · omega
theorem stR_ok {d : Dsk} {xs : List Bin} {c : Int} (h : deskB d = true) (hx : c = 0 → stB xs = true) : deskB (stR d xs c).1 = true := by
  obtain ⟨h1, h2, h3, _⟩ := desk_bd h
  unfold stR; split
  · exact desk_mk (hx ‹_›) h2 h3
  · exact h
theorem prR_ok {d : Dsk} {xs : List Prom} {c : Int} (h : deskB d = true) (hx : c = 0 → prsB xs = true) : deskB (prR d xs c).1 = true := by
  obtain ⟨h1, h2, h3, _⟩ := desk_bd h
  unfold prR; split
  · exact desk_mk h1 (hx ‹_›) h3
  · exact h
theorem bkR_ok {d : Dsk} {e : Ent} (h : deskB d = true) : deskB (bkR d e).1 = true := by
  obtain ⟨h1, h2, h3, _⟩ := desk_bd h
  unfold bkR; split
  · exact desk_mk h1 h2 (ae_ok ‹_›)
  · exact h
theorem exW_all {P : Dsk × Str × Int → Prop} {w s : Str} {a b : Int} {d : Dsk} (h0 : P (stR d (adL d.1 (s, 0, 0, a, b)) (adC d.1 (s, 0, 0, a, b)))) (h1 : P (stR d (opL d.1 s (flC d.1 s a) a 0) (flC d.1 s a))) (h2 : P (stR d (opL d.1 s (rsC d.1 s a) 0 a) (rsC d.1 s a))) (h3 : P (stR d (opL d.1 s (rlC d.1 s a) 0 (0 - a)) (rlC d.1 s a))) (h4 : P (stR d (opL d.1 s (rlC d.1 s a) (0 - a) (0 - a)) (rlC d.1 s a))) (h5 : P (tdR d (frI d.1 s) (stC d.1 s 1))) (h6 : P (txR d (orT d.1) 0)) (h7 : P (prR d (mkPL d.2.1 (s, a, b)) (mkPC d.2.1 (s, a, b)))) (h8 : P (tdR d (wnI d.2.1 a) (edC d.2.1 a))) (h9 : P (tdR d (ktI d.2.1) (if prsB d.2.1 then 0 else 1))) (h10 : P (bkR d (a, 0, s, b))) (h11 : P (bkR d (a, 1, s, b))) (h12 : P (bkR d (a, 2, s, b))) (h13 : P (bkR d (a, 3, [], 0))) (h14 : P (tdR d (csI d.2.2 a) (codeD d.2.2 a))) (h15 : P (tdR d (owI d.2.2 s) (if dbB d.2.2 && wordB s then 0 else 1))) (h16 : P (grR d a b)) (h17 : P (txR d (if isV a then meS a else []) (if isV a then 0 else 2))) : P (exW w s a b d) := by
  unfold exW
  by_cases c0 : w = [98, 105, 110]
  · rw [if_pos c0]; exact h0
  rw [if_neg c0]
  by_cases c1 : w = [102, 105, 108, 108]
  · rw [if_pos c1]; exact h1
  rw [if_neg c1]
  by_cases c2 : w = [114, 101, 115, 101, 114, 118, 101]
  · rw [if_pos c2]; exact h2
  rw [if_neg c2]
  by_cases c3 : w = [114, 101, 108, 101, 97, 115, 101]
  · rw [if_pos c3]; exact h3
  rw [if_neg c3]
  by_cases c4 : w = [117, 115, 101]
  · rw [if_pos c4]; exact h4
  rw [if_neg c4]
  by_cases c5 : w = [102, 114, 101, 101]
  · rw [if_pos c5]; exact h5
  rw [if_neg c5]
  by_cases c6 : w = [111, 114, 100, 101, 114]
  · rw [if_pos c6]; exact h6
  rw [if_neg c6]
  by_cases c7 : w = [112, 114, 111, 109, 105, 115, 101]
  · rw [if_pos c7]; exact h7
  rw [if_neg c7]
  by_cases c8 : w = [119, 104, 101, 110]
  · rw [if_pos c8]; exact h8
  rw [if_neg c8]
  by_cases c9 : w = [107, 101, 112, 116]
  · rw [if_pos c9]; exact h9
  rw [if_neg c9]
  by_cases c10 : w = [115, 97, 108, 101]
  · rw [if_pos c10]; exact h10
  rw [if_neg c10]
  by_cases c11 : w = [112, 97, 121]
  · rw [if_pos c11]; exact h11
  rw [if_neg c11]
  by_cases c12 : w = [98, 117, 121]
  · rw [if_pos c12]; exact h12
  rw [if_neg c12]
  by_cases c13 : w = [99, 108, 111, 115, 101]
  · rw [if_pos c13]; exact h13
  rw [if_neg c13]
  by_cases c14 : w = [99, 97, 115, 104]
  · rw [if_pos c14]; exact h14
  rw [if_neg c14]
  by_cases c15 : w = [111, 119, 101, 115]
  · rw [if_pos c15]; exact h15
  rw [if_neg c15]
  by_cases c16 : w = [103, 101, 97, 114]
  · rw [if_pos c16]; exact h16
  rw [if_neg c16]
  exact h17
/-- The desk stays valid. -/
theorem exM_desk {d : Dsk} (h : deskB d = true) (ws : List Str) (ns : List Int) : deskB (exM d ws ns).1 = true := by
  have h1 := (desk_bd h).1
  unfold exM; generalize gw ws 0 = w; generalize gw ws 1 = s; generalize gn ns 0 = a; generalize gn ns 1 = b
  refine exW_all (P := fun r => deskB r.1 = true) ?_ ?_ ?_ ?_ ?_ ?_ ?_ ?_ ?_ ?_ ?_ ?_ ?_ ?_ ?_ ?_ ?_ ?_
  · exact stR_ok h (ad_ok h1)
  · exact stR_ok h fl_ok
  · exact stR_ok h rs_ok
  · exact stR_ok h (rl_ok (.inl rfl))
  · exact stR_ok h (rl_ok (.inr rfl))
  · exact h
  · exact h
  · exact prR_ok h mk_ok
  · exact h
  · exact h
  · exact bkR_ok h
  · exact bkR_ok h
  · exact bkR_ok h
  · exact bkR_ok h
  · exact h
  · exact h
  · unfold grR; split <;> exact h
  · exact h
theorem stC_bd (xs : List Bin) (c : Str) (p : Int) : 0 ≤ stC xs c p ∧ stC xs c p ≤ 9 := by
  unfold stC; repeat' split
  all_goals omega
theorem code_st {d : Dsk} {xs : List Bin} {c : Int} (h : 0 ≤ c ∧ c ≤ 9) : 0 ≤ (stR d xs c).2.2 ∧ (stR d xs c).2.2 ≤ 9 := by unfold stR; split <;> simp only <;> omega
theorem code_pr {d : Dsk} {xs : List Prom} {c : Int} (h : 0 ≤ c ∧ c ≤ 9) : 0 ≤ (prR d xs c).2.2 ∧ (prR d xs c).2.2 ≤ 9 := by unfold prR; split <;> simp only <;> omega
theorem addC_bd (xs : List Ent) (e : Ent) : 0 ≤ addC xs e ∧ addC xs e ≤ 9 := by
  unfold addC; repeat' split
  all_goals omega
theorem code_bk {d : Dsk} {e : Ent} : 0 ≤ (bkR d e).2.2 ∧ (bkR d e).2.2 ≤ 9 := by have := addC_bd d.2.2 e; unfold bkR; split <;> simp only <;> omega
/-- Codes are small. -/
theorem exM_code (d : Dsk) (ws : List Str) (ns : List Int) : 0 ≤ (exM d ws ns).2.2 ∧ (exM d ws ns).2.2 ≤ 9 := by
  unfold exM; generalize gw ws 0 = w; generalize gw ws 1 = s; generalize gn ns 0 = a; generalize gn ns 1 = b
  have hst := fun p => stC_bd d.1 s p
  refine exW_all (P := fun r => 0 ≤ r.2.2 ∧ r.2.2 ≤ 9) ?_ ?_ ?_ ?_ ?_ ?_ ?_ ?_ ?_ ?_ ?_ ?_ ?_ ?_ ?_ ?_ ?_ ?_
  · refine code_st ?_; unfold adC; repeat' split
    all_goals omega
  · refine code_st ?_; have := hst a; unfold flC; repeat' split
    all_goals omega
  · refine code_st ?_; have := hst a; unfold rsC; repeat' split
    all_goals omega
  · refine code_st ?_; have := hst a; unfold rlC; repeat' split
    all_goals omega
  · refine code_st ?_; have := hst a; unfold rlC; repeat' split
    all_goals omega
  · exact hst 1
  · unfold txR; simp only; omega
  · refine code_pr ?_; unfold mkPC; repeat' split
    all_goals omega
  · unfold tdR edC cdP; simp only; repeat' split
    all_goals omega
  · unfold tdR; simp only; omega
  · exact code_bk
  · exact code_bk
  · exact code_bk
  · exact code_bk
  · unfold tdR codeD; simp only; repeat' split
    all_goals omega
  · unfold tdR; simp only; omega
  · unfold grR; split
    · unfold tdR; simp only; omega
    · unfold txR; simp only; omega
  · unfold txR; simp only; omega
theorem meS_len2 {n : Int} (h : isV n = true) : (meS n).length ≤ 51 := by
  have := isV_bd h
  rcases Int.lt_or_le n 0 with q | q
  · have h2 := meS_len (n := 0 - n) (by omega)
    rw [meS_neg q, List.length_cons]; omega
  · have h2 := meS_len (n := n) (by omega); omega
theorem orT_len {xs : List Bin} (h : xs.length ≤ 20) : (orT xs).length ≤ 1048576 := by
  unfold orT; split
  · simp
  · exact orJ_len (by omega) (oc_st xs)
theorem len_td {d : Dsk} {x c : Int} (h : -9000000000 ≤ x ∧ x ≤ 9000000000) : (tdR d x c).2.1.length ≤ 1048576 := by
  have := decS_len (n := x) (by omega); unfold tdR; simp only; omega
theorem len_st {d : Dsk} {xs : List Bin} {c : Int} : (stR d xs c).2.1.length ≤ 1048576 := by unfold stR; split <;> simp
theorem len_pr {d : Dsk} {xs : List Prom} {c : Int} : (prR d xs c).2.1.length ≤ 1048576 := by unfold prR; split <;> simp
theorem len_bk {d : Dsk} {e : Ent} : (bkR d e).2.1.length ≤ 1048576 := by unfold bkR; split <;> simp
/-- Outputs are short. -/
theorem exM_len {d : Dsk} (h : deskB d = true) (ws : List Str) (ns : List Int) : (exM d ws ns).2.1.length ≤ 1048576 := by
  obtain ⟨h1, h2, h3, h4, h5, h6⟩ := desk_bd h
  unfold exM; generalize gw ws 0 = w; generalize gw ws 1 = s; generalize gn ns 0 = a; generalize gn ns 1 = b
  refine exW_all (P := fun r => r.2.1.length ≤ 1048576) ?_ ?_ ?_ ?_ ?_ ?_ ?_ ?_ ?_ ?_ ?_ ?_ ?_ ?_ ?_ ?_ ?_ ?_
  · exact len_st
  · exact len_st
  · exact len_st
  · exact len_st
  · exact len_st
  · exact len_td (bd_fr h1 s)
  · exact orT_len h4
  · exact len_pr
  · exact len_td (bd_wn _ a)
  · exact len_td (bd_kt h5)
  · exact len_bk
  · exact len_bk
  · exact len_bk
  · exact len_bk
  · exact len_td (bd_cs h3 a)
  · exact len_td (bd_ow h3 s)
  · unfold grR; split
    · rename_i hc; exact len_td (bd_gr hc.1 hc.2)
    · simp [txR]
  · unfold txR; simp only; split
    · have := meS_len2 ‹_›; omega
    · simp
/-- Which commands change the stock, which the promises and the book. -/
def isS (w : Str) : Bool := decide (w = [98, 105, 110]) || (decide (w = [102, 105, 108, 108]) || (decide (w = [114, 101, 115, 101, 114, 118, 101]) || (decide (w = [114, 101, 108, 101, 97, 115, 101]) || decide (w = [117, 115, 101]))))
def isK (w : Str) : Bool := decide (w = [112, 114, 111, 109, 105, 115, 101]) || (decide (w = [115, 97, 108, 101]) || (decide (w = [112, 97, 121]) || (decide (w = [98, 117, 121]) || decide (w = [99, 108, 111, 115, 101]))))
theorem ex_ok {d : Dsk} {ws : List Str} {ns : List Int} (h : isS (gw ws 0) = true ∨ isK (gw ws 0) = true) (hc : (exM d ws ns).2.2 = 0) : (exM d ws ns).2.1 = [111, 107] := by
  have kst : ∀ {xs : List Bin} {c : Int}, (stR d xs c).2.2 = 0 → (stR d xs c).2.1 = [111, 107] := fun {xs c} q => by
    unfold stR at q ⊢; split at q
    · rw [if_pos ‹_›]
    · exact absurd q ‹_›
  have kpr : ∀ {xs : List Prom} {c : Int}, (prR d xs c).2.2 = 0 → (prR d xs c).2.1 = [111, 107] := fun {xs c} q => by
    unfold prR at q ⊢; split at q
    · rw [if_pos ‹_›]
    · exact absurd q ‹_›
  have kbk : ∀ {e : Ent}, (bkR d e).2.2 = 0 → (bkR d e).2.1 = [111, 107] := fun {e} q => by
    unfold bkR at q ⊢; split at q
    · rw [if_pos ‹_›]
    · exact absurd q ‹_›
  unfold exM at hc ⊢
  generalize gw ws 0 = w at *
  unfold isS isK at h; simp only [Bool.or_eq_true, decide_eq_true_eq] at h
  rcases h with (h | h | h | h | h) | (h | h | h | h | h) <;> subst h <;> (unfold exW at hc ⊢; repeat (rw [if_pos rfl] at hc); repeat (rw [if_pos rfl]); first | exact kst hc | exact kpr hc | exact kbk hc)
theorem ex_ask {d : Dsk} {ws : List Str} {ns : List Int} (h1 : isS (gw ws 0) = false) (h2 : isK (gw ws 0) = false) : (exM d ws ns).1 = d := by
  unfold exM; generalize gw ws 0 = w at *
  unfold isS isK at *; simp only [Bool.or_eq_false_iff, decide_eq_false_iff_not] at h1 h2
  unfold exW
  rw [if_neg h1.1]
  rw [if_neg h1.2.1]
  rw [if_neg h1.2.2.1]
  rw [if_neg h1.2.2.2.1]
  rw [if_neg h1.2.2.2.2]
  by_cases c5 : w = [102, 114, 101, 101]
  · rw [if_pos c5]; rfl
  rw [if_neg c5]
  by_cases c6 : w = [111, 114, 100, 101, 114]
  · rw [if_pos c6]; rfl
  rw [if_neg c6]
  rw [if_neg h2.1]
  by_cases c8 : w = [119, 104, 101, 110]
  · rw [if_pos c8]; rfl
  rw [if_neg c8]
  by_cases c9 : w = [107, 101, 112, 116]
  · rw [if_pos c9]; rfl
  rw [if_neg c9]
  rw [if_neg h2.2.1]
  rw [if_neg h2.2.2.1]
  rw [if_neg h2.2.2.2.1]
  rw [if_neg h2.2.2.2.2]
  by_cases c14 : w = [99, 97, 115, 104]
  · rw [if_pos c14]; rfl
  rw [if_neg c14]
  by_cases c15 : w = [111, 119, 101, 115]
  · rw [if_pos c15]; rfl
  rw [if_neg c15]
  by_cases c16 : w = [103, 101, 97, 114]
  · rw [if_pos c16]; unfold grR; split <;> rfl
  rw [if_neg c16]
  rfl


end Go.Proofs.YthbehhhblchhhaaGreat
