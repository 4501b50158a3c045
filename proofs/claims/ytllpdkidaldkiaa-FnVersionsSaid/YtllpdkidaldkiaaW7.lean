/- Values set, versions added. -/
import Derived.Test.YtllpdkidaldkiaaW6
namespace Go.Proofs.Ytllpdkidaldkiaa
open Go Go.RowKit

theorem get_mem2 {α : Type} {xs : List α} {i : Nat} {x : α} (h : xs[i]? = some x) : x ∈ xs := List.mem_of_getElem? h
/-- A sheet with a value of a key. -/
def stG (k : Str) (v : Int) : List Line → Bool → List Line
  | [], d => if d then [] else [(k, v)]
  | l :: ls, d => (if d = false ∧ ¬ l.1 < k then [(k, v)] else []) ++ ((if l.1 = k then [] else [l]) ++ stG k v ls (d || decide (¬ l.1 < k)))
def stL (k : Str) (v : Int) (ls : List Line) : List Line := stG k v ls (decide (v = -1))
theorem st_put {k : Str} {v : Int} {l : Line} {ls : List Line} (h : ¬ l.1 < k) : stG k v (l :: ls) false = (k, v) :: ((if l.1 = k then [] else [l]) ++ stG k v ls true) := by
  rw [stG, if_pos ⟨rfl, h⟩, decide_eq_true h]; rfl
theorem st_no {k : Str} {v : Int} {l : Line} {ls : List Line} {d : Bool} (h : d = true ∨ l.1 < k) : stG k v (l :: ls) d = (if l.1 = k then [] else [l]) ++ stG k v ls d := by
  rw [stG, if_neg (by rintro ⟨h1, h2⟩; rcases h with h | h; (rw [h1] at h; cases h); exact h2 h)]
  rcases h with h | h
  · subst h; rfl
  · rw [decide_eq_false (by simpa using h), Bool.or_false]; rfl
theorem stG_len (k : Str) (v : Int) : ∀ (ls : List Line) (d : Bool), (stG k v ls d).length ≤ ls.length + (if d then 0 else 1)
  | [], d => by cases d <;> simp [stG]
  | l :: ls, d => by
    have h1 := stG_len k v ls d; have h2 := stG_len k v ls true
    simp only [if_true] at h2
    by_cases q : d = true ∨ l.1 < k
    · rw [st_no q]; split <;> simp only [List.length_append, List.length_cons, List.length_nil] <;> omega
    · rw [not_or] at q
      have e : d = false := by simpa using q.1
      subst e
      rw [st_put q.2]; simp only [Bool.false_eq_true, if_false]; split <;> simp only [List.length_append, List.length_cons, List.length_nil] <;> omega
theorem stG_mem {k : Str} {v : Int} {z : Line} : ∀ {ls : List Line} {d : Bool}, z ∈ stG k v ls d → (d = false ∧ z = (k, v)) ∨ (z ∈ ls ∧ z.1 ≠ k)
  | [], d, h => by
    cases d
    · rw [stG] at h; exact .inl ⟨rfl, by simpa using h⟩
    · rw [stG] at h; cases h
  | l :: ls, d, h => by
    have key : ∀ d', z ∈ (if l.1 = k then [] else [l]) ++ stG k v ls d' → (d' = false ∧ z = (k, v)) ∨ (z ∈ l :: ls ∧ z.1 ≠ k) := by
      intro d' h'
      rcases List.mem_append.1 h' with e | e
      · split at e
        · cases e
        · rw [List.mem_singleton] at e; subst e; exact .inr ⟨by simp, ‹_›⟩
      · rcases stG_mem e with e | e
        · exact .inl e
        · exact .inr ⟨by simp [e.1], e.2⟩
    by_cases q : d = true ∨ l.1 < k
    · rw [st_no q] at h; exact key d h
    · rw [not_or] at q
      have e : d = false := by simpa using q.1
      subst e
      rw [st_put q.2] at h
      rcases List.mem_cons.1 h with e | e
      · exact .inl ⟨rfl, e⟩
      · rcases key true e with e | e
        · cases e.1
        · exact .inr e
theorem stG_pw {k : Str} {v : Int} : ∀ {ls : List Line} {d : Bool}, ls.Pairwise (fun x y => x.1 < y.1) → (stG k v ls d).Pairwise fun x y => x.1 < y.1
  | [], d, _ => by cases d <;> simp [stG]
  | l :: ls, d, h => by
    have h' := List.pairwise_cons.1 h
    by_cases q : d = true ∨ l.1 < k
    · rw [st_no q]; split
      · exact stG_pw h'.2
      · refine List.Pairwise.cons (fun z hz => ?_) (stG_pw h'.2)
        rcases stG_mem hz with e | e
        · rw [e.2]; rcases q with q | q
          · rw [q] at e; cases e.1
          · exact q
        · exact h'.1 z e.1
    · rw [not_or] at q
      have e : d = false := by simpa using q.1
      subst e
      rw [st_put q.2]
      have hk : ∀ z, z ∈ ls → z.1 ≠ k → k < z.1 := fun z hz hn => (str_le q.2).elim (fun e => str_tr e (h'.1 z hz)) fun e => e ▸ h'.1 z hz
      refine List.Pairwise.cons (fun z hz => ?_) ?_
      · rcases List.mem_append.1 hz with e | e
        · split at e
          · cases e
          · rw [List.mem_singleton] at e; subst e; exact (str_le q.2).resolve_right (fun e => ‹¬ _› e.symm)
        · rcases stG_mem e with e | e
          · cases e.1
          · exact hk z e.1 e.2
      · split
        · exact stG_pw h'.2
        · refine List.Pairwise.cons (fun z hz => ?_) (stG_pw h'.2)
          rcases stG_mem hz with e | e
          · cases e.1
          · exact h'.1 z e.1

theorem c_spec_l29Set (w0 : World) (v_lines : Value) (lines : List (Str × Int)) {S_lines : Nat → Prop} (key : Str) (value : Int) (h_lines : Rds shLine S_lines w0 v_lines lines) (g0 : lines.length ≤ 1048576) (g1 : I64 value) (g2 : key.length ≤ 1048576) :
  Calls Try.prog 72 #[v_lines, St key, .int .i64 value] w0 (Ret w0 (fun v w1 => Own shLine 83 w0.heap.size w0.heap.size w1.heap.size w1 v (stL key value lines))) := by
 refine enter (N := 59) Try.func72 rfl rfl rfl ?_
 intro a0 ha0
 have hx0 := Ext.rfl' w0
 have hl_lines := h_lines.length_le
 refine wp_seq ?_
 refine wp_region_lit ?_
 refine wl_val ha0 rfl rfl rfl (op_assign ha0 rfl rfl) ?_
 intro a1 ha1; clear ha0 a0
 refine wpList_nil ?_
 refine then_n ?_
 refine wp_seq ?_
 refine wp_region_lit ?_
 refine wl_eff ha1 rfl rfl rfl (op_buildSlice (s := shLine) (xs := ([] : List (Str × Int))) (cs := []) (vs := []) (S := fun _ => False) (le := w0.heap.size) ha1 rfl pos_shLine Try.underlying34 ti83 rfl rfl (by decide) (by kernel_rfl) rfl (fun _ h => h.elim)) ?_
 rintro v2 w3 ⟨ho4, he5, hob6⟩ a7 ha7; clear ha1 a1
 have hx8 := hx0.trans' he5
 have hzhx8 := he5.size
 refine wl_val ha7 rfl rfl rfl (op_assign ha7 rfl rfl) ?_
 intro a9 ha9; clear ha7 a7
 refine wpList_nil ?_
 refine then_n ?_
 refine wp_seq ?_
 refine wp_region_lit ?_
 refine wl_val ha9 rfl rfl rfl (op_move ha9 rfl rfl) ?_
 intro a10 ha10; clear ha9 a9
 refine wl_val ha10 rfl rfl rfl (op_eql ha10 rfl rfl rfl) ?_
 intro a11 ha11; clear ha10 a10
 refine wl_val ha11 rfl rfl rfl (op_assign ha11 rfl rfl) ?_
 intro a12 ha12; clear ha11 a11
 refine wpList_nil ?_
 refine then_n ?_
 refine wp_seq ?_
 refine wp_seq ?_
 refine wp_region_lit ?_
 refine wl_val ha12 rfl rfl rfl (op_assign ha12 rfl rfl) ?_
 intro a13 ha13; clear ha12 a12
 refine wpList_nil ?_
 refine then_n ?_
 refine wp_block ?_
 refine loop_inv (X := Nat × Bool × Value × (List (Str × Int))) (fun (⟨i, p, v, acc⟩ : Nat × Bool × Value × (List (Str × Int))) fr wl => Sl 59 fr [(0, v_lines), (1, St key), (2, .int .i64 value), (7, v), (8, .bool (p)), (9, .int .i64 ((i : Nat) : Int))] ∧ Ext w0 wl ∧ Own shLine 83 w0.heap.size w0.heap.size wl.heap.size wl v acc ∧ w3.heap.size ≤ wl.heap.size ∧ (i ≤ lines.length) ∧ (acc.length ≤ 2 * i) ∧ (acc ++ stG key value (lines.drop i) p = stL key value lines)) (fun (⟨i, p, v, acc⟩ : Nat × Bool × Value × (List (Str × Int))) => lines.length - i) (0, decide (value = (-1 : Int)), v2, ([] : List (Str × Int))) ?_ ?_
 ·
  exact ⟨(Sl.cons_ ha13 rfl rfl (Sl.cons_ ha13 rfl rfl (Sl.cons_ ha13 rfl rfl (Sl.cons_ ha13 rfl rfl (Sl.cons_ ha13 rfl rfl (Sl.cons_ ha13 rfl (int_eq (by omega)) (Sl.nil_ ha13))))))), hx8, (ho4.fin (by omega) (by omega) (by omega)), (by omega), (by omega), (by exact Nat.zero_le _), (by rfl)⟩
 ·
  clear ha13 a13
  rintro ⟨i, p, v, acc⟩ a17 w14 ⟨ha17, hx15, hf16, hzl18, hi, hl, hF⟩
  have hzhx15 := hx15.size
  refine wp_seq ?_
  refine wp_seq ?_
  refine wp_region_lit ?_
  refine wl_val ha17 rfl rfl rfl (op_move ha17 rfl rfl) ?_
  intro a19 ha19; clear ha17 a17
  refine wl_val ha19 rfl rfl rfl (op_move ha19 rfl rfl) ?_
  intro a20 ha20; clear ha19 a19
  refine wl_val ha20 rfl rfl rfl (op_len_sl ha20 rfl Try.underlying34 rfl h_lines) ?_
  intro a21 ha21; clear ha20 a20
  refine wl_val ha21 rfl rfl rfl (op_lss ha21 rfl rfl rfl) ?_
  intro a22 ha22; clear ha21 a21
  refine wpList_nil ?_
  refine then_n ?_
  by_cases c23 : ((i : Nat) : Int) < ((lines.length : Nat) : Int)
  ·
   rw [decide_eq_true c23] at ha22
   refine cond_t ha22 rfl ?_
   refine wp_skip ?_
   refine then_n ?_
   refine wp_seq ?_
   refine wp_block ?_
   refine wp_seq ?_
   refine wp_seq ?_
   refine wp_region_lit ?_
   refine wl_val ha22 rfl rfl rfl (op_move ha22 rfl rfl) ?_
   intro a24 ha24; clear ha22 a22
   refine wl_val ha24 rfl rfl rfl (op_not ha24 rfl rfl) ?_
   intro a25 ha25; clear ha24 a24
   refine wl_val ha25 rfl rfl rfl (op_move ha25 rfl rfl) ?_
   intro a26 ha26; clear ha25 a25
   rcases Bool.eq_false_or_eq_true (p) with c27 | c27
   ·
    rw [c27] at ha26
    refine wl_skip ha26 rfl rfl rfl ?_
    intro a28 ha28; clear ha26 a26
    refine wl_skip ha28 rfl rfl rfl ?_
    intro a29 ha29; clear ha28 a28
    refine wl_skip ha29 rfl rfl rfl ?_
    intro a30 ha30; clear ha29 a29
    refine wl_skip ha30 rfl rfl rfl ?_
    intro a31 ha31; clear ha30 a30
    refine wl_skip ha31 rfl rfl rfl ?_
    intro a32 ha32; clear ha31 a31
    refine wl_skip ha32 rfl rfl rfl ?_
    intro a33 ha33; clear ha32 a32
    refine wl_skip ha33 rfl rfl rfl ?_
    intro a34 ha34; clear ha33 a33
    refine wl_val ha34 rfl rfl rfl (op_pick_f ha34 rfl rfl rfl) ?_
    intro a35 ha35; clear ha34 a34
    refine wpList_nil ?_
    refine then_n ?_
    refine cond_f ha35 rfl ?_
    refine wp_skip ?_
    refine then_n ?_
    refine wp_seq ?_
    refine wp_region_lit ?_
    refine wl_val ha35 rfl rfl rfl (op_move ha35 rfl rfl) ?_
    intro a36 ha36; clear ha35 a35
    refine wl_val ha36 rfl rfl rfl (op_move ha36 rfl rfl) ?_
    intro a37 ha37; clear ha36 a36
    obtain ⟨x38, hx38⟩ := get_ex (xs := lines) (j := i) (by omega)
    obtain ⟨p39, c40, hi41, hc42, hr43, hs44⟩ := Rds.at_ h_lines hx38
    obtain ⟨rfl, b45, b46⟩ := inv_shLine hr43
    refine wl_val ha37 rfl rfl rfl (op_indexAddr ha37 rfl Try.underlying34 ti83 rfl rfl (by omega) hi41) ?_
    intro a47 ha47; clear ha37 a37
    refine wl_val ha47 rfl rfl rfl (op_fieldAddr (sz := 0) ha47 rfl Try.underlying83 rfl rfl ti9 rfl) ?_
    intro a48 ha48; clear ha47 a47
    refine wl_val ha48 rfl rfl rfl (op_loadF (off := 0) ha48 rfl Try.underlying9 rfl rfl (hc42.ext hx15) rfl) ?_
    intro a49 ha49; clear ha48 a48
    refine wl_val ha49 rfl rfl rfl (op_move ha49 rfl rfl) ?_
    intro a50 ha50; clear ha49 a49
    refine wl_val ha50 rfl rfl rfl ((op_sneq ha50 rfl rfl rfl).to (congrArg Value.bool decide_not)) ?_
    intro a51 ha51; clear ha50 a50
    refine wpList_nil ?_
    refine then_n ?_
    by_cases c52 : x38.1 = key
    ·
     rw [decide_eq_true c52] at ha51
     refine cond_f ha51 rfl ?_
     refine wp_skip ?_
     refine block_n ?_
     refine then_n ?_
     refine wp_region_lit ?_
     refine wl_val ha51 rfl rfl rfl (op_move ha51 rfl rfl) ?_
     intro a53 ha53; clear ha51 a51
     refine wl_val ha53 rfl rfl rfl ((op_add ha53 rfl rfl rfl).int (IntWalk.i64_in _ (by omega))) ?_
     intro a54 ha54; clear ha53 a53
     refine wl_val ha54 rfl rfl rfl (op_assign ha54 rfl rfl) ?_
     intro a55 ha55; clear ha54 a54
     refine wpList_nil ?_
     refine round_end (x := (i, p, v, acc)) ((i + 1), true, v, acc) ?_ ?_
     ·
      refine ⟨(Sl.cons_ ha55 rfl rfl (Sl.cons_ ha55 rfl rfl (Sl.cons_ ha55 rfl rfl (Sl.cons_ ha55 rfl rfl (Sl.cons_ ha55 rfl rfl (Sl.cons_ ha55 rfl (int_eq (by omega)) (Sl.nil_ ha55))))))), hx15, (hf16.fin (by omega) (by omega) (by omega)), (by omega), (by omega), (by first | omega | (simp; omega)), (by rw [c27, drop_cons hx38, st_no (.inl rfl)] at hF; rw [if_pos (by assumption)] at hF; rw [← hF]; simp)⟩
     ·show (lines.length - ((i + 1)) : Nat) < lines.length - i; omega
    ·
     rw [decide_eq_false c52] at ha51
     refine cond_t ha51 rfl ?_
     refine wp_region_lit ?_
     refine wl_val ha51 rfl rfl rfl (op_move ha51 rfl rfl) ?_
     intro a56 ha56; clear ha51 a51
     refine wl_val ha56 rfl rfl rfl (op_move ha56 rfl rfl) ?_
     intro a57 ha57; clear ha56 a56
     refine wl_val ha57 rfl rfl rfl (op_move ha57 rfl rfl) ?_
     intro a58 ha58; clear ha57 a57
     refine wl_val ha58 rfl rfl rfl (op_indexAddr ha58 rfl Try.underlying34 ti83 rfl rfl (by omega) hi41) ?_
     intro a59 ha59; clear ha58 a58
     refine wl_val ha59 rfl rfl rfl (op_loadS ha59 rfl Try.underlying83 ti83 rfl rfl (hc42.ext hx15)) ?_
     intro a60 ha60; clear ha59 a59
     refine wl_eff ha60 rfl rfl rfl (op_buildSlice (s := shLine) (xs := [x38]) (cs := [St x38.1, .int .i64 x38.2]) (vs := [(0, .agg #[St x38.1, .int .i64 x38.2])]) (S := fun _ => False) (le := w14.heap.size) ha60 rfl pos_shLine Try.underlying34 ti83 rfl rfl (by decide) (by kernel_rfl) (Els.single (mk_shLine x38 (by first | assumption | omega | (simp only []; omega) | (simp; omega)) (by first | assumption | omega | (simp only []; omega) | (simp; omega)))) (fun _ h => h.elim)) ?_
     rintro v61 w62 ⟨ho63, he64, hob65⟩ a66 ha66; clear ha60 a60
     have hx67 := hx15.trans' he64
     have hzhx67 := he64.size
     replace hf16 := hf16.ext he64
     refine wl_eff ha66 rfl rfl rfl (op_append (ts := #[]) (s := shLine) ha66 rfl Try.underlying34 ti83 rfl pos_shLine rfl rfl hf16 (ho63.rds pos_shLine) (by omega) (by omega) (by first | omega | (simp; omega)) (by first | omega | (simp; omega)) (.inl flat_shLine)) ?_
     rintro v68 w69 ⟨ho70, hst71, hob72⟩ a73 ha73; clear ha66 a66
     have hx74 := hx67.stp hst71 (by intro q hq; have hq0 := hf16.lt q hq; omega)
     have hzhx74 := hst71.size
     replace ho63 := ho63.stp hst71 (by intro q hq; have hq0 := hf16.lt q hq; omega)
     have hsp75 : ∀ q, Value.ownBlock v68 = some q → Value.ownBlock v61 ≠ some q := by intro q hq hb; have hq0 := ho63.lt q hb; rcases hob72 with h | h; (rw [h] at hq; first | (have hq1 := hf16.lt q hq; omega)); (rw [h] at hq; cases hq; omega)
     refine wl_val ha73 rfl rfl rfl (op_assign ha73 rfl rfl) ?_
     intro a76 ha76; clear ha73 a73
     refine wpList_nil ?_
     refine block_n ?_
     refine then_n ?_
     refine wp_region_lit ?_
     refine wl_val ha76 rfl rfl rfl (op_move ha76 rfl rfl) ?_
     intro a77 ha77; clear ha76 a76
     refine wl_val ha77 rfl rfl rfl ((op_add ha77 rfl rfl rfl).int (IntWalk.i64_in _ (by omega))) ?_
     intro a78 ha78; clear ha77 a77
     refine wl_val ha78 rfl rfl rfl (op_assign ha78 rfl rfl) ?_
     intro a79 ha79; clear ha78 a78
     refine wpList_nil ?_
     refine round_end (x := (i, p, v, acc)) ((i + 1), true, v68, (acc ++ [x38])) ?_ ?_
     ·
      refine ⟨(Sl.cons_ ha79 rfl rfl (Sl.cons_ ha79 rfl rfl (Sl.cons_ ha79 rfl rfl (Sl.cons_ ha79 rfl rfl (Sl.cons_ ha79 rfl rfl (Sl.cons_ ha79 rfl (int_eq (by omega)) (Sl.nil_ ha79))))))), hx74, (ho70.fin (by omega) (by omega) (by omega)), (by omega), (by omega), (by first | omega | (simp; omega)), (by rw [c27, drop_cons hx38, st_no (.inl rfl)] at hF; rw [if_neg (by assumption)] at hF; rw [← hF]; simp)⟩
     ·show (lines.length - ((i + 1)) : Nat) < lines.length - i; omega
   ·
    rw [c27] at ha26
    refine wl_val ha26 rfl rfl rfl (op_move ha26 rfl rfl) ?_
    intro a80 ha80; clear ha26 a26
    refine wl_val ha80 rfl rfl rfl (op_move ha80 rfl rfl) ?_
    intro a81 ha81; clear ha80 a80
    obtain ⟨x82, hx82⟩ := get_ex (xs := lines) (j := i) (by omega)
    obtain ⟨p83, c84, hi85, hc86, hr87, hs88⟩ := Rds.at_ h_lines hx82
    obtain ⟨rfl, b89, b90⟩ := inv_shLine hr87
    refine wl_val ha81 rfl rfl rfl (op_indexAddr ha81 rfl Try.underlying34 ti83 rfl rfl (by omega) hi85) ?_
    intro a91 ha91; clear ha81 a81
    refine wl_val ha91 rfl rfl rfl (op_fieldAddr (sz := 0) ha91 rfl Try.underlying83 rfl rfl ti9 rfl) ?_
    intro a92 ha92; clear ha91 a91
    refine wl_val ha92 rfl rfl rfl (op_loadF (off := 0) ha92 rfl Try.underlying9 rfl rfl (hc86.ext hx15) rfl) ?_
    intro a93 ha93; clear ha92 a92
    refine wl_val ha93 rfl rfl rfl (op_move ha93 rfl rfl) ?_
    intro a94 ha94; clear ha93 a93
    refine wl_val ha94 rfl rfl rfl ((op_sgeq ha94 rfl rfl rfl).to (congrArg (fun b => Value.bool (!b)) (bytesLess_lt _ _))) ?_
    intro a95 ha95; clear ha94 a94
    refine wl_val ha95 rfl rfl rfl (op_pick_t ha95 rfl rfl rfl) ?_
    intro a96 ha96; clear ha95 a95
    refine wpList_nil ?_
    refine then_n ?_
    by_cases c97 : x82.1 < key
    ·
     rw [decide_eq_true c97] at ha96
     refine cond_f ha96 rfl ?_
     refine wp_skip ?_
     refine then_n ?_
     refine wp_seq ?_
     refine wp_region_lit ?_
     refine wl_val ha96 rfl rfl rfl (op_move ha96 rfl rfl) ?_
     intro a98 ha98; clear ha96 a96
     refine wl_val ha98 rfl rfl rfl (op_move ha98 rfl rfl) ?_
     intro a99 ha99; clear ha98 a98
     refine wl_val ha99 rfl rfl rfl (op_indexAddr ha99 rfl Try.underlying34 ti83 rfl rfl (by omega) hi85) ?_
     intro a100 ha100; clear ha99 a99
     refine wl_val ha100 rfl rfl rfl (op_fieldAddr (sz := 0) ha100 rfl Try.underlying83 rfl rfl ti9 rfl) ?_
     intro a101 ha101; clear ha100 a100
     refine wl_val ha101 rfl rfl rfl (op_loadF (off := 0) ha101 rfl Try.underlying9 rfl rfl (hc86.ext hx15) rfl) ?_
     intro a102 ha102; clear ha101 a101
     refine wl_val ha102 rfl rfl rfl (op_move ha102 rfl rfl) ?_
     intro a103 ha103; clear ha102 a102
     refine wl_val ha103 rfl rfl rfl ((op_sneq ha103 rfl rfl rfl).to (congrArg Value.bool decide_not)) ?_
     intro a104 ha104; clear ha103 a103
     refine wpList_nil ?_
     refine then_n ?_
     by_cases c105 : x82.1 = key
     ·
      rw [decide_eq_true c105] at ha104
      refine cond_f ha104 rfl ?_
      refine wp_skip ?_
      refine block_n ?_
      refine then_n ?_
      refine wp_region_lit ?_
      refine wl_val ha104 rfl rfl rfl (op_move ha104 rfl rfl) ?_
      intro a106 ha106; clear ha104 a104
      refine wl_val ha106 rfl rfl rfl ((op_add ha106 rfl rfl rfl).int (IntWalk.i64_in _ (by omega))) ?_
      intro a107 ha107; clear ha106 a106
      refine wl_val ha107 rfl rfl rfl (op_assign ha107 rfl rfl) ?_
      intro a108 ha108; clear ha107 a107
      refine wpList_nil ?_
      refine round_end (x := (i, p, v, acc)) ((i + 1), false, v, acc) ?_ ?_
      ·
       refine ⟨(Sl.cons_ ha108 rfl rfl (Sl.cons_ ha108 rfl rfl (Sl.cons_ ha108 rfl rfl (Sl.cons_ ha108 rfl rfl (Sl.cons_ ha108 rfl rfl (Sl.cons_ ha108 rfl (int_eq (by omega)) (Sl.nil_ ha108))))))), hx15, (hf16.fin (by omega) (by omega) (by omega)), (by omega), (by omega), (by first | omega | (simp; omega)), (by rw [c27, drop_cons hx82, st_no (.inr (by assumption))] at hF; rw [if_pos (by assumption)] at hF; rw [← hF]; simp)⟩
      ·show (lines.length - ((i + 1)) : Nat) < lines.length - i; omega
     ·
      rw [decide_eq_false c105] at ha104
      refine cond_t ha104 rfl ?_
      refine wp_region_lit ?_
      refine wl_val ha104 rfl rfl rfl (op_move ha104 rfl rfl) ?_
      intro a109 ha109; clear ha104 a104
      refine wl_val ha109 rfl rfl rfl (op_move ha109 rfl rfl) ?_
      intro a110 ha110; clear ha109 a109
      refine wl_val ha110 rfl rfl rfl (op_move ha110 rfl rfl) ?_
      intro a111 ha111; clear ha110 a110
      refine wl_val ha111 rfl rfl rfl (op_indexAddr ha111 rfl Try.underlying34 ti83 rfl rfl (by omega) hi85) ?_
      intro a112 ha112; clear ha111 a111
      refine wl_val ha112 rfl rfl rfl (op_loadS ha112 rfl Try.underlying83 ti83 rfl rfl (hc86.ext hx15)) ?_
      intro a113 ha113; clear ha112 a112
      refine wl_eff ha113 rfl rfl rfl (op_buildSlice (s := shLine) (xs := [x82]) (cs := [St x82.1, .int .i64 x82.2]) (vs := [(0, .agg #[St x82.1, .int .i64 x82.2])]) (S := fun _ => False) (le := w14.heap.size) ha113 rfl pos_shLine Try.underlying34 ti83 rfl rfl (by decide) (by kernel_rfl) (Els.single (mk_shLine x82 (by first | assumption | omega | (simp only []; omega) | (simp; omega)) (by first | assumption | omega | (simp only []; omega) | (simp; omega)))) (fun _ h => h.elim)) ?_
      rintro v114 w115 ⟨ho116, he117, hob118⟩ a119 ha119; clear ha113 a113
      have hx120 := hx15.trans' he117
      have hzhx120 := he117.size
      replace hf16 := hf16.ext he117
      refine wl_eff ha119 rfl rfl rfl (op_append (ts := #[]) (s := shLine) ha119 rfl Try.underlying34 ti83 rfl pos_shLine rfl rfl hf16 (ho116.rds pos_shLine) (by omega) (by omega) (by first | omega | (simp; omega)) (by first | omega | (simp; omega)) (.inl flat_shLine)) ?_
      rintro v121 w122 ⟨ho123, hst124, hob125⟩ a126 ha126; clear ha119 a119
      have hx127 := hx120.stp hst124 (by intro q hq; have hq0 := hf16.lt q hq; omega)
      have hzhx127 := hst124.size
      replace ho116 := ho116.stp hst124 (by intro q hq; have hq0 := hf16.lt q hq; omega)
      have hsp128 : ∀ q, Value.ownBlock v121 = some q → Value.ownBlock v114 ≠ some q := by intro q hq hb; have hq0 := ho116.lt q hb; rcases hob125 with h | h; (rw [h] at hq; first | (have hq1 := hf16.lt q hq; omega)); (rw [h] at hq; cases hq; omega)
      refine wl_val ha126 rfl rfl rfl (op_assign ha126 rfl rfl) ?_
      intro a129 ha129; clear ha126 a126
      refine wpList_nil ?_
      refine block_n ?_
      refine then_n ?_
      refine wp_region_lit ?_
      refine wl_val ha129 rfl rfl rfl (op_move ha129 rfl rfl) ?_
      intro a130 ha130; clear ha129 a129
      refine wl_val ha130 rfl rfl rfl ((op_add ha130 rfl rfl rfl).int (IntWalk.i64_in _ (by omega))) ?_
      intro a131 ha131; clear ha130 a130
      refine wl_val ha131 rfl rfl rfl (op_assign ha131 rfl rfl) ?_
      intro a132 ha132; clear ha131 a131
      refine wpList_nil ?_
      refine round_end (x := (i, p, v, acc)) ((i + 1), false, v121, (acc ++ [x82])) ?_ ?_
      ·
       refine ⟨(Sl.cons_ ha132 rfl rfl (Sl.cons_ ha132 rfl rfl (Sl.cons_ ha132 rfl rfl (Sl.cons_ ha132 rfl rfl (Sl.cons_ ha132 rfl rfl (Sl.cons_ ha132 rfl (int_eq (by omega)) (Sl.nil_ ha132))))))), hx127, (ho123.fin (by omega) (by omega) (by omega)), (by omega), (by omega), (by first | omega | (simp; omega)), (by rw [c27, drop_cons hx82, st_no (.inr (by assumption))] at hF; rw [if_neg (by assumption)] at hF; rw [← hF]; simp)⟩
      ·show (lines.length - ((i + 1)) : Nat) < lines.length - i; omega
    ·
     rw [decide_eq_false c97] at ha96
     refine cond_t ha96 rfl ?_
     refine wp_seq ?_
     refine wp_region_lit ?_
     refine wl_val ha96 rfl rfl rfl (op_move ha96 rfl rfl) ?_
     intro a133 ha133; clear ha96 a96
     refine wl_val ha133 rfl rfl rfl (op_move ha133 rfl rfl) ?_
     intro a134 ha134; clear ha133 a133
     refine wl_val ha134 rfl rfl rfl (op_move ha134 rfl rfl) ?_
     intro a135 ha135; clear ha134 a134
     refine wl_val ha135 rfl rfl rfl (op_build (vs := [(0, St key), (1, .int .i64 value)]) (cs := #[St key, .int .i64 value]) ha135 rfl Try.underlying83 ti83 bp83 rfl rfl) ?_
     intro a136 ha136; clear ha135 a135
     refine wl_eff ha136 rfl rfl rfl (op_buildSlice (s := shLine) (xs := [(key, value)]) (cs := [St key, .int .i64 value]) (vs := [(0, .agg #[St key, .int .i64 value])]) (S := fun _ => False) (le := w14.heap.size) ha136 rfl pos_shLine Try.underlying34 ti83 rfl rfl (by decide) (by kernel_rfl) (Els.single (mk_shLine ((key, value)) (by first | assumption | omega | (simp only []; omega) | (simp; omega)) (by first | assumption | omega | (simp only []; omega) | (simp; omega)))) (fun _ h => h.elim)) ?_
     rintro v137 w138 ⟨ho139, he140, hob141⟩ a142 ha142; clear ha136 a136
     have hx143 := hx15.trans' he140
     have hzhx143 := he140.size
     replace hf16 := hf16.ext he140
     refine wl_eff ha142 rfl rfl rfl (op_append (ts := #[]) (s := shLine) ha142 rfl Try.underlying34 ti83 rfl pos_shLine rfl rfl hf16 (ho139.rds pos_shLine) (by omega) (by omega) (by first | omega | (simp; omega)) (by first | omega | (simp; omega)) (.inl flat_shLine)) ?_
     rintro v144 w145 ⟨ho146, hst147, hob148⟩ a149 ha149; clear ha142 a142
     have hx150 := hx143.stp hst147 (by intro q hq; have hq0 := hf16.lt q hq; omega)
     have hzhx150 := hst147.size
     replace ho139 := ho139.stp hst147 (by intro q hq; have hq0 := hf16.lt q hq; omega)
     have hsp151 : ∀ q, Value.ownBlock v144 = some q → Value.ownBlock v137 ≠ some q := by intro q hq hb; have hq0 := ho139.lt q hb; rcases hob148 with h | h; (rw [h] at hq; first | (have hq1 := hf16.lt q hq; omega)); (rw [h] at hq; cases hq; omega)
     refine wl_val ha149 rfl rfl rfl (op_assign ha149 rfl rfl) ?_
     intro a152 ha152; clear ha149 a149
     refine wpList_nil ?_
     refine then_n ?_
     refine wp_region_lit ?_
     refine wl_val ha152 rfl rfl rfl (op_assign ha152 rfl rfl) ?_
     intro a153 ha153; clear ha152 a152
     refine wpList_nil ?_
     refine then_n ?_
     refine wp_seq ?_
     refine wp_region_lit ?_
     refine wl_val ha153 rfl rfl rfl (op_move ha153 rfl rfl) ?_
     intro a154 ha154; clear ha153 a153
     refine wl_val ha154 rfl rfl rfl (op_move ha154 rfl rfl) ?_
     intro a155 ha155; clear ha154 a154
     refine wl_val ha155 rfl rfl rfl (op_indexAddr ha155 rfl Try.underlying34 ti83 rfl rfl (by omega) hi85) ?_
     intro a156 ha156; clear ha155 a155
     refine wl_val ha156 rfl rfl rfl (op_fieldAddr (sz := 0) ha156 rfl Try.underlying83 rfl rfl ti9 rfl) ?_
     intro a157 ha157; clear ha156 a156
     refine wl_val ha157 rfl rfl rfl (op_loadF (off := 0) ha157 rfl Try.underlying9 rfl rfl (hc86.ext hx150) rfl) ?_
     intro a158 ha158; clear ha157 a157
     refine wl_val ha158 rfl rfl rfl (op_move ha158 rfl rfl) ?_
     intro a159 ha159; clear ha158 a158
     refine wl_val ha159 rfl rfl rfl ((op_sneq ha159 rfl rfl rfl).to (congrArg Value.bool decide_not)) ?_
     intro a160 ha160; clear ha159 a159
     refine wpList_nil ?_
     refine then_n ?_
     by_cases c161 : x82.1 = key
     ·
      rw [decide_eq_true c161] at ha160
      refine cond_f ha160 rfl ?_
      refine wp_skip ?_
      refine block_n ?_
      refine then_n ?_
      refine wp_region_lit ?_
      refine wl_val ha160 rfl rfl rfl (op_move ha160 rfl rfl) ?_
      intro a162 ha162; clear ha160 a160
      refine wl_val ha162 rfl rfl rfl ((op_add ha162 rfl rfl rfl).int (IntWalk.i64_in _ (by omega))) ?_
      intro a163 ha163; clear ha162 a162
      refine wl_val ha163 rfl rfl rfl (op_assign ha163 rfl rfl) ?_
      intro a164 ha164; clear ha163 a163
      refine wpList_nil ?_
      refine round_end (x := (i, p, v, acc)) ((i + 1), true, v144, (acc ++ [(key, value)])) ?_ ?_
      ·
       refine ⟨(Sl.cons_ ha164 rfl rfl (Sl.cons_ ha164 rfl rfl (Sl.cons_ ha164 rfl rfl (Sl.cons_ ha164 rfl rfl (Sl.cons_ ha164 rfl rfl (Sl.cons_ ha164 rfl (int_eq (by omega)) (Sl.nil_ ha164))))))), hx150, (ho146.fin (by omega) (by omega) (by omega)), (by omega), (by omega), (by first | omega | (simp; omega)), (by rw [c27, drop_cons hx82, st_put (by assumption)] at hF; rw [if_pos (by assumption)] at hF; rw [← hF]; simp)⟩
      ·show (lines.length - ((i + 1)) : Nat) < lines.length - i; omega
     ·
      rw [decide_eq_false c161] at ha160
      refine cond_t ha160 rfl ?_
      refine wp_region_lit ?_
      refine wl_val ha160 rfl rfl rfl (op_move ha160 rfl rfl) ?_
      intro a165 ha165; clear ha160 a160
      refine wl_val ha165 rfl rfl rfl (op_move ha165 rfl rfl) ?_
      intro a166 ha166; clear ha165 a165
      refine wl_val ha166 rfl rfl rfl (op_move ha166 rfl rfl) ?_
      intro a167 ha167; clear ha166 a166
      refine wl_val ha167 rfl rfl rfl (op_indexAddr ha167 rfl Try.underlying34 ti83 rfl rfl (by omega) hi85) ?_
      intro a168 ha168; clear ha167 a167
      refine wl_val ha168 rfl rfl rfl (op_loadS ha168 rfl Try.underlying83 ti83 rfl rfl (hc86.ext hx150)) ?_
      intro a169 ha169; clear ha168 a168
      refine wl_eff ha169 rfl rfl rfl (op_buildSlice (s := shLine) (xs := [x82]) (cs := [St x82.1, .int .i64 x82.2]) (vs := [(0, .agg #[St x82.1, .int .i64 x82.2])]) (S := fun _ => False) (le := w145.heap.size) ha169 rfl pos_shLine Try.underlying34 ti83 rfl rfl (by decide) (by kernel_rfl) (Els.single (mk_shLine x82 (by first | assumption | omega | (simp only []; omega) | (simp; omega)) (by first | assumption | omega | (simp only []; omega) | (simp; omega)))) (fun _ h => h.elim)) ?_
      rintro v170 w171 ⟨ho172, he173, hob174⟩ a175 ha175; clear ha169 a169
      have hx176 := hx150.trans' he173
      have hzhx176 := he173.size
      replace ho139 := ho139.ext he173
      replace ho146 := ho146.ext he173
      refine wl_eff ha175 rfl rfl rfl (op_append (ts := #[]) (s := shLine) ha175 rfl Try.underlying34 ti83 rfl pos_shLine rfl rfl ho146 (ho172.rds pos_shLine) (by omega) (by omega) (by first | omega | (simp; omega)) (by first | omega | (simp; omega)) (.inl flat_shLine)) ?_
      rintro v177 w178 ⟨ho179, hst180, hob181⟩ a182 ha182; clear ha175 a175
      have hx183 := hx176.stp hst180 (by intro q hq; have hq0 := ho146.lt q hq; omega)
      have hzhx183 := hst180.size
      first | replace ho139 := ho139.stp hst180 (by intro q hq; have hq0 := ho146.lt q hq; omega) | replace ho139 := ho139.stpF flat_shLine hst180 (fun q hq => hsp151 q hq)
      replace ho172 := ho172.stp hst180 (by intro q hq; have hq0 := ho146.lt q hq; omega)
      have hsp184 : ∀ q, Value.ownBlock v177 = some q → Value.ownBlock v137 ≠ some q := by intro q hq hb; have hq0 := ho139.lt q hb; rcases hob181 with h | h; (rw [h] at hq; first | (have hq1 := ho146.lt q hq; omega) | exact hsp151 q hq hb); (rw [h] at hq; cases hq; omega)
      have hsp185 : ∀ q, Value.ownBlock v177 = some q → Value.ownBlock v170 ≠ some q := by intro q hq hb; have hq0 := ho172.lt q hb; rcases hob181 with h | h; (rw [h] at hq; first | (have hq1 := ho146.lt q hq; omega)); (rw [h] at hq; cases hq; omega)
      refine wl_val ha182 rfl rfl rfl (op_assign ha182 rfl rfl) ?_
      intro a186 ha186; clear ha182 a182
      refine wpList_nil ?_
      refine block_n ?_
      refine then_n ?_
      refine wp_region_lit ?_
      refine wl_val ha186 rfl rfl rfl (op_move ha186 rfl rfl) ?_
      intro a187 ha187; clear ha186 a186
      refine wl_val ha187 rfl rfl rfl ((op_add ha187 rfl rfl rfl).int (IntWalk.i64_in _ (by omega))) ?_
      intro a188 ha188; clear ha187 a187
      refine wl_val ha188 rfl rfl rfl (op_assign ha188 rfl rfl) ?_
      intro a189 ha189; clear ha188 a188
      refine wpList_nil ?_
      refine round_end (x := (i, p, v, acc)) ((i + 1), true, v177, ((acc ++ [(key, value)]) ++ [x82])) ?_ ?_
      ·
       refine ⟨(Sl.cons_ ha189 rfl rfl (Sl.cons_ ha189 rfl rfl (Sl.cons_ ha189 rfl rfl (Sl.cons_ ha189 rfl rfl (Sl.cons_ ha189 rfl rfl (Sl.cons_ ha189 rfl (int_eq (by omega)) (Sl.nil_ ha189))))))), hx183, (ho179.fin (by omega) (by omega) (by omega)), (by omega), (by omega), (by first | omega | (simp; omega)), (by rw [c27, drop_cons hx82, st_put (by assumption)] at hF; rw [if_neg (by assumption)] at hF; rw [← hF]; simp)⟩
      ·show (lines.length - ((i + 1)) : Nat) < lines.length - i; omega
  ·
   rw [decide_eq_false c23] at ha22
   refine cond_f ha22 rfl ?_
   refine wp_exit ?_
   refine then_e ?_
   refine then_e ?_
   refine block_hit ?_
   refine then_n ?_
   refine wp_seq ?_
   refine wp_seq ?_
   refine wp_region_lit ?_
   refine wl_val ha22 rfl rfl rfl (op_move ha22 rfl rfl) ?_
   intro a190 ha190; clear ha22 a22
   refine wl_val ha190 rfl rfl rfl (op_not ha190 rfl rfl) ?_
   intro a191 ha191; clear ha190 a190
   refine wpList_nil ?_
   refine then_n ?_
   rcases Bool.eq_false_or_eq_true (p) with c192 | c192
   ·
    rw [c192] at ha191
    refine cond_f ha191 rfl ?_
    refine wp_skip ?_
    refine then_n ?_
    refine wp_seq ?_
    refine wp_region_lit ?_
    refine wl_val ha191 rfl rfl rfl (op_move ha191 rfl rfl) ?_
    intro a193 ha193; clear ha191 a191
    refine wl_val ha193 rfl rfl rfl (op_assign ha193 rfl rfl) ?_
    intro a194 ha194; clear ha193 a193
    refine wpList_nil ?_
    refine then_n ?_
    refine wp_ret ?_
    refine ret1 ha194 rfl rfl ?_
    clear ha194 a194
    refine ret_mk hx15 ?_
    refine (hf16.fin (by omega) (by omega) (by omega)).cast ?_
    rw [c192, drop_nil (by omega), stG] at hF; simpa using hF
   ·
    rw [c192] at ha191
    refine cond_t ha191 rfl ?_
    refine wp_region_lit ?_
    refine wl_val ha191 rfl rfl rfl (op_move ha191 rfl rfl) ?_
    intro a195 ha195; clear ha191 a191
    refine wl_val ha195 rfl rfl rfl (op_move ha195 rfl rfl) ?_
    intro a196 ha196; clear ha195 a195
    refine wl_val ha196 rfl rfl rfl (op_move ha196 rfl rfl) ?_
    intro a197 ha197; clear ha196 a196
    refine wl_val ha197 rfl rfl rfl (op_build (vs := [(0, St key), (1, .int .i64 value)]) (cs := #[St key, .int .i64 value]) ha197 rfl Try.underlying83 ti83 bp83 rfl rfl) ?_
    intro a198 ha198; clear ha197 a197
    refine wl_eff ha198 rfl rfl rfl (op_buildSlice (s := shLine) (xs := [(key, value)]) (cs := [St key, .int .i64 value]) (vs := [(0, .agg #[St key, .int .i64 value])]) (S := fun _ => False) (le := w14.heap.size) ha198 rfl pos_shLine Try.underlying34 ti83 rfl rfl (by decide) (by kernel_rfl) (Els.single (mk_shLine ((key, value)) (by first | assumption | omega | (simp only []; omega) | (simp; omega)) (by first | assumption | omega | (simp only []; omega) | (simp; omega)))) (fun _ h => h.elim)) ?_
    rintro v199 w200 ⟨ho201, he202, hob203⟩ a204 ha204; clear ha198 a198
    have hx205 := hx15.trans' he202
    have hzhx205 := he202.size
    replace hf16 := hf16.ext he202
    refine wl_eff ha204 rfl rfl rfl (op_append (ts := #[]) (s := shLine) ha204 rfl Try.underlying34 ti83 rfl pos_shLine rfl rfl hf16 (ho201.rds pos_shLine) (by omega) (by omega) (by first | omega | (simp; omega)) (by first | omega | (simp; omega)) (.inl flat_shLine)) ?_
    rintro v206 w207 ⟨ho208, hst209, hob210⟩ a211 ha211; clear ha204 a204
    have hx212 := hx205.stp hst209 (by intro q hq; have hq0 := hf16.lt q hq; omega)
    have hzhx212 := hst209.size
    replace ho201 := ho201.stp hst209 (by intro q hq; have hq0 := hf16.lt q hq; omega)
    have hsp213 : ∀ q, Value.ownBlock v206 = some q → Value.ownBlock v199 ≠ some q := by intro q hq hb; have hq0 := ho201.lt q hb; rcases hob210 with h | h; (rw [h] at hq; first | (have hq1 := hf16.lt q hq; omega)); (rw [h] at hq; cases hq; omega)
    refine wl_val ha211 rfl rfl rfl (op_assign ha211 rfl rfl) ?_
    intro a214 ha214; clear ha211 a211
    refine wpList_nil ?_
    refine then_n ?_
    refine wp_seq ?_
    refine wp_region_lit ?_
    refine wl_val ha214 rfl rfl rfl (op_move ha214 rfl rfl) ?_
    intro a215 ha215; clear ha214 a214
    refine wl_val ha215 rfl rfl rfl (op_assign ha215 rfl rfl) ?_
    intro a216 ha216; clear ha215 a215
    refine wpList_nil ?_
    refine then_n ?_
    refine wp_ret ?_
    refine ret1 ha216 rfl rfl ?_
    clear ha216 a216
    refine ret_mk hx212 ?_
    refine (ho208.fin (by omega) (by omega) (by omega)).cast ?_
    rw [c192, drop_nil (by omega), stG] at hF; simpa using hF

theorem c_impl_copyVersions (w0 : World) (v_list : Value) (list : List (Int × List (Str × Int))) {S_list : Nat → Prop} (h_list : Rds shVer S_list w0 v_list list) (g0 : list.length ≤ 1048576) (g1 : ∀ c ∈ list, c.2.length ≤ 1048576) :
  Calls Try.prog 69 #[v_list] w0 (Ret w0 (fun v w1 => ∃ z, Own shVerN 56 w0.heap.size w0.heap.size w1.heap.size w1 v z ∧ Nst shLine 83 (fun x : Int × List (Str × Int) => x.2) w0.heap.size w1.heap.size w1 z ∧ z.map (·.1) = (list))) := by
 refine enter (N := 24) Try.func69 rfl rfl rfl ?_
 intro a0 ha0
 have hx0 := Ext.rfl' w0
 have hl_list := h_list.length_le
 refine wp_seq ?_
 refine wp_region_lit ?_
 refine wl_val ha0 rfl rfl rfl (op_assign ha0 rfl rfl) ?_
 intro a1 ha1; clear ha0 a0
 refine wpList_nil ?_
 refine then_n ?_
 refine wp_seq ?_
 refine wp_region_lit ?_
 refine wl_val ha1 rfl rfl rfl (op_assign ha1 rfl rfl) ?_
 intro a2 ha2; clear ha1 a1
 refine wpList_nil ?_
 refine then_n ?_
 refine wp_seq ?_
 refine wp_seq ?_
 refine wp_region_lit ?_
 refine wl_val ha2 rfl rfl rfl (op_move ha2 rfl rfl) ?_
 intro a3 ha3; clear ha2 a2
 refine wl_val ha3 rfl rfl rfl (op_len_sl ha3 rfl Try.underlying27 rfl h_list) ?_
 intro a4 ha4; clear ha3 a3
 refine wl_val ha4 rfl rfl rfl (op_move ha4 rfl rfl) ?_
 intro a5 ha5; clear ha4 a4
 refine wpList_nil ?_
 refine then_n ?_
 refine wp_block ?_
 refine loop_inv (X := Nat × Value × (List ((Int × List (Str × Int)) × Value))) (fun (⟨i, v, zs⟩ : Nat × Value × (List ((Int × List (Str × Int)) × Value))) fr wl => Sl 24 fr [(3, v), (6, v_list), (7, .int .i64 ((list.length : Nat) : Int)), (8, .int .i64 ((i : Nat) : Int))] ∧ Ext w0 wl ∧ Own shVerN 56 w0.heap.size w0.heap.size wl.heap.size wl v zs ∧ Nst shLine 83 (fun x : Int × List (Str × Int) => x.2) w0.heap.size wl.heap.size wl zs ∧ w0.heap.size ≤ wl.heap.size ∧ (i ≤ list.length) ∧ (zs.length ≤ i) ∧ (zs.map (·.1) = list.take i)) (fun (⟨i, v, zs⟩ : Nat × Value × (List ((Int × List (Str × Int)) × Value))) => list.length - i) (0, (.slice none 0 0), []) ?_ ?_
 ·
  exact ⟨(Sl.cons_ ha5 rfl rfl (Sl.cons_ ha5 rfl rfl (Sl.cons_ ha5 rfl rfl (Sl.cons_ ha5 rfl (int_eq (by omega)) (Sl.nil_ ha5))))), hx0, (Own.nil _ _ _ _ _ _), (Nst.nil _ _ _ _ _ _), (by omega), (by omega), (by simp), (by simp)⟩
 ·
  clear ha5 a5
  rintro ⟨i, v, zs⟩ a10 w6 ⟨ha10, hx7, hf8, hf9, hzl11, hi, hl, hF⟩
  have hzhx7 := hx7.size
  refine wp_seq ?_
  refine wp_region_lit ?_
  refine wl_val ha10 rfl rfl rfl (op_lss ha10 rfl rfl rfl) ?_
  intro a12 ha12; clear ha10 a10
  refine wpList_nil ?_
  refine then_n ?_
  refine wp_seq ?_
  by_cases c13 : ((i : Nat) : Int) < ((list.length : Nat) : Int)
  ·
   rw [decide_eq_true c13] at ha12
   refine cond_t ha12 rfl ?_
   refine wp_skip ?_
   refine then_n ?_
   refine wp_seq ?_
   refine wp_block ?_
   refine wp_seq ?_
   refine wp_region_lit ?_
   obtain ⟨x14, hx14⟩ := get_ex (xs := list) (j := i) (by omega)
   obtain ⟨p15, c16, hi17, hc18, hr19, hs20⟩ := Rds.at_ h_list hx14
   obtain ⟨v21, rfl, b22, b23⟩ := inv_shVer hr19
   have hlb23 := b23.length_le
   have hbx14 := g1 _ (List.mem_of_getElem? hx14)
   refine wl_val ha12 rfl rfl rfl (op_indexAddr ha12 rfl Try.underlying27 ti56 rfl rfl (by omega) hi17) ?_
   intro a24 ha24; clear ha12 a12
   refine wl_val ha24 rfl rfl rfl (op_loadS ha24 rfl Try.underlying56 ti56 rfl rfl (hc18.ext hx7)) ?_
   intro a25 ha25; clear ha24 a24
   refine wl_eff ha25 rfl rfl rfl (op_alloc' rfl ti56 rfl) ?_
   rintro _ w27 ⟨rfl, he28, hb29, hz30⟩ a31 ha31; clear ha25 a25
   have hx32 := hx7.trans' he28
   have hzhx32 := he28.size
   replace hf8 := hf8.ext he28
   replace hf9 := hf9.ext he28
   refine wl_effS ha31 rfl rfl (op_storeAll' ha31 rfl ti56 rfl rfl hb29 rfl rfl (by intro u hu; have hu : u ∈ ([.int .i64 x14.1, v21] : List Value) := hu; simp only [List.mem_cons, List.mem_nil_iff, or_false] at hu; rcases hu with rfl | rfl <;> first | rfl | exact b23.one) rfl) ?_
   rintro w33 ⟨hb35, hst34, hz36⟩
   have hx37 := hx32.stp hst34 (by intro q hq; cases hq; exact (by omega))
   have hzhx37 := hst34.size
   replace hf8 := hf8.stp hst34 (by intro q hq; cases hq; omega)
   replace hf9 := hf9.stp hst34 (by intro q hq; cases hq; omega)
   clear hb29
   refine wpList_nil ?_
   refine then_n ?_
   refine dr_enter (fun wa_ wb_ => Stp wa_ wb_ (Value.ownBlock v)) follows_mixed ?_
   intro w38 he39
   have hx40 := hx37.trans' he39
   have hzhx40 := he39.size
   replace hf8 := hf8.ext he39
   replace hf9 := hf9.ext he39
   replace hb35 := hb35.ext he39
   have hs41 : Ext w38 w38 := Ext.rfl' _
   refine dr_val (i := 0) ha31 rfl (by kernel_rfl) (by kernel_rfl) (by kernel_rfl) rfl rfl rfl (Stp.of_ext hs41 _) (fun w' hw' => op_move ha31 rfl rfl) ?_
   intro a42 ha42; clear ha31 a31
   refine dr_val (i := 1) ha42 rfl (by kernel_rfl) (by kernel_rfl) (by kernel_rfl) rfl rfl rfl (Stp.of_ext hs41 _) (fun w' hw' => op_fieldAddr (sz := 0) ha42 rfl Try.underlying56 rfl rfl ti2 rfl) ?_
   intro a43 ha43; clear ha42 a42
   refine dr_val (i := 2) ha43 rfl (by kernel_rfl) (by kernel_rfl) (by kernel_rfl) rfl rfl rfl (Stp.of_ext hs41 _) (fun w' hw' => op_loadF (off := 0) ha43 rfl Try.underlying2 rfl rfl (hb35.stp hw' (by intro q hq; have hq0 := hf8.lt q hq; omega)).cells rfl) ?_
   intro a44 ha44; clear ha43 a43
   refine dr_val (i := 4) ha44 rfl (by kernel_rfl) (by kernel_rfl) (by kernel_rfl) rfl rfl rfl (Stp.of_ext hs41 _) (fun w' hw' => op_fieldAddr (sz := 0) ha44 rfl Try.underlying56 rfl rfl ti34 rfl) ?_
   intro a45 ha45; clear ha44 a44
   refine dr_val (i := 5) ha45 rfl (by kernel_rfl) (by kernel_rfl) (by kernel_rfl) rfl rfl rfl (Stp.of_ext hs41 _) (fun w' hw' => op_loadF (off := 1) ha45 rfl Try.underlying34 rfl rfl (hb35.stp hw' (by intro q hq; have hq0 := hf8.lt q hq; omega)).cells rfl) ?_
   intro a46 ha46; clear ha45 a45
   refine dr_one (i := 3) (by kernel_rfl) ?_
   refine po_eff ha46 rfl rfl rfl rfl (op_buildSlice (s := shLine) (xs := ([] : List (Str × Int))) (cs := []) (vs := []) (S := fun _ => False) (le := w38.heap.size) ha46 rfl pos_shLine Try.underlying34 ti83 rfl rfl (by decide) (by kernel_rfl) rfl (fun _ h => h.elim)) ?_
   rintro v47 w48 ⟨ho49, he50, hob51⟩ a52 ha52; clear ha46 a46
   have hs53 := hs41.trans' he50
   have hx54 := hx40.trans' he50
   have hzhx54 := he50.size
   refine ⟨(Stp.of_ext hs53 _), ?_⟩
   refine dr_one (i := 6) (by kernel_rfl) ?_
   refine po_eff ha52 rfl rfl rfl rfl (op_append (ts := #[]) (s := shLine) ha52 rfl Try.underlying34 ti83 rfl pos_shLine rfl rfl ho49 (b23.ext pos_shLine (hx40.trans' hs53)) (by omega) (by omega) (by first | omega | (simp; omega)) (by first | omega | (simp; omega)) (.inl flat_shLine)) ?_
   rintro v55 w56 ⟨ho57, hst58, hob59⟩ a60 ha60; clear ha52 a52
   replace ho57 := ho57.cast (List.nil_append _)
   have hs61 := hs53.stp hst58 (by intro q hq; have hq0 := ho49.lt q hq; omega)
   have hx62 := hx54.stp hst58 (by intro q hq; have hq0 := ho49.lt q hq; omega)
   have hzhx62 := hst58.size
   refine ⟨(Stp.of_ext hs61 _), ?_⟩
   refine dr_val (i := 7) ha60 rfl (by kernel_rfl) (by kernel_rfl) (by kernel_rfl) rfl rfl rfl (Stp.of_ext hs61 _) (fun w' hw' => op_build (vs := [(0, .int .i64 x14.1), (1, v55)]) (cs := #[.int .i64 x14.1, v55]) ha60 rfl Try.underlying56 ti56 bp56 rfl ((fill_one rfl rfl rfl).trans ((fill_one ho57.cells1 rfl rfl).trans rfl))) ?_
   intro a63 ha63; clear ha60 a60
   refine dr_one (i := 8) (by kernel_rfl) ?_
   refine po_eff ha63 rfl rfl rfl rfl (op_buildSlice (s := shVerN) (xs := [(((x14.1, x14.2) : Int × List (Str × Int)), (v55 : Value))]) (cs := [.int .i64 x14.1, v55]) (vs := [(0, .agg #[.int .i64 x14.1, v55])]) (S := fun _ => False) (le := w56.heap.size) ha63 rfl pos_shVerN Try.underlying27 ti56 rfl rfl (by decide) (by kernel_rfl) (Els.single (mk_shVerN ((((x14.1, x14.2) : Int × List (Str × Int)), (v55 : Value))) (by first | assumption | omega | (simp; omega)) ho57.one)) (fun _ h => h.elim)) ?_
   rintro v64 w65 ⟨ho66, he67, hob68⟩ a69 ha69; clear ha63 a63
   have hs70 := hs61.trans' he67
   have hx71 := hx62.trans' he67
   have hzhx71 := he67.size
   replace ho57 := ho57.ext he67
   refine ⟨(Stp.of_ext hs70 _), ?_⟩
   have hN72 : Nst shLine 83 (fun x : Int × List (Str × Int) => x.2) w38.heap.size w65.heap.size w65 ([(((x14.1, x14.2) : Int × List (Str × Int)), (v55 : Value))]) := Nst.one (ho57.fin (by omega) (by omega) (by omega))
   refine dr_one (i := 9) (by kernel_rfl) ?_
   replace hf8 := hf8.ext hs70
   replace hf9 := hf9.ext hs70
   replace hb35 := hb35.ext hs70
   refine po_eff ha69 rfl rfl rfl rfl (op_append (ts := #[]) (s := shVerN) ha69 rfl Try.underlying27 ti56 rfl pos_shVerN rfl rfl hf8 (ho66.rds pos_shVerN) (by omega) (by omega) (by first | omega | (simp; omega)) (by first | omega | (simp; omega)) (.inl flat_shVerN)) ?_
   rintro v73 w74 ⟨ho75, hst76, hob77⟩ a78 ha78; clear ha69 a69
   have hs79 := (Stp.of_ext hs70 (Value.ownBlock v)).trans' hst76
   have hx80 := hx71.stp hst76 (by intro q hq; have hq0 := hf8.lt q hq; omega)
   have hzhx80 := hst76.size
   first | replace hf9 := hf9.stpF flat_shLine hst76 hf8 rfl | replace hf9 := hf9.stp hst76 (by intro q hq; have hq0 := hf8.lt q hq; omega)
   replace hb35 := hb35.stp hst76 (by intro q hq; have hq0 := hf8.lt q hq; omega)
   replace ho57 := ho57.stp hst76 (by intro q hq; have hq0 := hf8.lt q hq; omega)
   replace ho66 := ho66.stp hst76 (by intro q hq; have hq0 := hf8.lt q hq; omega)
   replace hN72 := hN72.stp hst76 (by intro q hq; have hq0 := hf8.lt q hq; omega)
   have hsp81 : ∀ q, Value.ownBlock v73 = some q → q ≠ w6.heap.size := by intro q hq; have hq0 := hb35.lt; rcases hob77 with h | h; (rw [h] at hq; first | (have hq1 := hf8.lt q hq; omega)); (rw [h] at hq; cases hq; omega)
   have hsp82 : ∀ q, Value.ownBlock v73 = some q → Value.ownBlock v64 ≠ some q := by intro q hq hb; have hq0 := ho66.lt q hb; rcases hob77 with h | h; (rw [h] at hq; first | (have hq1 := hf8.lt q hq; omega)); (rw [h] at hq; cases hq; omega)
   have hN83 : Nst shLine 83 (fun x : Int × List (Str × Int) => x.2) w0.heap.size w74.heap.size w74 ((zs ++ [(((x14.1, x14.2) : Int × List (Str × Int)), (v55 : Value))])) := (hf9.app hN72 (by omega) (by omega) (by omega)).fin (by omega) (by omega)
   refine ⟨hs79, ?_⟩
   refine dr_val (i := 10) ha78 rfl (by kernel_rfl) (by kernel_rfl) (by kernel_rfl) rfl rfl rfl hs79 (fun w' hw' => op_assign ha78 rfl rfl) ?_
   intro a84 ha84; clear ha78 a78
   refine dr_end (by kernel_rfl) ?_
   refine block_n ?_
   refine then_n ?_
   refine wp_region_lit ?_
   refine wl_val ha84 rfl rfl rfl ((op_add ha84 rfl rfl rfl).int (IntWalk.i64_in _ (by omega))) ?_
   intro a85 ha85; clear ha84 a84
   refine wl_val ha85 rfl rfl rfl (op_move ha85 rfl rfl) ?_
   intro a86 ha86; clear ha85 a85
   refine wpList_nil ?_
   refine round_end (x := (i, v, zs)) ((i + 1), v73, (zs ++ [(((x14.1, x14.2) : Int × List (Str × Int)), (v55 : Value))])) ?_ ?_
   ·
    refine ⟨(Sl.cons_ ha86 rfl rfl (Sl.cons_ ha86 rfl rfl (Sl.cons_ ha86 rfl rfl (Sl.cons_ ha86 rfl (int_eq (by omega)) (Sl.nil_ ha86))))), hx80, (ho75.fin (by omega) (by omega) (by omega)), (hN83.fin (by omega) (by omega)), (by omega), (by omega), (by first | omega | (simp; omega)), (by rw [List.map_append, hF, take_snoc hx14]; rfl)⟩
   ·show (list.length - ((i + 1)) : Nat) < list.length - i; omega
  ·
   rw [decide_eq_false c13] at ha12
   refine cond_f ha12 rfl ?_
   refine wp_exit ?_
   refine then_e ?_
   refine then_e ?_
   refine block_hit ?_
   refine then_n ?_
   refine wp_seq ?_
   refine wp_region_lit ?_
   refine wl_val ha12 rfl rfl rfl (op_move ha12 rfl rfl) ?_
   intro a87 ha87; clear ha12 a12
   refine wl_val ha87 rfl rfl rfl (op_assign ha87 rfl rfl) ?_
   intro a88 ha88; clear ha87 a87
   refine wpList_nil ?_
   refine then_n ?_
   refine wp_ret ?_
   refine ret1 ha88 rfl rfl ?_
   clear ha88 a88
   refine ret_mk hx7 ⟨zs, hf8.fin (by omega) (by omega) (by omega), hf9.fin (by omega) (by omega), ?_⟩
   ·
    rw [hF, List.take_of_length_le (by omega)]

theorem c_spec_l29With (w0 : World) (v_list : Value) (list : List (Int × List (Str × Int))) {S_list : Nat → Prop} (parent : Int) (v_lines : Value) (lines : List (Str × Int)) {S_lines : Nat → Prop} (h_list : Rds shVer S_list w0 v_list list) (h_lines : Rds shLine S_lines w0 v_lines lines) (g0 : list.length ≤ 1048576) (g1 : ∀ c ∈ list, c.2.length ≤ 1048576) (g2 : lines.length ≤ 1048576) (g3 : I64 parent) :
  Calls Try.prog 73 #[v_list, .int .i64 parent, v_lines] w0 (Ret w0 (fun v w1 => ∃ z, Own shVerN 56 w0.heap.size w0.heap.size w1.heap.size w1 v z ∧ Nst shLine 83 (fun x : Int × List (Str × Int) => x.2) w0.heap.size w1.heap.size w1 z ∧ z.map (·.1) = ((list ++ [(parent, lines)])))) := by
 refine enter (N := 40) Try.func73 rfl rfl rfl ?_
 intro a0 ha0
 have hx0 := Ext.rfl' w0
 have hl_list := h_list.length_le
 have hl_lines := h_lines.length_le
 refine wp_seq ?_
 refine wp_region_lit ?_
 refine wl_val ha0 rfl rfl rfl (op_assign ha0 rfl rfl) ?_
 intro a1 ha1; clear ha0 a0
 refine wpList_nil ?_
 refine then_n ?_
 refine wp_seq ?_
 refine wp_region_lit ?_
 refine wl_eff ha1 rfl rfl rfl (op_buildSlice (s := shVerN) (xs := ([] : List ((Int × List (Str × Int)) × Value))) (cs := []) (vs := []) (S := fun _ => False) (le := w0.heap.size) ha1 rfl pos_shVerN Try.underlying27 ti56 rfl rfl (by decide) (by kernel_rfl) rfl (fun _ h => h.elim)) ?_
 rintro v2 w3 ⟨ho4, he5, hob6⟩ a7 ha7; clear ha1 a1
 have hx8 := hx0.trans' he5
 have hzhx8 := he5.size
 have hN9 : Nst shLine 83 (fun x : Int × List (Str × Int) => x.2) w0.heap.size w3.heap.size w3 (([] : List ((Int × List (Str × Int)) × Value))) := Nst.nil _ _ _ _ _ _
 refine wl_val ha7 rfl rfl rfl (op_assign ha7 rfl rfl) ?_
 intro a10 ha10; clear ha7 a7
 refine wpList_nil ?_
 refine then_n ?_
 refine wp_seq ?_
 refine wp_seq ?_
 refine wp_region_lit ?_
 refine wl_val ha10 rfl rfl rfl (op_assign ha10 rfl rfl) ?_
 intro a11 ha11; clear ha10 a10
 refine wpList_nil ?_
 refine then_n ?_
 refine wp_block ?_
 refine loop_inv (X := Nat × Value × (List ((Int × List (Str × Int)) × Value))) (fun (⟨i, v, zs⟩ : Nat × Value × (List ((Int × List (Str × Int)) × Value))) fr wl => Sl 40 fr [(0, v_list), (1, .int .i64 parent), (2, v_lines), (7, v), (8, .int .i64 ((i : Nat) : Int))] ∧ Ext w0 wl ∧ Own shVerN 56 w0.heap.size w0.heap.size wl.heap.size wl v zs ∧ Nst shLine 83 (fun x : Int × List (Str × Int) => x.2) w0.heap.size wl.heap.size wl zs ∧ w3.heap.size ≤ wl.heap.size ∧ (i ≤ list.length) ∧ (zs.length ≤ i) ∧ (zs.map (·.1) = list.take i)) (fun (⟨i, v, zs⟩ : Nat × Value × (List ((Int × List (Str × Int)) × Value))) => list.length - i) (0, v2, ([] : List ((Int × List (Str × Int)) × Value))) ?_ ?_
 ·
  exact ⟨(Sl.cons_ ha11 rfl rfl (Sl.cons_ ha11 rfl rfl (Sl.cons_ ha11 rfl rfl (Sl.cons_ ha11 rfl rfl (Sl.cons_ ha11 rfl (int_eq (by omega)) (Sl.nil_ ha11)))))), hx8, (ho4.fin (by omega) (by omega) (by omega)), (hN9.fin (by omega) (by omega)), (by omega), (by omega), (by simp), (by simp)⟩
 ·
  clear ha11 a11
  rintro ⟨i, v, zs⟩ a16 w12 ⟨ha16, hx13, hf14, hf15, hzl17, hi, hl, hF⟩
  have hzhx13 := hx13.size
  refine wp_seq ?_
  refine wp_seq ?_
  refine wp_region_lit ?_
  refine wl_val ha16 rfl rfl rfl (op_move ha16 rfl rfl) ?_
  intro a18 ha18; clear ha16 a16
  refine wl_val ha18 rfl rfl rfl (op_move ha18 rfl rfl) ?_
  intro a19 ha19; clear ha18 a18
  refine wl_val ha19 rfl rfl rfl (op_len_sl ha19 rfl Try.underlying27 rfl h_list) ?_
  intro a20 ha20; clear ha19 a19
  refine wl_val ha20 rfl rfl rfl (op_lss ha20 rfl rfl rfl) ?_
  intro a21 ha21; clear ha20 a20
  refine wpList_nil ?_
  refine then_n ?_
  by_cases c22 : ((i : Nat) : Int) < ((list.length : Nat) : Int)
  ·
   rw [decide_eq_true c22] at ha21
   refine cond_t ha21 rfl ?_
   refine wp_skip ?_
   refine then_n ?_
   refine wp_seq ?_
   refine wp_block ?_
   refine dr_enter (fun wa_ wb_ => Stp wa_ wb_ (Value.ownBlock v)) follows_mixed ?_
   intro w23 he24
   have hx25 := hx13.trans' he24
   have hzhx25 := he24.size
   replace hf14 := hf14.ext he24
   replace hf15 := hf15.ext he24
   have hs26 : Ext w23 w23 := Ext.rfl' _
   refine dr_val (i := 0) ha21 rfl (by kernel_rfl) (by kernel_rfl) (by kernel_rfl) rfl rfl rfl (Stp.of_ext hs26 _) (fun w' hw' => op_move ha21 rfl rfl) ?_
   intro a27 ha27; clear ha21 a21
   refine dr_val (i := 1) ha27 rfl (by kernel_rfl) (by kernel_rfl) (by kernel_rfl) rfl rfl rfl (Stp.of_ext hs26 _) (fun w' hw' => op_move ha27 rfl rfl) ?_
   intro a28 ha28; clear ha27 a27
   refine dr_val (i := 2) ha28 rfl (by kernel_rfl) (by kernel_rfl) (by kernel_rfl) rfl rfl rfl (Stp.of_ext hs26 _) (fun w' hw' => op_move ha28 rfl rfl) ?_
   intro a29 ha29; clear ha28 a28
   obtain ⟨x30, hx30⟩ := get_ex (xs := list) (j := i) (by omega)
   obtain ⟨p31, c32, hi33, hc34, hr35, hs36⟩ := Rds.at_ h_list hx30
   obtain ⟨v37, rfl, b38, b39⟩ := inv_shVer hr35
   have hlb39 := b39.length_le
   have hbx30 := g1 _ (List.mem_of_getElem? hx30)
   refine dr_val (i := 3) ha29 rfl (by kernel_rfl) (by kernel_rfl) (by kernel_rfl) rfl rfl rfl (Stp.of_ext hs26 _) (fun w' hw' => op_indexAddr ha29 rfl Try.underlying27 ti56 rfl rfl (by omega) hi33) ?_
   intro a40 ha40; clear ha29 a29
   refine dr_val (i := 4) ha40 rfl (by kernel_rfl) (by kernel_rfl) (by kernel_rfl) rfl rfl rfl (Stp.of_ext hs26 _) (fun w' hw' => op_fieldAddr (sz := 0) ha40 rfl Try.underlying56 rfl rfl ti2 rfl) ?_
   intro a41 ha41; clear ha40 a40
   refine dr_val (i := 5) ha41 rfl (by kernel_rfl) (by kernel_rfl) (by kernel_rfl) rfl rfl rfl (Stp.of_ext hs26 _) (fun w' hw' => op_loadF (off := 0) ha41 rfl Try.underlying2 rfl rfl (hc34.ext (hx25.stp hw' (by intro q hq; have hq0 := hf14.lt q hq; omega))) rfl) ?_
   intro a42 ha42; clear ha41 a41
   refine dr_val (i := 7) ha42 rfl (by kernel_rfl) (by kernel_rfl) (by kernel_rfl) rfl rfl rfl (Stp.of_ext hs26 _) (fun w' hw' => op_move ha42 rfl rfl) ?_
   intro a43 ha43; clear ha42 a42
   refine dr_val (i := 8) ha43 rfl (by kernel_rfl) (by kernel_rfl) (by kernel_rfl) rfl rfl rfl (Stp.of_ext hs26 _) (fun w' hw' => op_move ha43 rfl rfl) ?_
   intro a44 ha44; clear ha43 a43
   refine dr_val (i := 9) ha44 rfl (by kernel_rfl) (by kernel_rfl) (by kernel_rfl) rfl rfl rfl (Stp.of_ext hs26 _) (fun w' hw' => op_indexAddr ha44 rfl Try.underlying27 ti56 rfl rfl (by omega) hi33) ?_
   intro a45 ha45; clear ha44 a44
   refine dr_val (i := 10) ha45 rfl (by kernel_rfl) (by kernel_rfl) (by kernel_rfl) rfl rfl rfl (Stp.of_ext hs26 _) (fun w' hw' => op_fieldAddr (sz := 0) ha45 rfl Try.underlying56 rfl rfl ti34 rfl) ?_
   intro a46 ha46; clear ha45 a45
   refine dr_val (i := 11) ha46 rfl (by kernel_rfl) (by kernel_rfl) (by kernel_rfl) rfl rfl rfl (Stp.of_ext hs26 _) (fun w' hw' => op_loadF (off := 1) ha46 rfl Try.underlying34 rfl rfl (hc34.ext (hx25.stp hw' (by intro q hq; have hq0 := hf14.lt q hq; omega))) rfl) ?_
   intro a47 ha47; clear ha46 a46
   refine dr_one (i := 6) (by kernel_rfl) ?_
   refine po_eff ha47 rfl rfl rfl rfl (op_buildSlice (s := shLine) (xs := ([] : List (Str × Int))) (cs := []) (vs := []) (S := fun _ => False) (le := w23.heap.size) ha47 rfl pos_shLine Try.underlying34 ti83 rfl rfl (by decide) (by kernel_rfl) rfl (fun _ h => h.elim)) ?_
   rintro v48 w49 ⟨ho50, he51, hob52⟩ a53 ha53; clear ha47 a47
   have hs54 := hs26.trans' he51
   have hx55 := hx25.trans' he51
   have hzhx55 := he51.size
   refine ⟨(Stp.of_ext hs54 _), ?_⟩
   refine dr_one (i := 12) (by kernel_rfl) ?_
   refine po_eff ha53 rfl rfl rfl rfl (op_append (ts := #[]) (s := shLine) ha53 rfl Try.underlying34 ti83 rfl pos_shLine rfl rfl ho50 (b39.ext pos_shLine (hx25.trans' hs54)) (by omega) (by omega) (by first | omega | (simp; omega)) (by first | omega | (simp; omega)) (.inl flat_shLine)) ?_
   rintro v56 w57 ⟨ho58, hst59, hob60⟩ a61 ha61; clear ha53 a53
   replace ho58 := ho58.cast (List.nil_append _)
   have hs62 := hs54.stp hst59 (by intro q hq; have hq0 := ho50.lt q hq; omega)
   have hx63 := hx55.stp hst59 (by intro q hq; have hq0 := ho50.lt q hq; omega)
   have hzhx63 := hst59.size
   refine ⟨(Stp.of_ext hs62 _), ?_⟩
   refine dr_val (i := 13) ha61 rfl (by kernel_rfl) (by kernel_rfl) (by kernel_rfl) rfl rfl rfl (Stp.of_ext hs62 _) (fun w' hw' => op_build (vs := [(0, .int .i64 x30.1), (1, v56)]) (cs := #[.int .i64 x30.1, v56]) ha61 rfl Try.underlying56 ti56 bp56 rfl ((fill_one rfl rfl rfl).trans ((fill_one ho58.cells1 rfl rfl).trans rfl))) ?_
   intro a64 ha64; clear ha61 a61
   refine dr_one (i := 14) (by kernel_rfl) ?_
   refine po_eff ha64 rfl rfl rfl rfl (op_buildSlice (s := shVerN) (xs := [(((x30.1, x30.2) : Int × List (Str × Int)), (v56 : Value))]) (cs := [.int .i64 x30.1, v56]) (vs := [(0, .agg #[.int .i64 x30.1, v56])]) (S := fun _ => False) (le := w57.heap.size) ha64 rfl pos_shVerN Try.underlying27 ti56 rfl rfl (by decide) (by kernel_rfl) (Els.single (mk_shVerN ((((x30.1, x30.2) : Int × List (Str × Int)), (v56 : Value))) (by first | assumption | omega | (simp; omega)) ho58.one)) (fun _ h => h.elim)) ?_
   rintro v65 w66 ⟨ho67, he68, hob69⟩ a70 ha70; clear ha64 a64
   have hs71 := hs62.trans' he68
   have hx72 := hx63.trans' he68
   have hzhx72 := he68.size
   replace ho58 := ho58.ext he68
   refine ⟨(Stp.of_ext hs71 _), ?_⟩
   have hN73 : Nst shLine 83 (fun x : Int × List (Str × Int) => x.2) w23.heap.size w66.heap.size w66 ([(((x30.1, x30.2) : Int × List (Str × Int)), (v56 : Value))]) := Nst.one (ho58.fin (by omega) (by omega) (by omega))
   refine dr_one (i := 15) (by kernel_rfl) ?_
   replace hf14 := hf14.ext hs71
   replace hf15 := hf15.ext hs71
   refine po_eff ha70 rfl rfl rfl rfl (op_append (ts := #[]) (s := shVerN) ha70 rfl Try.underlying27 ti56 rfl pos_shVerN rfl rfl hf14 (ho67.rds pos_shVerN) (by omega) (by omega) (by first | omega | (simp; omega)) (by first | omega | (simp; omega)) (.inl flat_shVerN)) ?_
   rintro v74 w75 ⟨ho76, hst77, hob78⟩ a79 ha79; clear ha70 a70
   have hs80 := (Stp.of_ext hs71 (Value.ownBlock v)).trans' hst77
   have hx81 := hx72.stp hst77 (by intro q hq; have hq0 := hf14.lt q hq; omega)
   have hzhx81 := hst77.size
   first | replace hf15 := hf15.stpF flat_shLine hst77 hf14 rfl | replace hf15 := hf15.stp hst77 (by intro q hq; have hq0 := hf14.lt q hq; omega)
   replace ho58 := ho58.stp hst77 (by intro q hq; have hq0 := hf14.lt q hq; omega)
   replace ho67 := ho67.stp hst77 (by intro q hq; have hq0 := hf14.lt q hq; omega)
   replace hN73 := hN73.stp hst77 (by intro q hq; have hq0 := hf14.lt q hq; omega)
   have hsp82 : ∀ q, Value.ownBlock v74 = some q → Value.ownBlock v65 ≠ some q := by intro q hq hb; have hq0 := ho67.lt q hb; rcases hob78 with h | h; (rw [h] at hq; first | (have hq1 := hf14.lt q hq; omega)); (rw [h] at hq; cases hq; omega)
   have hN83 : Nst shLine 83 (fun x : Int × List (Str × Int) => x.2) w0.heap.size w75.heap.size w75 ((zs ++ [(((x30.1, x30.2) : Int × List (Str × Int)), (v56 : Value))])) := (hf15.app hN73 (by omega) (by omega) (by omega)).fin (by omega) (by omega)
   refine ⟨hs80, ?_⟩
   refine dr_val (i := 16) ha79 rfl (by kernel_rfl) (by kernel_rfl) (by kernel_rfl) rfl rfl rfl hs80 (fun w' hw' => op_assign ha79 rfl rfl) ?_
   intro a84 ha84; clear ha79 a79
   refine dr_end (by kernel_rfl) ?_
   refine block_n ?_
   refine then_n ?_
   refine wp_region_lit ?_
   refine wl_val ha84 rfl rfl rfl (op_move ha84 rfl rfl) ?_
   intro a85 ha85; clear ha84 a84
   refine wl_val ha85 rfl rfl rfl ((op_add ha85 rfl rfl rfl).int (IntWalk.i64_in _ (by omega))) ?_
   intro a86 ha86; clear ha85 a85
   refine wl_val ha86 rfl rfl rfl (op_assign ha86 rfl rfl) ?_
   intro a87 ha87; clear ha86 a86
   refine wpList_nil ?_
   refine round_end (x := (i, v, zs)) ((i + 1), v74, (zs ++ [(((x30.1, x30.2) : Int × List (Str × Int)), (v56 : Value))])) ?_ ?_
   ·
    refine ⟨(Sl.cons_ ha87 rfl rfl (Sl.cons_ ha87 rfl rfl (Sl.cons_ ha87 rfl rfl (Sl.cons_ ha87 rfl rfl (Sl.cons_ ha87 rfl (int_eq (by omega)) (Sl.nil_ ha87)))))), hx81, (ho76.fin (by omega) (by omega) (by omega)), (hN83.fin (by omega) (by omega)), (by omega), (by omega), (by first | omega | (simp; omega)), (by rw [List.map_append, hF, take_snoc hx30]; rfl)⟩
   ·show (list.length - ((i + 1)) : Nat) < list.length - i; omega
  ·
   rw [decide_eq_false c22] at ha21
   refine cond_f ha21 rfl ?_
   refine wp_exit ?_
   refine then_e ?_
   refine then_e ?_
   refine block_hit ?_
   refine then_n ?_
   refine wp_seq ?_
   refine wp_region_lit ?_
   refine wl_val ha21 rfl rfl rfl (op_move ha21 rfl rfl) ?_
   intro a88 ha88; clear ha21 a21
   refine wl_val ha88 rfl rfl rfl (op_move ha88 rfl rfl) ?_
   intro a89 ha89; clear ha88 a88
   refine wl_eff ha89 rfl rfl rfl (op_buildSlice (s := shLine) (xs := ([] : List (Str × Int))) (cs := []) (vs := []) (S := fun _ => False) (le := w12.heap.size) ha89 rfl pos_shLine Try.underlying34 ti83 rfl rfl (by decide) (by kernel_rfl) rfl (fun _ h => h.elim)) ?_
   rintro v90 w91 ⟨ho92, he93, hob94⟩ a95 ha95; clear ha89 a89
   have hx96 := hx13.trans' he93
   have hzhx96 := he93.size
   replace hf14 := hf14.ext he93
   replace hf15 := hf15.ext he93
   refine wl_val ha95 rfl rfl rfl (op_move ha95 rfl rfl) ?_
   intro a97 ha97; clear ha95 a95
   refine wl_eff ha97 rfl rfl rfl (op_append (ts := #[]) (s := shLine) ha97 rfl Try.underlying34 ti83 rfl pos_shLine rfl rfl ho92 (h_lines.ext pos_shLine hx96) (by omega) (by omega) (by first | omega | (simp; omega)) (by first | omega | (simp; omega)) (.inl flat_shLine)) ?_
   rintro v98 w99 ⟨ho100, hst101, hob102⟩ a103 ha103; clear ha97 a97
   replace ho100 := ho100.cast (List.nil_append _)
   have hx104 := hx96.stp hst101 (by intro q hq; have hq0 := ho92.lt q hq; omega)
   have hzhx104 := hst101.size
   replace hf14 := hf14.stp hst101 (by intro q hq; have hq0 := ho92.lt q hq; omega)
   replace hf15 := hf15.stp hst101 (by intro q hq; have hq0 := ho92.lt q hq; omega)
   refine wl_val ha103 rfl rfl rfl (op_build (vs := [(0, .int .i64 parent), (1, v98)]) (cs := #[.int .i64 parent, v98]) ha103 rfl Try.underlying56 ti56 bp56 rfl ((fill_one rfl rfl rfl).trans ((fill_one ho100.cells1 rfl rfl).trans rfl))) ?_
   intro a105 ha105; clear ha103 a103
   refine wl_eff ha105 rfl rfl rfl (op_buildSlice (s := shVerN) (xs := [(((parent, lines) : Int × List (Str × Int)), (v98 : Value))]) (cs := [.int .i64 parent, v98]) (vs := [(0, .agg #[.int .i64 parent, v98])]) (S := fun _ => False) (le := w99.heap.size) ha105 rfl pos_shVerN Try.underlying27 ti56 rfl rfl (by decide) (by kernel_rfl) (Els.single (mk_shVerN ((((parent, lines) : Int × List (Str × Int)), (v98 : Value))) (by first | assumption | omega | (simp; omega)) ho100.one)) (fun _ h => h.elim)) ?_
   rintro v106 w107 ⟨ho108, he109, hob110⟩ a111 ha111; clear ha105 a105
   have hx112 := hx104.trans' he109
   have hzhx112 := he109.size
   replace hf14 := hf14.ext he109
   replace hf15 := hf15.ext he109
   replace ho100 := ho100.ext he109
   have hN113 : Nst shLine 83 (fun x : Int × List (Str × Int) => x.2) w12.heap.size w107.heap.size w107 ([(((parent, lines) : Int × List (Str × Int)), (v98 : Value))]) := Nst.one (ho100.fin (by omega) (by omega) (by omega))
   refine wl_eff ha111 rfl rfl rfl (op_append (ts := #[]) (s := shVerN) ha111 rfl Try.underlying27 ti56 rfl pos_shVerN rfl rfl hf14 (ho108.rds pos_shVerN) (by omega) (by omega) (by first | omega | (simp; omega)) (by first | omega | (simp; omega)) (.inl flat_shVerN)) ?_
   rintro v114 w115 ⟨ho116, hst117, hob118⟩ a119 ha119; clear ha111 a111
   have hx120 := hx112.stp hst117 (by intro q hq; have hq0 := hf14.lt q hq; omega)
   have hzhx120 := hst117.size
   first | replace hf15 := hf15.stpF flat_shLine hst117 hf14 rfl | replace hf15 := hf15.stp hst117 (by intro q hq; have hq0 := hf14.lt q hq; omega)
   replace ho100 := ho100.stp hst117 (by intro q hq; have hq0 := hf14.lt q hq; omega)
   replace ho108 := ho108.stp hst117 (by intro q hq; have hq0 := hf14.lt q hq; omega)
   replace hN113 := hN113.stp hst117 (by intro q hq; have hq0 := hf14.lt q hq; omega)
   have hsp121 : ∀ q, Value.ownBlock v114 = some q → Value.ownBlock v106 ≠ some q := by intro q hq hb; have hq0 := ho108.lt q hb; rcases hob118 with h | h; (rw [h] at hq; first | (have hq1 := hf14.lt q hq; omega)); (rw [h] at hq; cases hq; omega)
   have hN122 : Nst shLine 83 (fun x : Int × List (Str × Int) => x.2) w0.heap.size w115.heap.size w115 ((zs ++ [(((parent, lines) : Int × List (Str × Int)), (v98 : Value))])) := (hf15.app hN113 (by omega) (by omega) (by omega)).fin (by omega) (by omega)
   refine wl_val ha119 rfl rfl rfl (op_assign ha119 rfl rfl) ?_
   intro a123 ha123; clear ha119 a119
   refine wpList_nil ?_
   refine then_n ?_
   refine wp_ret ?_
   refine ret1 ha123 rfl rfl ?_
   clear ha123 a123
   refine ret_mk hx120 ⟨(zs ++ [(((parent, lines) : Int × List (Str × Int)), (v98 : Value))]), ho116.fin (by omega) (by omega) (by omega), hN122.fin (by omega) (by omega), ?_⟩
   ·
    rw [List.map_append, hF, List.take_of_length_le (by omega)]; rfl


end Go.Proofs.Ytllpdkidaldkiaa
