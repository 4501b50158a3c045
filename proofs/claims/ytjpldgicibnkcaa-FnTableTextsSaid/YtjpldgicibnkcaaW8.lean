/- Texts of tables. -/
import Derived.Test.YtjpldgicibnkcaaW7
namespace Go.Proofs.Ytjpldgicibnkcaa
open Go Go.RowKit

/-- The cells of the heads, of a row, a line, the whole text. -/
def hcs (t : Tab) : Nat → List Str → List Str
  | _, [] => []
  | c, h :: hs => fillS (wdC t c) false h :: hcs t (c + 1) hs
def rcs (t : Tab) : Nat → List Int → List Str
  | _, [] => []
  | c, n :: ns => fillS (wdC t c) true (decS n) :: rcs t (c + 1) ns
def lineS (cells : List Str) : Str := joinG [124] 0 cells ++ [10]
def rowsS (t : Tab) : List (List Int) → Str
  | [] => []
  | r :: rs => lineS (rcs t 0 r) ++ rowsS t rs
def txS (t : Tab) : Str := lineS (hcs t 0 t.1) ++ rowsS t t.2
def txT (t : Tab) : Str := if tabB t then txS t else []
theorem txT_ok {t : Tab} (h : tabB t = true) : txT t = txS t := by unfold txT; rw [if_pos h]
theorem txT_no {t : Tab} (h : ¬ tabB t = true) : txT t = [] := by unfold txT; rw [if_neg h]
theorem joinG_len {b : Str} {m : Nat} (hb : b.length ≤ m) : ∀ (ws : List Str) (i : Nat), (∀ w ∈ ws, w.length ≤ m) → (joinG b i ws).length ≤ 2 * m * ws.length
  | [], _, _ => by simp [joinG]
  | w :: ws, i, h => by
    have h1 := joinG_len hb ws (i + 1) (fun w' h' => h w' (List.mem_cons_of_mem _ h'))
    have h2 := h w (List.mem_cons_self ..)
    have h3 : (if 0 < i then b else []).length ≤ m := by split; exact hb; simp
    rw [joinG, List.length_append, List.length_append, List.length_cons, Nat.mul_add]; omega
theorem wdC_bd {t : Tab} (h : tabB t = true) {c : Nat} : 0 ≤ wdC t c ∧ wdC t c ≤ 100 := by
  cases e : t.1[c]? with
  | none => unfold wdC; rw [e]; exact ⟨Int.le_refl _, by show (0 : Int) ≤ 100; decide⟩
  | some s =>
    have h1 := wordB_len (tab_heads h s (List.mem_of_getElem? e))
    rw [wdC_eq e]
    exact wdF_bd c t.2 _ (by omega) (fun r hr => (tab_rows h r hr).2)
theorem wdS_at {t : Tab} {c : Nat} {n : Int} (e : (wdS t)[c]? = some n) : n = wdC t c := by
  have h := (List.getElem?_eq_some_iff.1 e).1
  rw [wdS_len] at h
  exact Option.some.inj (e.symm.trans (wdU_get t _ c h))
theorem fillS_len {w : Int} {f : Bool} {s : Str} (h : w ≤ 100) (h2 : s.length ≤ 100) : (fillS w f s).length ≤ 100 := by
  have hb := blS_len (w - (s.length : Nat))
  unfold fillS
  split <;> rw [List.length_append, hb] <;> omega
theorem hcs_bd {t : Tab} (h : tabB t = true) : ∀ (hs : List Str) (c : Nat), (∀ s ∈ hs, wordB s = true) → ∀ w ∈ hcs t c hs, w.length ≤ 100
  | [], _, _, w, hw => by cases hw
  | s :: hs, c, hk, w, hw => by
    rw [hcs] at hw
    rcases List.mem_cons.1 hw with e | e
    · subst e; have := wordB_len (hk s (List.mem_cons_self ..)); exact fillS_len (wdC_bd h).2 (by omega)
    · exact hcs_bd h hs (c + 1) (fun s' h' => hk s' (List.mem_cons_of_mem _ h')) w e
theorem rcs_bd {t : Tab} (h : tabB t = true) : ∀ (ns : List Int) (c : Nat), (∀ n ∈ ns, -1000000000000 ≤ n ∧ n ≤ 1000000000000) → ∀ w ∈ rcs t c ns, w.length ≤ 100
  | [], _, _, w, hw => by cases hw
  | n :: ns, c, hk, w, hw => by
    rw [rcs] at hw
    rcases List.mem_cons.1 hw with e | e
    · subst e
      have h1 := hk n (List.mem_cons_self ..)
      have := decS_len (n := n) (by omega); exact fillS_len (wdC_bd h).2 (by omega)
    · exact rcs_bd h ns (c + 1) (fun s' h' => hk s' (List.mem_cons_of_mem _ h')) w e
theorem hcs_len (t : Tab) : ∀ (hs : List Str) (c : Nat), (hcs t c hs).length = hs.length
  | [], _ => rfl
  | s :: hs, c => by rw [hcs, List.length_cons, hcs_len t hs]; rfl
theorem rcs_len (t : Tab) : ∀ (ns : List Int) (c : Nat), (rcs t c ns).length = ns.length
  | [], _ => rfl
  | n :: ns, c => by rw [rcs, List.length_cons, rcs_len t ns]; rfl
theorem head_bd {t : Tab} (h : tabB t = true) : (joinG [124] 0 (hcs t 0 t.1)).length ≤ 1200 := by
  have h1 := joinG_len (b := [124]) (m := 100) (by decide) (hcs t 0 t.1) 0 (hcs_bd h t.1 0 (tab_heads h))
  have h2 := tab_bd h
  rw [hcs_len] at h1; omega
theorem row_bd {t : Tab} (h : tabB t = true) {r : List Int} (hr : r ∈ t.2) : (joinG [124] 0 (rcs t 0 r)).length ≤ 1200 := by
  have h1 := joinG_len (b := [124]) (m := 100) (by decide) (rcs t 0 r) 0 (rcs_bd h r 0 (tab_rows h r hr).2)
  have h2 := tab_bd h
  have h3 := (tab_rows h r hr).1
  rw [rcs_len] at h1; omega

theorem c_impl_tableText (w0 : World) (v_t0 : Value) (v_t1 : Value) (t : List Str × List (List Int)) {S_t0 : Nat → Prop} {S_t1 : Nat → Prop} (h_t0 : Rds shStr S_t0 w0 v_t0 t.1) (h_t1 : Rds shRow S_t1 w0 v_t1 t.2) (g0 : tabB t = true) :
  Calls Try.prog 89 #[.agg #[v_t0, v_t1]] w0 (Ret w0 (fun v _ => v = St (txS t))) := by
 refine enter (N := 77) Try.func89 rfl rfl rfl ?_
 intro a0 ha0
 have hx0 := Ext.rfl' w0
 have hl_t0 := h_t0.length_le
 have hl_t1 := h_t1.length_le
 have htr := tab_rows g0
 have htw := tab_heads g0
 have htb := tab_bd g0
 have hwl := wdS_len t
 refine wp_seq ?_
 refine wp_region_lit ?_
 refine wl_eff ha0 rfl rfl rfl (op_box' ha0 rfl rfl rfl) ?_
 rintro _ w2 ⟨rfl, he3, hb4, hz5⟩ a6 ha6; clear ha0 a0
 have hx7 := hx0.trans' he3
 have hzhx7 := he3.size
 refine wl_val ha6 rfl rfl rfl (op_assign ha6 rfl rfl) ?_
 intro a8 ha8; clear ha6 a6
 refine wpList_nil ?_
 refine then_n ?_
 refine wp_seq ?_
 refine wp_region_lit ?_
 refine wl_val ha8 rfl rfl rfl (op_loadS ha8 rfl Try.underlying28 ti28 rfl rfl hb4.cells) ?_
 intro a9 ha9; clear ha8 a8
 refine wl_callR ha9 rfl rfl rfl (op_call ha9 rfl cb73 rfl) (c_impl_widthsOf _ v_t0 v_t1 t (h_t0.ext pos_shStr hx7) (h_t1.ext pos_shRow hx7) (by first | assumption | omega | (simp; omega))) ?_
 rintro v10 w11 he12 ho13 a14 ha14; clear ha9 a9
 have hx15 := hx7.trans' he12
 have hzhx15 := he12.size
 replace hb4 := hb4.ext he12
 refine wl_val ha14 rfl rfl rfl (op_assign ha14 rfl rfl) ?_
 intro a16 ha16; clear ha14 a14
 refine wpList_nil ?_
 refine then_n ?_
 refine wp_seq ?_
 refine wp_region_lit ?_
 refine wl_val ha16 rfl rfl rfl (op_assign ha16 rfl rfl) ?_
 intro a17 ha17; clear ha16 a16
 refine wpList_nil ?_
 refine then_n ?_
 refine wp_seq ?_
 refine wp_seq ?_
 refine wp_region_lit ?_
 refine wl_val ha17 rfl rfl rfl (op_fieldAddr (sz := 0) ha17 rfl Try.underlying28 rfl rfl ti22 rfl) ?_
 intro a18 ha18; clear ha17 a17
 refine wl_val ha18 rfl rfl rfl (op_loadF (off := 0) ha18 rfl Try.underlying22 rfl rfl hb4.cells rfl) ?_
 intro a19 ha19; clear ha18 a18
 refine wl_val ha19 rfl rfl rfl (op_len_sl ha19 rfl Try.underlying22 rfl h_t0) ?_
 intro a20 ha20; clear ha19 a19
 refine wl_val ha20 rfl rfl rfl (op_move ha20 rfl rfl) ?_
 intro a21 ha21; clear ha20 a20
 refine wpList_nil ?_
 refine then_n ?_
 refine wp_block ?_
 refine loop_inv (X := Nat × Value × (List Str)) (fun (⟨i, v, acc⟩ : Nat × Value × (List Str)) fr wl => Sl 77 fr [(1, .pointer (some (⟨w0.heap.size, 0, none⟩ : Addr))), (3, v10), (4, v), (16, v_t0), (17, .int .i64 ((t.1.length : Nat) : Int)), (18, .int .i64 ((i : Nat) : Int))] ∧ Ext w0 wl ∧ Box wl w0.heap.size 28 [v_t0, v_t1] ∧ Own shI64 2 w2.heap.size w2.heap.size w11.heap.size wl v10 ((wdS t)) ∧ Own shStr 9 w11.heap.size w11.heap.size wl.heap.size wl v acc ∧ w11.heap.size ≤ wl.heap.size ∧ (i ≤ t.1.length) ∧ (acc.length = i) ∧ (acc ++ hcs t i (t.1.drop i) = hcs t 0 t.1)) (fun (⟨i, v, acc⟩ : Nat × Value × (List Str)) => t.1.length - i) (0, (.slice none 0 0), []) ?_ ?_
 ·
  exact ⟨(Sl.cons_ ha21 rfl rfl (Sl.cons_ ha21 rfl rfl (Sl.cons_ ha21 rfl rfl (Sl.cons_ ha21 rfl rfl (Sl.cons_ ha21 rfl rfl (Sl.cons_ ha21 rfl (int_eq (by omega)) (Sl.nil_ ha21))))))), hx15, hb4, ho13, (Own.nil _ _ _ _ _ _), (by omega), (by omega), (by rfl), (by rfl)⟩
 ·
  clear ha21 a21
  rintro ⟨i, v, acc⟩ a27 w22 ⟨ha27, hx23, hf24, hf25, hf26, hzl28, hi, hl, hF0⟩
  have hzhx23 := hx23.size
  refine wp_seq ?_
  refine wp_region_lit ?_
  refine wl_val ha27 rfl rfl rfl (op_lss ha27 rfl rfl rfl) ?_
  intro a29 ha29; clear ha27 a27
  refine wpList_nil ?_
  refine then_n ?_
  refine wp_seq ?_
  by_cases c30 : ((i : Nat) : Int) < ((t.1.length : Nat) : Int)
  ·
   rw [decide_eq_true c30] at ha29
   refine cond_t ha29 rfl ?_
   refine wp_skip ?_
   refine then_n ?_
   refine wp_seq ?_
   refine wp_block ?_
   refine wp_seq ?_
   refine wp_region_lit ?_
   refine wl_val ha29 rfl rfl rfl (op_move ha29 rfl rfl) ?_
   intro a31 ha31; clear ha29 a29
   obtain ⟨x32, hx32⟩ := get_ex (xs := t.1) (j := i) (by omega)
   obtain ⟨p33, c34, hi35, hc36, hr37, hs38⟩ := Rds.at_ h_t0 hx32
   obtain ⟨rfl, b39⟩ := inv_shStr hr37
   have hlbx32 := wordB_len (htw _ (List.mem_of_getElem? hx32))
   refine wl_val ha31 rfl rfl rfl (op_indexAddr ha31 rfl Try.underlying22 ti9 rfl rfl (by omega) hi35) ?_
   intro a40 ha40; clear ha31 a31
   refine wl_val ha40 rfl rfl rfl (op_loadH ha40 rfl Try.underlying9 rfl rfl (hc36.ext hx23) rfl) ?_
   intro a41 ha41; clear ha40 a40
   refine wl_val ha41 rfl rfl rfl (op_assign ha41 rfl rfl) ?_
   intro a42 ha42; clear ha41 a41
   refine wl_val ha42 rfl rfl rfl (op_assign ha42 rfl rfl) ?_
   intro a43 ha43; clear ha42 a42
   refine wpList_nil ?_
   refine then_n ?_
   refine wp_region_lit ?_
   refine wl_val ha43 rfl rfl rfl (op_move ha43 rfl rfl) ?_
   intro a44 ha44; clear ha43 a43
   refine wl_val ha44 rfl rfl rfl (op_move ha44 rfl rfl) ?_
   intro a45 ha45; clear ha44 a44
   refine wl_val ha45 rfl rfl rfl (op_move ha45 rfl rfl) ?_
   intro a46 ha46; clear ha45 a45
   refine wl_val ha46 rfl rfl rfl (op_move ha46 rfl rfl) ?_
   intro a47 ha47; clear ha46 a46
   obtain ⟨x48, hx48⟩ := get_ex (xs := (wdS t)) (j := i) (by omega)
   obtain ⟨p49, c50, hi51, hc52, hr53, hs54⟩ := Rds.at_ (hf25.rds pos_shI64) hx48
   obtain ⟨rfl, b55⟩ := inv_shI64 hr53
   obtain ⟨_, _⟩ : _ ∧ _ := hs54
   have hwx48 := wdS_at hx48
   have hwbx48 := wdC_bd g0 (c := i)
   refine wl_val ha47 rfl rfl rfl (op_indexAddr ha47 rfl Try.underlying41 ti2 rfl rfl (by omega) hi51) ?_
   intro a56 ha56; clear ha47 a47
   refine wl_val ha56 rfl rfl rfl (op_loadH ha56 rfl Try.underlying2 rfl rfl hc52 rfl) ?_
   intro a57 ha57; clear ha56 a56
   refine wl_val ha57 rfl rfl rfl (op_move ha57 rfl rfl) ?_
   intro a58 ha58; clear ha57 a57
   refine wl_val ha58 rfl rfl rfl (op_len_str ha58 rfl Try.underlying9 rfl) ?_
   intro a59 ha59; clear ha58 a58
   refine wl_val ha59 rfl rfl rfl ((op_sub ha59 rfl rfl rfl).int (IntWalk.i64_in _ (by omega))) ?_
   intro a60 ha60; clear ha59 a59
   refine wl_callR ha60 rfl rfl rfl (op_call ha60 rfl cb106 rfl) (c_impl_blanks _ (x48 - ((x32.length : Nat) : Int)) (by first | assumption | omega | (simp; omega))) ?_
   rintro v61 w62 he63 rfl a64 ha64; clear ha60 a60
   have hx65 := hx23.trans' he63
   have hzhx65 := he63.size
   replace hf24 := hf24.ext he63
   replace hf25 := hf25.ext he63
   replace hf26 := hf26.ext he63
   replace hc52 := hc52.ext he63
   refine wl_val ha64 rfl rfl rfl (op_sadd ha64 rfl rfl rfl (by first | omega | (simp only [List.length_append, blS_len, List.length_cons, List.length_nil]; omega))) ?_
   intro a66 ha66; clear ha64 a64
   refine wl_eff ha66 rfl rfl rfl (op_buildSlice (s := shStr) (xs := [x32 ++ ((blS (x48 - ((x32.length : Nat) : Int))))]) (cs := [St (x32 ++ ((blS (x48 - ((x32.length : Nat) : Int)))))]) (vs := [(0, St (x32 ++ ((blS (x48 - ((x32.length : Nat) : Int))))))]) (S := fun _ => False) (le := w62.heap.size) ha66 rfl pos_shStr Try.underlying22 ti9 rfl rfl (by decide) (by kernel_rfl) (Els.single (mk_shStr (x32 ++ ((blS (x48 - ((x32.length : Nat) : Int))))) (by first | assumption | omega | (simp only [List.length_append, blS_len]; omega) | exact Nat.le_trans (fillS_len (by omega) (by omega)) (by decide)))) (fun _ h => h.elim)) ?_
   rintro v67 w68 ⟨ho69, he70, hob71⟩ a72 ha72; clear ha66 a66
   have hx73 := hx65.trans' he70
   have hzhx73 := he70.size
   replace hf24 := hf24.ext he70
   replace hf25 := hf25.ext he70
   replace hf26 := hf26.ext he70
   replace hc52 := hc52.ext he70
   refine wl_eff ha72 rfl rfl rfl (op_append (ts := #[]) (s := shStr) ha72 rfl Try.underlying22 ti9 rfl pos_shStr rfl rfl hf26 (ho69.rds pos_shStr) (by omega) (by omega) (by first | omega | (simp; omega)) (by first | omega | (simp; omega)) (.inl flat_shStr)) ?_
   rintro v74 w75 ⟨ho76, hst77, hob78⟩ a79 ha79; clear ha72 a72
   have hx80 := hx73.stp hst77 (by intro q hq; have hq0 := hf26.lt q hq; omega)
   have hzhx80 := hst77.size
   replace hf24 := hf24.stp hst77 (by intro q hq; have hq0 := hf26.lt q hq; omega)
   replace hf25 := hf25.stp hst77 (by intro q hq; have hq0 := hf26.lt q hq; omega)
   replace ho69 := ho69.stp hst77 (by intro q hq; have hq0 := hf26.lt q hq; omega)
   have hsp81 : ∀ q, Value.ownBlock v74 = some q → Value.ownBlock v67 ≠ some q := by intro q hq hb; have hq0 := ho69.lt q hb; rcases hob78 with h | h; (rw [h] at hq; first | (have hq1 := hf26.lt q hq; omega)); (rw [h] at hq; cases hq; omega)
   refine wl_val ha79 rfl rfl rfl (op_assign ha79 rfl rfl) ?_
   intro a82 ha82; clear ha79 a79
   refine wpList_nil ?_
   refine block_n ?_
   refine then_n ?_
   refine wp_region_lit ?_
   refine wl_val ha82 rfl rfl rfl ((op_add ha82 rfl rfl rfl).int (IntWalk.i64_in _ (by omega))) ?_
   intro a83 ha83; clear ha82 a82
   refine wl_val ha83 rfl rfl rfl (op_move ha83 rfl rfl) ?_
   intro a84 ha84; clear ha83 a83
   refine wpList_nil ?_
   refine round_end (x := (i, v, acc)) ((i + 1), v74, (acc ++ [x32 ++ ((blS (x48 - ((x32.length : Nat) : Int))))])) ?_ ?_
   ·
    refine ⟨(Sl.cons_ ha84 rfl rfl (Sl.cons_ ha84 rfl rfl (Sl.cons_ ha84 rfl rfl (Sl.cons_ ha84 rfl rfl (Sl.cons_ ha84 rfl rfl (Sl.cons_ ha84 rfl (int_eq (by omega)) (Sl.nil_ ha84))))))), hx80, hf24, hf25, (ho76.fin (by omega) (by omega) (by omega)), (by omega), (by omega), (by (simp; omega)), (by rw [drop_cons hx32, hcs, ← hwx48, show fillS x48 false x32 = x32 ++ blS (x48 - ((x32.length : Nat) : Int)) from rfl] at hF0; rw [← hF0]; simp)⟩
   ·show (t.1.length - ((i + 1)) : Nat) < t.1.length - i; omega
  ·
   rw [decide_eq_false c30] at ha29
   refine cond_f ha29 rfl ?_
   refine wp_exit ?_
   refine then_e ?_
   refine then_e ?_
   refine block_hit ?_
   refine then_n ?_
   refine wp_seq ?_
   have hA : acc = hcs t 0 t.1 := (by rw [drop_nil (by omega), hcs, List.append_nil] at hF0; exact hF0)
   have hAb := head_bd g0
   rw [← hA] at hAb
   refine wp_region_lit ?_
   refine wl_val ha29 rfl rfl rfl (op_move ha29 rfl rfl) ?_
   intro a85 ha85; clear ha29 a29
   refine wl_callR ha85 rfl rfl rfl (op_call ha85 rfl cb107 rfl) (c_impl_joinWith _ v acc (([124] : Str)) (hf26.rds pos_shStr) (by first | assumption | omega | (simp; omega))) ?_
   rintro v86 w87 he88 rfl a89 ha89; clear ha85 a85
   have hx90 := hx23.trans' he88
   have hzhx90 := he88.size
   replace hf24 := hf24.ext he88
   replace hf25 := hf25.ext he88
   replace hf26 := hf26.ext he88
   refine wl_val ha89 rfl rfl rfl (op_sadd ha89 rfl rfl rfl (by first | omega | (simp only [List.length_append, blS_len, List.length_cons, List.length_nil]; omega))) ?_
   intro a91 ha91; clear ha89 a89
   refine wl_val ha91 rfl rfl rfl (op_assign ha91 rfl rfl) ?_
   intro a92 ha92; clear ha91 a91
   refine wpList_nil ?_
   refine then_n ?_
   refine wp_seq ?_
   refine wp_seq ?_
   refine wp_region_lit ?_
   refine wl_val ha92 rfl rfl rfl (op_fieldAddr (sz := 0) ha92 rfl Try.underlying28 rfl rfl ti23 rfl) ?_
   intro a93 ha93; clear ha92 a92
   refine wl_val ha93 rfl rfl rfl (op_loadF (off := 1) ha93 rfl Try.underlying23 rfl rfl hf24.cells rfl) ?_
   intro a94 ha94; clear ha93 a93
   refine wl_val ha94 rfl rfl rfl (op_len_sl ha94 rfl Try.underlying23 rfl h_t1) ?_
   intro a95 ha95; clear ha94 a94
   refine wl_val ha95 rfl rfl rfl (op_move ha95 rfl rfl) ?_
   intro a96 ha96; clear ha95 a95
   refine wpList_nil ?_
   refine then_n ?_
   refine wp_block ?_
   refine loop_inv (X := Nat × Str) (fun (⟨k, o⟩ : Nat × Str) fr wl => Sl 77 fr [(3, v10), (7, St o), (41, v_t1), (42, .int .i64 ((t.2.length : Nat) : Int)), (43, .int .i64 ((k : Nat) : Int))] ∧ Ext w0 wl ∧ Own shI64 2 w2.heap.size w2.heap.size w11.heap.size wl v10 ((wdS t)) ∧ w87.heap.size ≤ wl.heap.size ∧ (k ≤ t.2.length) ∧ (o.length ≤ 1300 * (k + 1)) ∧ (o ++ rowsS t (t.2.drop k) = txS t)) (fun (⟨k, o⟩ : Nat × Str) => t.2.length - k) (0, ((joinG (([124] : Str)) 0 acc)) ++ (([10] : Str))) ?_ ?_
   ·
    exact ⟨(Sl.cons_ ha96 rfl rfl (Sl.cons_ ha96 rfl rfl (Sl.cons_ ha96 rfl rfl (Sl.cons_ ha96 rfl rfl (Sl.cons_ ha96 rfl (int_eq (by omega)) (Sl.nil_ ha96)))))), hx90, hf25, (by omega), (by omega), (by rw [List.length_append, List.length_singleton]; omega), (by unfold txS lineS; rw [hA]; rfl)⟩
   ·
    clear ha96 a96
    rintro ⟨k, o⟩ a100 w97 ⟨ha100, hx98, hf99, hzl101, hk, ho, hF1⟩
    have hzhx98 := hx98.size
    refine wp_seq ?_
    refine wp_region_lit ?_
    refine wl_val ha100 rfl rfl rfl (op_lss ha100 rfl rfl rfl) ?_
    intro a102 ha102; clear ha100 a100
    refine wpList_nil ?_
    refine then_n ?_
    refine wp_seq ?_
    by_cases c103 : ((k : Nat) : Int) < ((t.2.length : Nat) : Int)
    ·
     rw [decide_eq_true c103] at ha102
     refine cond_t ha102 rfl ?_
     refine wp_skip ?_
     refine then_n ?_
     refine wp_seq ?_
     refine wp_block ?_
     refine wp_seq ?_
     refine wp_region_lit ?_
     obtain ⟨x104, hx104⟩ := get_ex (xs := t.2) (j := k) (by omega)
     obtain ⟨p105, c106, hi107, hc108, hr109, hs110⟩ := Rds.at_ h_t1 hx104
     obtain ⟨v111, rfl, b112⟩ := inv_shRow hr109
     have hlb112 := b112.length_le
     have hrbx104 := htr _ (List.mem_of_getElem? hx104)
     refine wl_val ha102 rfl rfl rfl (op_indexAddr ha102 rfl Try.underlying23 ti41 rfl rfl (by omega) hi107) ?_
     intro a113 ha113; clear ha102 a102
     refine wl_val ha113 rfl rfl rfl (op_loadH ha113 rfl Try.underlying41 rfl rfl (hc108.ext hx98) rfl) ?_
     intro a114 ha114; clear ha113 a113
     refine wl_val ha114 rfl rfl rfl (op_assign ha114 rfl rfl) ?_
     intro a115 ha115; clear ha114 a114
     refine wpList_nil ?_
     refine then_n ?_
     refine wp_seq ?_
     refine wp_region_lit ?_
     refine wl_val ha115 rfl rfl rfl (op_assign ha115 rfl rfl) ?_
     intro a116 ha116; clear ha115 a115
     refine wpList_nil ?_
     refine then_n ?_
     refine wp_seq ?_
     refine wp_seq ?_
     refine wp_region_lit ?_
     refine wl_val ha116 rfl rfl rfl (op_move ha116 rfl rfl) ?_
     intro a117 ha117; clear ha116 a116
     refine wl_val ha117 rfl rfl rfl (op_len_sl ha117 rfl Try.underlying41 rfl b112) ?_
     intro a118 ha118; clear ha117 a117
     refine wl_val ha118 rfl rfl rfl (op_move ha118 rfl rfl) ?_
     intro a119 ha119; clear ha118 a118
     refine wpList_nil ?_
     refine then_n ?_
     refine wp_block ?_
     refine loop_inv (X := Nat × Value × (List Str)) (fun (⟨j, v2, acc2⟩ : Nat × Value × (List Str)) fr wl => Sl 77 fr [(3, v10), (4, v2), (7, St o), (41, v_t1), (42, .int .i64 ((t.2.length : Nat) : Int)), (43, .int .i64 ((k : Nat) : Int)), (47, v111), (48, .int .i64 ((x104.length : Nat) : Int)), (49, .int .i64 ((j : Nat) : Int))] ∧ Ext w0 wl ∧ Own shI64 2 w2.heap.size w2.heap.size w11.heap.size wl v10 ((wdS t)) ∧ Own shStr 9 w97.heap.size w97.heap.size wl.heap.size wl v2 acc2 ∧ w97.heap.size ≤ wl.heap.size ∧ (j ≤ x104.length) ∧ (acc2.length = j) ∧ (acc2 ++ rcs t j (x104.drop j) = rcs t 0 x104)) (fun (⟨j, v2, acc2⟩ : Nat × Value × (List Str)) => x104.length - j) (0, (.slice none 0 0), []) ?_ ?_
     ·
      exact ⟨(Sl.cons_ ha119 rfl rfl (Sl.cons_ ha119 rfl rfl (Sl.cons_ ha119 rfl rfl (Sl.cons_ ha119 rfl rfl (Sl.cons_ ha119 rfl rfl (Sl.cons_ ha119 rfl rfl (Sl.cons_ ha119 rfl rfl (Sl.cons_ ha119 rfl rfl (Sl.cons_ ha119 rfl (int_eq (by omega)) (Sl.nil_ ha119)))))))))), hx98, hf99, (Own.nil _ _ _ _ _ _), (by omega), (by omega), (by rfl), (by rfl)⟩
     ·
      clear ha119 a119
      rintro ⟨j, v2, acc2⟩ a124 w120 ⟨ha124, hx121, hf122, hf123, hzl125, hj, hl2, hF2⟩
      have hzhx121 := hx121.size
      refine wp_seq ?_
      refine wp_region_lit ?_
      refine wl_val ha124 rfl rfl rfl (op_lss ha124 rfl rfl rfl) ?_
      intro a126 ha126; clear ha124 a124
      refine wpList_nil ?_
      refine then_n ?_
      refine wp_seq ?_
      by_cases c127 : ((j : Nat) : Int) < ((x104.length : Nat) : Int)
      ·
       rw [decide_eq_true c127] at ha126
       refine cond_t ha126 rfl ?_
       refine wp_skip ?_
       refine then_n ?_
       refine wp_seq ?_
       refine wp_block ?_
       refine wp_seq ?_
       refine wp_region_lit ?_
       refine wl_val ha126 rfl rfl rfl (op_move ha126 rfl rfl) ?_
       intro a128 ha128; clear ha126 a126
       obtain ⟨x129, hx129⟩ := get_ex (xs := x104) (j := j) (by omega)
       obtain ⟨p130, c131, hi132, hc133, hr134, hs135⟩ := Rds.at_ b112 hx129
       obtain ⟨rfl, b136⟩ := inv_shI64 hr134
       have hvbx129 := hrbx104.2 _ (List.mem_of_getElem? hx129)
       have hdlx129 := decS_len (n := x129) (by omega)
       refine wl_val ha128 rfl rfl rfl (op_indexAddr ha128 rfl Try.underlying41 ti2 rfl rfl (by omega) hi132) ?_
       intro a137 ha137; clear ha128 a128
       refine wl_val ha137 rfl rfl rfl (op_loadH ha137 rfl Try.underlying2 rfl rfl (hc133.ext hx121) rfl) ?_
       intro a138 ha138; clear ha137 a137
       refine wl_val ha138 rfl rfl rfl (op_assign ha138 rfl rfl) ?_
       intro a139 ha139; clear ha138 a138
       refine wl_val ha139 rfl rfl rfl (op_assign ha139 rfl rfl) ?_
       intro a140 ha140; clear ha139 a139
       refine wpList_nil ?_
       refine then_n ?_
       refine wp_seq ?_
       refine wp_region_lit ?_
       refine wl_val ha140 rfl rfl rfl (op_move ha140 rfl rfl) ?_
       intro a141 ha141; clear ha140 a140
       refine wl_callR ha141 rfl rfl rfl (op_call ha141 rfl cb102 rfl) (c_impl_decimal _ x129 (by first | assumption | omega | (simp; omega)) (by first | assumption | omega | (simp; omega))) ?_
       rintro v142 w143 he144 rfl a145 ha145; clear ha141 a141
       have hx146 := hx121.trans' he144
       have hzhx146 := he144.size
       replace hf122 := hf122.ext he144
       replace hf123 := hf123.ext he144
       refine wl_val ha145 rfl rfl rfl (op_assign ha145 rfl rfl) ?_
       intro a147 ha147; clear ha145 a145
       refine wpList_nil ?_
       refine then_n ?_
       refine wp_region_lit ?_
       refine wl_val ha147 rfl rfl rfl (op_move ha147 rfl rfl) ?_
       intro a148 ha148; clear ha147 a147
       refine wl_val ha148 rfl rfl rfl (op_move ha148 rfl rfl) ?_
       intro a149 ha149; clear ha148 a148
       refine wl_val ha149 rfl rfl rfl (op_move ha149 rfl rfl) ?_
       intro a150 ha150; clear ha149 a149
       obtain ⟨x151, hx151⟩ := get_ex (xs := (wdS t)) (j := j) (by omega)
       obtain ⟨p152, c153, hi154, hc155, hr156, hs157⟩ := Rds.at_ (hf122.rds pos_shI64) hx151
       obtain ⟨rfl, b158⟩ := inv_shI64 hr156
       obtain ⟨_, _⟩ : _ ∧ _ := hs157
       have hwx151 := wdS_at hx151
       have hwbx151 := wdC_bd g0 (c := j)
       refine wl_val ha150 rfl rfl rfl (op_indexAddr ha150 rfl Try.underlying41 ti2 rfl rfl (by omega) hi154) ?_
       intro a159 ha159; clear ha150 a150
       refine wl_val ha159 rfl rfl rfl (op_loadH ha159 rfl Try.underlying2 rfl rfl hc155 rfl) ?_
       intro a160 ha160; clear ha159 a159
       refine wl_val ha160 rfl rfl rfl (op_move ha160 rfl rfl) ?_
       intro a161 ha161; clear ha160 a160
       refine wl_val ha161 rfl rfl rfl (op_len_str ha161 rfl Try.underlying9 rfl) ?_
       intro a162 ha162; clear ha161 a161
       refine wl_val ha162 rfl rfl rfl ((op_sub ha162 rfl rfl rfl).int (IntWalk.i64_in _ (by omega))) ?_
       intro a163 ha163; clear ha162 a162
       refine wl_callR ha163 rfl rfl rfl (op_call ha163 rfl cb106 rfl) (c_impl_blanks _ (x151 - ((((decS x129)).length : Nat) : Int)) (by first | assumption | omega | (simp; omega))) ?_
       rintro v164 w165 he166 rfl a167 ha167; clear ha163 a163
       have hx168 := hx146.trans' he166
       have hzhx168 := he166.size
       replace hf122 := hf122.ext he166
       replace hf123 := hf123.ext he166
       replace hc155 := hc155.ext he166
       refine wl_val ha167 rfl rfl rfl (op_move ha167 rfl rfl) ?_
       intro a169 ha169; clear ha167 a167
       refine wl_val ha169 rfl rfl rfl (op_sadd ha169 rfl rfl rfl (by first | omega | (simp only [List.length_append, blS_len, List.length_cons, List.length_nil]; omega))) ?_
       intro a170 ha170; clear ha169 a169
       refine wl_eff ha170 rfl rfl rfl (op_buildSlice (s := shStr) (xs := [((blS (x151 - ((((decS x129)).length : Nat) : Int)))) ++ ((decS x129))]) (cs := [St (((blS (x151 - ((((decS x129)).length : Nat) : Int)))) ++ ((decS x129)))]) (vs := [(0, St (((blS (x151 - ((((decS x129)).length : Nat) : Int)))) ++ ((decS x129))))]) (S := fun _ => False) (le := w165.heap.size) ha170 rfl pos_shStr Try.underlying22 ti9 rfl rfl (by decide) (by kernel_rfl) (Els.single (mk_shStr (((blS (x151 - ((((decS x129)).length : Nat) : Int)))) ++ ((decS x129))) (by first | assumption | omega | (simp only [List.length_append, blS_len]; omega) | exact Nat.le_trans (fillS_len (by omega) (by omega)) (by decide)))) (fun _ h => h.elim)) ?_
       rintro v171 w172 ⟨ho173, he174, hob175⟩ a176 ha176; clear ha170 a170
       have hx177 := hx168.trans' he174
       have hzhx177 := he174.size
       replace hf122 := hf122.ext he174
       replace hf123 := hf123.ext he174
       replace hc155 := hc155.ext he174
       refine wl_eff ha176 rfl rfl rfl (op_append (ts := #[]) (s := shStr) ha176 rfl Try.underlying22 ti9 rfl pos_shStr rfl rfl hf123 (ho173.rds pos_shStr) (by omega) (by omega) (by first | omega | (simp; omega)) (by first | omega | (simp; omega)) (.inl flat_shStr)) ?_
       rintro v178 w179 ⟨ho180, hst181, hob182⟩ a183 ha183; clear ha176 a176
       have hx184 := hx177.stp hst181 (by intro q hq; have hq0 := hf123.lt q hq; omega)
       have hzhx184 := hst181.size
       replace hf122 := hf122.stp hst181 (by intro q hq; have hq0 := hf123.lt q hq; omega)
       replace ho173 := ho173.stp hst181 (by intro q hq; have hq0 := hf123.lt q hq; omega)
       have hsp185 : ∀ q, Value.ownBlock v178 = some q → Value.ownBlock v171 ≠ some q := by intro q hq hb; have hq0 := ho173.lt q hb; rcases hob182 with h | h; (rw [h] at hq; first | (have hq1 := hf123.lt q hq; omega)); (rw [h] at hq; cases hq; omega)
       refine wl_val ha183 rfl rfl rfl (op_assign ha183 rfl rfl) ?_
       intro a186 ha186; clear ha183 a183
       refine wpList_nil ?_
       refine block_n ?_
       refine then_n ?_
       refine wp_region_lit ?_
       refine wl_val ha186 rfl rfl rfl ((op_add ha186 rfl rfl rfl).int (IntWalk.i64_in _ (by omega))) ?_
       intro a187 ha187; clear ha186 a186
       refine wl_val ha187 rfl rfl rfl (op_move ha187 rfl rfl) ?_
       intro a188 ha188; clear ha187 a187
       refine wpList_nil ?_
       refine round_end (x := (j, v2, acc2)) ((j + 1), v178, (acc2 ++ [((blS (x151 - ((((decS x129)).length : Nat) : Int)))) ++ ((decS x129))])) ?_ ?_
       ·
        refine ⟨(Sl.cons_ ha188 rfl rfl (Sl.cons_ ha188 rfl rfl (Sl.cons_ ha188 rfl rfl (Sl.cons_ ha188 rfl rfl (Sl.cons_ ha188 rfl rfl (Sl.cons_ ha188 rfl rfl (Sl.cons_ ha188 rfl rfl (Sl.cons_ ha188 rfl rfl (Sl.cons_ ha188 rfl (int_eq (by omega)) (Sl.nil_ ha188)))))))))), hx184, hf122, (ho180.fin (by omega) (by omega) (by omega)), (by omega), (by omega), (by (simp; omega)), (by rw [drop_cons hx129, rcs, ← hwx151, show fillS x151 true (decS x129) = blS (x151 - (((decS x129).length : Nat) : Int)) ++ decS x129 from rfl] at hF2; rw [← hF2]; simp)⟩
       ·show (x104.length - ((j + 1)) : Nat) < x104.length - j; omega
      ·
       rw [decide_eq_false c127] at ha126
       refine cond_f ha126 rfl ?_
       refine wp_exit ?_
       refine then_e ?_
       refine then_e ?_
       refine block_hit ?_
       refine then_n ?_
       have hB : acc2 = rcs t 0 x104 := (by rw [drop_nil (by omega), rcs, List.append_nil] at hF2; exact hF2)
       have hBb := row_bd g0 (List.mem_of_getElem? hx104)
       rw [← hB] at hBb
       refine wp_region_lit ?_
       refine wl_val ha126 rfl rfl rfl (op_move ha126 rfl rfl) ?_
       intro a189 ha189; clear ha126 a126
       refine wl_val ha189 rfl rfl rfl (op_move ha189 rfl rfl) ?_
       intro a190 ha190; clear ha189 a189
       refine wl_callR ha190 rfl rfl rfl (op_call ha190 rfl cb107 rfl) (c_impl_joinWith _ v2 acc2 (([124] : Str)) (hf123.rds pos_shStr) (by first | assumption | omega | (simp; omega))) ?_
       rintro v191 w192 he193 rfl a194 ha194; clear ha190 a190
       have hx195 := hx121.trans' he193
       have hzhx195 := he193.size
       replace hf122 := hf122.ext he193
       replace hf123 := hf123.ext he193
       refine wl_val ha194 rfl rfl rfl (op_sadd ha194 rfl rfl rfl (by first | omega | (simp only [List.length_append, blS_len, List.length_cons, List.length_nil]; omega))) ?_
       intro a196 ha196; clear ha194 a194
       refine wl_val ha196 rfl rfl rfl (op_sadd ha196 rfl rfl rfl (by first | omega | (simp only [List.length_append, blS_len, List.length_cons, List.length_nil]; omega))) ?_
       intro a197 ha197; clear ha196 a196
       refine wl_val ha197 rfl rfl rfl (op_assign ha197 rfl rfl) ?_
       intro a198 ha198; clear ha197 a197
       refine wpList_nil ?_
       refine block_n ?_
       refine then_n ?_
       refine wp_region_lit ?_
       refine wl_val ha198 rfl rfl rfl ((op_add ha198 rfl rfl rfl).int (IntWalk.i64_in _ (by omega))) ?_
       intro a199 ha199; clear ha198 a198
       refine wl_val ha199 rfl rfl rfl (op_move ha199 rfl rfl) ?_
       intro a200 ha200; clear ha199 a199
       refine wpList_nil ?_
       refine round_end (x := (k, o)) ((k + 1), o ++ (((joinG (([124] : Str)) 0 acc2)) ++ (([10] : Str)))) ?_ ?_
       ·
        refine ⟨(Sl.cons_ ha200 rfl rfl (Sl.cons_ ha200 rfl rfl (Sl.cons_ ha200 rfl rfl (Sl.cons_ ha200 rfl rfl (Sl.cons_ ha200 rfl (int_eq (by omega)) (Sl.nil_ ha200)))))), hx195, hf122, (by omega), (by omega), (by simp only [List.length_append, List.length_singleton]; omega), (by rw [drop_cons hx104, rowsS] at hF1; rw [← hF1, lineS, hB]; simp)⟩
       ·show (t.2.length - ((k + 1)) : Nat) < t.2.length - k; omega
    ·
     rw [decide_eq_false c103] at ha102
     refine cond_f ha102 rfl ?_
     refine wp_exit ?_
     refine then_e ?_
     refine then_e ?_
     refine block_hit ?_
     refine then_n ?_
     refine wp_seq ?_
     refine wp_region_lit ?_
     refine wl_val ha102 rfl rfl rfl (op_move ha102 rfl rfl) ?_
     intro a201 ha201; clear ha102 a102
     refine wl_val ha201 rfl rfl rfl (op_assign ha201 rfl rfl) ?_
     intro a202 ha202; clear ha201 a201
     refine wpList_nil ?_
     refine then_n ?_
     refine wp_ret ?_
     refine ret1 ha202 rfl rfl ?_
     clear ha202 a202
     exact ret_mk hx98 (congrArg St (by rw [drop_nil (by omega), rowsS, List.append_nil] at hF1; exact hF1))

theorem c_spec_l31Text (w0 : World) (v_t0 : Value) (v_t1 : Value) (t : List Str × List (List Int)) {S_t0 : Nat → Prop} {S_t1 : Nat → Prop} (h_t0 : Rds shStr S_t0 w0 v_t0 t.1) (h_t1 : Rds shRow S_t1 w0 v_t1 t.2) (g0 : tabB t = true) :
  Calls Try.prog 88 #[.agg #[v_t0, v_t1]] w0 (Ret w0 (fun v _ => v = St (txS t))) := by
 refine enter (N := 71) Try.func88 rfl rfl rfl ?_
 intro a0 ha0
 have hx0 := Ext.rfl' w0
 have hl_t0 := h_t0.length_le
 have hl_t1 := h_t1.length_le
 have htr := tab_rows g0
 have htw := tab_heads g0
 have htb := tab_bd g0
 have hwl := wdS_len t
 refine wp_seq ?_
 refine wp_region_lit ?_
 refine wl_eff ha0 rfl rfl rfl (op_box' ha0 rfl rfl rfl) ?_
 rintro _ w2 ⟨rfl, he3, hb4, hz5⟩ a6 ha6; clear ha0 a0
 have hx7 := hx0.trans' he3
 have hzhx7 := he3.size
 refine wl_val ha6 rfl rfl rfl (op_assign ha6 rfl rfl) ?_
 intro a8 ha8; clear ha6 a6
 refine wpList_nil ?_
 refine then_n ?_
 refine wp_seq ?_
 refine wp_region_lit ?_
 refine wl_val ha8 rfl rfl rfl (op_loadS ha8 rfl Try.underlying28 ti28 rfl rfl hb4.cells) ?_
 intro a9 ha9; clear ha8 a8
 refine wl_callR ha9 rfl rfl rfl (op_call ha9 rfl cb72 rfl) (c_spec_l31Widths _ v_t0 v_t1 t (h_t0.ext pos_shStr hx7) (h_t1.ext pos_shRow hx7) (by first | assumption | omega | (simp; omega))) ?_
 rintro v10 w11 he12 ho13 a14 ha14; clear ha9 a9
 have hx15 := hx7.trans' he12
 have hzhx15 := he12.size
 replace hb4 := hb4.ext he12
 refine wl_val ha14 rfl rfl rfl (op_assign ha14 rfl rfl) ?_
 intro a16 ha16; clear ha14 a14
 refine wpList_nil ?_
 refine then_n ?_
 refine wp_seq ?_
 refine wp_region_lit ?_
 refine wl_eff ha16 rfl rfl rfl (op_buildSlice (s := shStr) (xs := ([] : List Str)) (cs := []) (vs := []) (S := fun _ => False) (le := w11.heap.size) ha16 rfl pos_shStr Try.underlying22 ti9 rfl rfl (by decide) (by kernel_rfl) rfl (fun _ h => h.elim)) ?_
 rintro v17 w18 ⟨ho19, he20, hob21⟩ a22 ha22; clear ha16 a16
 have hx23 := hx15.trans' he20
 have hzhx23 := he20.size
 replace hb4 := hb4.ext he20
 replace ho13 := ho13.ext he20
 refine wl_val ha22 rfl rfl rfl (op_assign ha22 rfl rfl) ?_
 intro a24 ha24; clear ha22 a22
 refine wpList_nil ?_
 refine then_n ?_
 refine wp_seq ?_
 refine wp_seq ?_
 refine wp_region_lit ?_
 refine wl_val ha24 rfl rfl rfl (op_assign ha24 rfl rfl) ?_
 intro a25 ha25; clear ha24 a24
 refine wpList_nil ?_
 refine then_n ?_
 refine wp_block ?_
 refine loop_inv (X := Nat × Value × (List Str)) (fun (⟨i, v, acc⟩ : Nat × Value × (List Str)) fr wl => Sl 71 fr [(1, .pointer (some (⟨w0.heap.size, 0, none⟩ : Addr))), (3, v10), (4, v), (5, .int .i64 ((i : Nat) : Int))] ∧ Ext w0 wl ∧ Box wl w0.heap.size 28 [v_t0, v_t1] ∧ Own shI64 2 w2.heap.size w2.heap.size w11.heap.size wl v10 ((wdS t)) ∧ Own shStr 9 w11.heap.size w11.heap.size wl.heap.size wl v acc ∧ w18.heap.size ≤ wl.heap.size ∧ (i ≤ t.1.length) ∧ (acc.length = i) ∧ (acc ++ hcs t i (t.1.drop i) = hcs t 0 t.1)) (fun (⟨i, v, acc⟩ : Nat × Value × (List Str)) => t.1.length - i) (0, v17, ([] : List Str)) ?_ ?_
 ·
  exact ⟨(Sl.cons_ ha25 rfl rfl (Sl.cons_ ha25 rfl rfl (Sl.cons_ ha25 rfl rfl (Sl.cons_ ha25 rfl (int_eq (by omega)) (Sl.nil_ ha25))))), hx23, hb4, ho13, (ho19.fin (by omega) (by omega) (by omega)), (by omega), (by omega), (by rfl), (by rfl)⟩
 ·
  clear ha25 a25
  rintro ⟨i, v, acc⟩ a31 w26 ⟨ha31, hx27, hf28, hf29, hf30, hzl32, hi, hl, hF0⟩
  have hzhx27 := hx27.size
  refine wp_seq ?_
  refine wp_seq ?_
  refine wp_region_lit ?_
  refine wl_val ha31 rfl rfl rfl (op_move ha31 rfl rfl) ?_
  intro a33 ha33; clear ha31 a31
  refine wl_val ha33 rfl rfl rfl (op_move ha33 rfl rfl) ?_
  intro a34 ha34; clear ha33 a33
  refine wl_val ha34 rfl rfl rfl (op_len_sl ha34 rfl Try.underlying41 rfl (hf29.rds pos_shI64)) ?_
  intro a35 ha35; clear ha34 a34
  refine wl_val ha35 rfl rfl rfl (op_lss ha35 rfl rfl rfl) ?_
  intro a36 ha36; clear ha35 a35
  refine wpList_nil ?_
  refine then_n ?_
  by_cases c37 : ((i : Nat) : Int) < ((((wdS t)).length : Nat) : Int)
  ·
   rw [decide_eq_true c37] at ha36
   refine cond_t ha36 rfl ?_
   refine wp_skip ?_
   refine then_n ?_
   refine wp_seq ?_
   refine wp_block ?_
   refine dr_enter (fun wa_ wb_ => Stp wa_ wb_ (Value.ownBlock v)) follows_mixed ?_
   intro w38 he39
   have hx40 := hx27.trans' he39
   have hzhx40 := he39.size
   replace hf28 := hf28.ext he39
   replace hf29 := hf29.ext he39
   replace hf30 := hf30.ext he39
   have hs41 : Ext w38 w38 := Ext.rfl' _
   refine dr_val (i := 0) ha36 rfl (by kernel_rfl) (by kernel_rfl) (by kernel_rfl) rfl rfl rfl (Stp.of_ext hs41 _) (fun w' hw' => op_move ha36 rfl rfl) ?_
   intro a42 ha42; clear ha36 a36
   refine dr_val (i := 1) ha42 rfl (by kernel_rfl) (by kernel_rfl) (by kernel_rfl) rfl rfl rfl (Stp.of_ext hs41 _) (fun w' hw' => op_fieldAddr (sz := 0) ha42 rfl Try.underlying28 rfl rfl ti22 rfl) ?_
   intro a43 ha43; clear ha42 a42
   refine dr_val (i := 2) ha43 rfl (by kernel_rfl) (by kernel_rfl) (by kernel_rfl) rfl rfl rfl (Stp.of_ext hs41 _) (fun w' hw' => op_loadF (off := 0) ha43 rfl Try.underlying22 rfl rfl (hf28.stp hw' (by intro q hq; first | (have hq0 := hf30.lt q hq; omega) | (intro e; subst e; exact hf30.ne_box hf28 rfl hq))).cells rfl) ?_
   intro a44 ha44; clear ha43 a43
   refine dr_val (i := 3) ha44 rfl (by kernel_rfl) (by kernel_rfl) (by kernel_rfl) rfl rfl rfl (Stp.of_ext hs41 _) (fun w' hw' => op_move ha44 rfl rfl) ?_
   intro a45 ha45; clear ha44 a44
   obtain ⟨x46, hx46⟩ := get_ex (xs := t.1) (j := i) (by omega)
   obtain ⟨p47, c48, hi49, hc50, hr51, hs52⟩ := Rds.at_ h_t0 hx46
   obtain ⟨rfl, b53⟩ := inv_shStr hr51
   have hlbx46 := wordB_len (htw _ (List.mem_of_getElem? hx46))
   refine dr_val (i := 4) ha45 rfl (by kernel_rfl) (by kernel_rfl) (by kernel_rfl) rfl rfl rfl (Stp.of_ext hs41 _) (fun w' hw' => op_indexAddr ha45 rfl Try.underlying22 ti9 rfl rfl (by omega) hi49) ?_
   intro a54 ha54; clear ha45 a45
   refine dr_val (i := 5) ha54 rfl (by kernel_rfl) (by kernel_rfl) (by kernel_rfl) rfl rfl rfl (Stp.of_ext hs41 _) (fun w' hw' => op_loadH ha54 rfl Try.underlying9 rfl rfl (hc50.ext (hx40.stp hw' (by intro q hq; have hq0 := hf30.lt q hq; omega))) rfl) ?_
   intro a55 ha55; clear ha54 a54
   refine dr_val (i := 6) ha55 rfl (by kernel_rfl) (by kernel_rfl) (by kernel_rfl) rfl rfl rfl (Stp.of_ext hs41 _) (fun w' hw' => op_move ha55 rfl rfl) ?_
   intro a56 ha56; clear ha55 a55
   refine dr_val (i := 7) ha56 rfl (by kernel_rfl) (by kernel_rfl) (by kernel_rfl) rfl rfl rfl (Stp.of_ext hs41 _) (fun w' hw' => op_move ha56 rfl rfl) ?_
   intro a57 ha57; clear ha56 a56
   obtain ⟨x58, hx58⟩ := get_ex (xs := (wdS t)) (j := i) (by omega)
   obtain ⟨p59, c60, hi61, hc62, hr63, hs64⟩ := Rds.at_ (hf29.rds pos_shI64) hx58
   obtain ⟨rfl, b65⟩ := inv_shI64 hr63
   obtain ⟨_, _⟩ : _ ∧ _ := hs64
   have hwx58 := wdS_at hx58
   have hwbx58 := wdC_bd g0 (c := i)
   refine dr_val (i := 8) ha57 rfl (by kernel_rfl) (by kernel_rfl) (by kernel_rfl) rfl rfl rfl (Stp.of_ext hs41 _) (fun w' hw' => op_indexAddr ha57 rfl Try.underlying41 ti2 rfl rfl (by omega) hi61) ?_
   intro a66 ha66; clear ha57 a57
   refine dr_one (i := 9) (by kernel_rfl) ?_
   refine po_to ha66 rfl rfl rfl rfl (op_loadH ha66 rfl Try.underlying2 rfl rfl (hc62.ext hs41) rfl) ?_
   intro a67 ha67; clear ha66 a66
   refine ⟨(Stp.of_ext hs41 _), ?_⟩
   refine dr_one (i := 10) (by kernel_rfl) ?_
   refine po_callR ha67 rfl rfl rfl rfl (op_call ha67 rfl cb104 rfl) (c_spec_l31Fill _ x46 x58 (false) (by first | assumption | omega | (simp; omega)) (by first | assumption | omega | (simp; omega))) ?_
   rintro v68 w69 he70 rfl a71 ha71; clear ha67 a67
   have hs72 := hs41.trans' he70
   have hx73 := hx40.trans' he70
   have hzhx73 := he70.size
   refine ⟨(Stp.of_ext hs72 _), ?_⟩
   refine dr_one (i := 11) (by kernel_rfl) ?_
   refine po_eff ha71 rfl rfl rfl rfl (op_buildSlice (s := shStr) (xs := [(fillS x58 (false) x46)]) (cs := [St ((fillS x58 (false) x46))]) (vs := [(0, St ((fillS x58 (false) x46)))]) (S := fun _ => False) (le := w69.heap.size) ha71 rfl pos_shStr Try.underlying22 ti9 rfl rfl (by decide) (by kernel_rfl) (Els.single (mk_shStr ((fillS x58 (false) x46)) (by first | assumption | omega | (simp only [List.length_append, blS_len]; omega) | exact Nat.le_trans (fillS_len (by omega) (by omega)) (by decide)))) (fun _ h => h.elim)) ?_
   rintro v74 w75 ⟨ho76, he77, hob78⟩ a79 ha79; clear ha71 a71
   have hs80 := hs72.trans' he77
   have hx81 := hx73.trans' he77
   have hzhx81 := he77.size
   refine ⟨(Stp.of_ext hs80 _), ?_⟩
   refine dr_one (i := 12) (by kernel_rfl) ?_
   replace hf28 := hf28.ext hs80
   replace hf29 := hf29.ext hs80
   replace hf30 := hf30.ext hs80
   replace hc62 := hc62.ext hs80
   refine po_eff ha79 rfl rfl rfl rfl (op_append (ts := #[]) (s := shStr) ha79 rfl Try.underlying22 ti9 rfl pos_shStr rfl rfl hf30 (ho76.rds pos_shStr) (by omega) (by omega) (by first | omega | (simp; omega)) (by first | omega | (simp; omega)) (.inl flat_shStr)) ?_
   rintro v82 w83 ⟨ho84, hst85, hob86⟩ a87 ha87; clear ha79 a79
   have hs88 := (Stp.of_ext hs80 (Value.ownBlock v)).trans' hst85
   have hx89 := hx81.stp hst85 (by intro q hq; have hq0 := hf30.lt q hq; omega)
   have hzhx89 := hst85.size
   replace hf28 := hf28.stp hst85 (by intro q hq; have hq0 := hf30.lt q hq; omega)
   replace hf29 := hf29.stp hst85 (by intro q hq; have hq0 := hf30.lt q hq; omega)
   replace ho76 := ho76.stp hst85 (by intro q hq; have hq0 := hf30.lt q hq; omega)
   have hsp90 : ∀ q, Value.ownBlock v82 = some q → Value.ownBlock v74 ≠ some q := by intro q hq hb; have hq0 := ho76.lt q hb; rcases hob86 with h | h; (rw [h] at hq; first | (have hq1 := hf30.lt q hq; omega)); (rw [h] at hq; cases hq; omega)
   refine ⟨hs88, ?_⟩
   refine dr_val (i := 13) ha87 rfl (by kernel_rfl) (by kernel_rfl) (by kernel_rfl) rfl rfl rfl hs88 (fun w' hw' => op_assign ha87 rfl rfl) ?_
   intro a91 ha91; clear ha87 a87
   refine dr_end (by kernel_rfl) ?_
   refine block_n ?_
   refine then_n ?_
   refine wp_region_lit ?_
   refine wl_val ha91 rfl rfl rfl (op_move ha91 rfl rfl) ?_
   intro a92 ha92; clear ha91 a91
   refine wl_val ha92 rfl rfl rfl ((op_add ha92 rfl rfl rfl).int (IntWalk.i64_in _ (by omega))) ?_
   intro a93 ha93; clear ha92 a92
   refine wl_val ha93 rfl rfl rfl (op_assign ha93 rfl rfl) ?_
   intro a94 ha94; clear ha93 a93
   refine wpList_nil ?_
   refine round_end (x := (i, v, acc)) ((i + 1), v82, (acc ++ [(fillS x58 (false) x46)])) ?_ ?_
   ·
    refine ⟨(Sl.cons_ ha94 rfl rfl (Sl.cons_ ha94 rfl rfl (Sl.cons_ ha94 rfl rfl (Sl.cons_ ha94 rfl (int_eq (by omega)) (Sl.nil_ ha94))))), hx89, hf28, hf29, (ho84.fin (by omega) (by omega) (by omega)), (by omega), (by omega), (by (simp; omega)), (by rw [drop_cons hx46, hcs, ← hwx58] at hF0; rw [← hF0]; simp)⟩
   ·show (t.1.length - ((i + 1)) : Nat) < t.1.length - i; omega
  ·
   rw [decide_eq_false c37] at ha36
   refine cond_f ha36 rfl ?_
   refine wp_exit ?_
   refine then_e ?_
   refine then_e ?_
   refine block_hit ?_
   refine then_n ?_
   refine wp_seq ?_
   have hA : acc = hcs t 0 t.1 := (by rw [drop_nil (by omega), hcs, List.append_nil] at hF0; exact hF0)
   have hAb := head_bd g0
   rw [← hA] at hAb
   refine wp_region_lit ?_
   refine wl_val ha36 rfl rfl rfl (op_move ha36 rfl rfl) ?_
   intro a95 ha95; clear ha36 a36
   refine wl_callR ha95 rfl rfl rfl (op_call ha95 rfl cb105 rfl) (c_spec_l01Words _ v acc (([124] : Str)) (hf30.rds pos_shStr) (by first | assumption | omega | (simp; omega))) ?_
   rintro v96 w97 he98 rfl a99 ha99; clear ha95 a95
   have hx100 := hx27.trans' he98
   have hzhx100 := he98.size
   replace hf28 := hf28.ext he98
   replace hf29 := hf29.ext he98
   replace hf30 := hf30.ext he98
   refine wl_val ha99 rfl rfl rfl (op_sadd ha99 rfl rfl rfl (by first | omega | (simp only [List.length_append, blS_len, List.length_cons, List.length_nil]; omega))) ?_
   intro a101 ha101; clear ha99 a99
   refine wl_val ha101 rfl rfl rfl (op_assign ha101 rfl rfl) ?_
   intro a102 ha102; clear ha101 a101
   refine wpList_nil ?_
   refine then_n ?_
   refine wp_seq ?_
   refine wp_seq ?_
   refine wp_region_lit ?_
   refine wl_val ha102 rfl rfl rfl (op_assign ha102 rfl rfl) ?_
   intro a103 ha103; clear ha102 a102
   refine wpList_nil ?_
   refine then_n ?_
   refine wp_block ?_
   refine loop_inv (X := Nat × Str) (fun (⟨k, o⟩ : Nat × Str) fr wl => Sl 71 fr [(1, .pointer (some (⟨w0.heap.size, 0, none⟩ : Addr))), (3, v10), (6, St o), (7, .int .i64 ((k : Nat) : Int))] ∧ Ext w0 wl ∧ Box wl w0.heap.size 28 [v_t0, v_t1] ∧ Own shI64 2 w2.heap.size w2.heap.size w11.heap.size wl v10 ((wdS t)) ∧ w97.heap.size ≤ wl.heap.size ∧ (k ≤ t.2.length) ∧ (o.length ≤ 1300 * (k + 1)) ∧ (o ++ rowsS t (t.2.drop k) = txS t)) (fun (⟨k, o⟩ : Nat × Str) => t.2.length - k) (0, ((joinG (([124] : Str)) 0 acc)) ++ (([10] : Str))) ?_ ?_
   ·
    exact ⟨(Sl.cons_ ha103 rfl rfl (Sl.cons_ ha103 rfl rfl (Sl.cons_ ha103 rfl rfl (Sl.cons_ ha103 rfl (int_eq (by omega)) (Sl.nil_ ha103))))), hx100, hf28, hf29, (by omega), (by omega), (by rw [List.length_append, List.length_singleton]; omega), (by unfold txS lineS; rw [hA]; rfl)⟩
   ·
    clear ha103 a103
    rintro ⟨k, o⟩ a108 w104 ⟨ha108, hx105, hf106, hf107, hzl109, hk, ho, hF1⟩
    have hzhx105 := hx105.size
    refine wp_seq ?_
    refine wp_seq ?_
    refine wp_region_lit ?_
    refine wl_val ha108 rfl rfl rfl (op_move ha108 rfl rfl) ?_
    intro a110 ha110; clear ha108 a108
    refine wl_val ha110 rfl rfl rfl (op_fieldAddr (sz := 0) ha110 rfl Try.underlying28 rfl rfl ti23 rfl) ?_
    intro a111 ha111; clear ha110 a110
    refine wl_val ha111 rfl rfl rfl (op_loadF (off := 1) ha111 rfl Try.underlying23 rfl rfl hf106.cells rfl) ?_
    intro a112 ha112; clear ha111 a111
    refine wl_val ha112 rfl rfl rfl (op_len_sl ha112 rfl Try.underlying23 rfl h_t1) ?_
    intro a113 ha113; clear ha112 a112
    refine wl_val ha113 rfl rfl rfl (op_lss ha113 rfl rfl rfl) ?_
    intro a114 ha114; clear ha113 a113
    refine wpList_nil ?_
    refine then_n ?_
    by_cases c115 : ((k : Nat) : Int) < ((t.2.length : Nat) : Int)
    ·
     rw [decide_eq_true c115] at ha114
     refine cond_t ha114 rfl ?_
     refine wp_skip ?_
     refine then_n ?_
     refine wp_seq ?_
     refine wp_block ?_
     refine wp_seq ?_
     refine wp_region_lit ?_
     refine wl_eff ha114 rfl rfl rfl (op_buildSlice (s := shStr) (xs := ([] : List Str)) (cs := []) (vs := []) (S := fun _ => False) (le := w104.heap.size) ha114 rfl pos_shStr Try.underlying22 ti9 rfl rfl (by decide) (by kernel_rfl) rfl (fun _ h => h.elim)) ?_
     rintro v116 w117 ⟨ho118, he119, hob120⟩ a121 ha121; clear ha114 a114
     have hx122 := hx105.trans' he119
     have hzhx122 := he119.size
     replace hf106 := hf106.ext he119
     replace hf107 := hf107.ext he119
     refine wl_val ha121 rfl rfl rfl (op_assign ha121 rfl rfl) ?_
     intro a123 ha123; clear ha121 a121
     refine wpList_nil ?_
     refine then_n ?_
     refine wp_seq ?_
     refine wp_seq ?_
     refine wp_region_lit ?_
     refine wl_val ha123 rfl rfl rfl (op_assign ha123 rfl rfl) ?_
     intro a124 ha124; clear ha123 a123
     refine wpList_nil ?_
     refine then_n ?_
     refine wp_block ?_
     obtain ⟨x125, hx125⟩ := get_ex (xs := t.2) (j := k) (by omega)
     obtain ⟨p126, c127, hi128, hc129, hr130, hs131⟩ := Rds.at_ h_t1 hx125
     obtain ⟨v132, rfl, b133⟩ := inv_shRow hr130
     have hlb133 := b133.length_le
     have hrbx125 := htr _ (List.mem_of_getElem? hx125)
     refine loop_inv (X := Nat × Value × (List Str)) (fun (⟨j, v2, acc2⟩ : Nat × Value × (List Str)) fr wl => Sl 71 fr [(1, .pointer (some (⟨w0.heap.size, 0, none⟩ : Addr))), (3, v10), (4, v2), (6, St o), (7, .int .i64 ((k : Nat) : Int)), (8, .int .i64 ((j : Nat) : Int))] ∧ Ext w0 wl ∧ Box wl w0.heap.size 28 [v_t0, v_t1] ∧ Own shI64 2 w2.heap.size w2.heap.size w11.heap.size wl v10 ((wdS t)) ∧ Own shStr 9 w104.heap.size w104.heap.size wl.heap.size wl v2 acc2 ∧ w117.heap.size ≤ wl.heap.size ∧ (j ≤ x125.length) ∧ (acc2.length = j) ∧ (acc2 ++ rcs t j (x125.drop j) = rcs t 0 x125)) (fun (⟨j, v2, acc2⟩ : Nat × Value × (List Str)) => x125.length - j) (0, v116, ([] : List Str)) ?_ ?_
     ·
      exact ⟨(Sl.cons_ ha124 rfl rfl (Sl.cons_ ha124 rfl rfl (Sl.cons_ ha124 rfl rfl (Sl.cons_ ha124 rfl rfl (Sl.cons_ ha124 rfl rfl (Sl.cons_ ha124 rfl (int_eq (by omega)) (Sl.nil_ ha124))))))), hx122, hf106, hf107, (ho118.fin (by omega) (by omega) (by omega)), (by omega), (by omega), (by rfl), (by rfl)⟩
     ·
      clear ha124 a124
      rintro ⟨j, v2, acc2⟩ a139 w134 ⟨ha139, hx135, hf136, hf137, hf138, hzl140, hj, hl2, hF2⟩
      have hzhx135 := hx135.size
      refine wp_seq ?_
      refine wp_seq ?_
      refine wp_region_lit ?_
      refine wl_val ha139 rfl rfl rfl (op_move ha139 rfl rfl) ?_
      intro a141 ha141; clear ha139 a139
      refine wl_val ha141 rfl rfl rfl (op_move ha141 rfl rfl) ?_
      intro a142 ha142; clear ha141 a141
      refine wl_val ha142 rfl rfl rfl (op_len_sl ha142 rfl Try.underlying41 rfl (hf137.rds pos_shI64)) ?_
      intro a143 ha143; clear ha142 a142
      refine wl_val ha143 rfl rfl rfl (op_lss ha143 rfl rfl rfl) ?_
      intro a144 ha144; clear ha143 a143
      refine wpList_nil ?_
      refine then_n ?_
      by_cases c145 : ((j : Nat) : Int) < ((((wdS t)).length : Nat) : Int)
      ·
       rw [decide_eq_true c145] at ha144
       refine cond_t ha144 rfl ?_
       refine wp_skip ?_
       refine then_n ?_
       refine wp_seq ?_
       refine wp_block ?_
       refine dr_enter (fun wa_ wb_ => Stp wa_ wb_ (Value.ownBlock v2)) follows_mixed ?_
       intro w146 he147
       have hx148 := hx135.trans' he147
       have hzhx148 := he147.size
       replace hf136 := hf136.ext he147
       replace hf137 := hf137.ext he147
       replace hf138 := hf138.ext he147
       have hs149 : Ext w146 w146 := Ext.rfl' _
       refine dr_val (i := 0) ha144 rfl (by kernel_rfl) (by kernel_rfl) (by kernel_rfl) rfl rfl rfl (Stp.of_ext hs149 _) (fun w' hw' => op_move ha144 rfl rfl) ?_
       intro a150 ha150; clear ha144 a144
       refine dr_val (i := 1) ha150 rfl (by kernel_rfl) (by kernel_rfl) (by kernel_rfl) rfl rfl rfl (Stp.of_ext hs149 _) (fun w' hw' => op_fieldAddr (sz := 0) ha150 rfl Try.underlying28 rfl rfl ti23 rfl) ?_
       intro a151 ha151; clear ha150 a150
       refine dr_val (i := 2) ha151 rfl (by kernel_rfl) (by kernel_rfl) (by kernel_rfl) rfl rfl rfl (Stp.of_ext hs149 _) (fun w' hw' => op_loadF (off := 1) ha151 rfl Try.underlying23 rfl rfl (hf136.stp hw' (by intro q hq; first | (have hq0 := hf138.lt q hq; omega) | (intro e; subst e; exact hf138.ne_box hf136 rfl hq))).cells rfl) ?_
       intro a152 ha152; clear ha151 a151
       refine dr_val (i := 3) ha152 rfl (by kernel_rfl) (by kernel_rfl) (by kernel_rfl) rfl rfl rfl (Stp.of_ext hs149 _) (fun w' hw' => op_move ha152 rfl rfl) ?_
       intro a153 ha153; clear ha152 a152
       refine dr_val (i := 4) ha153 rfl (by kernel_rfl) (by kernel_rfl) (by kernel_rfl) rfl rfl rfl (Stp.of_ext hs149 _) (fun w' hw' => op_indexAddr ha153 rfl Try.underlying23 ti41 rfl rfl (by omega) hi128) ?_
       intro a154 ha154; clear ha153 a153
       refine dr_val (i := 5) ha154 rfl (by kernel_rfl) (by kernel_rfl) (by kernel_rfl) rfl rfl rfl (Stp.of_ext hs149 _) (fun w' hw' => op_loadH ha154 rfl Try.underlying41 rfl rfl (hc129.ext (hx148.stp hw' (by intro q hq; have hq0 := hf138.lt q hq; omega))) rfl) ?_
       intro a155 ha155; clear ha154 a154
       refine dr_val (i := 6) ha155 rfl (by kernel_rfl) (by kernel_rfl) (by kernel_rfl) rfl rfl rfl (Stp.of_ext hs149 _) (fun w' hw' => op_move ha155 rfl rfl) ?_
       intro a156 ha156; clear ha155 a155
       obtain ⟨x157, hx157⟩ := get_ex (xs := x125) (j := j) (by omega)
       obtain ⟨p158, c159, hi160, hc161, hr162, hs163⟩ := Rds.at_ b133 hx157
       obtain ⟨rfl, b164⟩ := inv_shI64 hr162
       have hvbx157 := hrbx125.2 _ (List.mem_of_getElem? hx157)
       have hdlx157 := decS_len (n := x157) (by omega)
       refine dr_val (i := 7) ha156 rfl (by kernel_rfl) (by kernel_rfl) (by kernel_rfl) rfl rfl rfl (Stp.of_ext hs149 _) (fun w' hw' => op_indexAddr ha156 rfl Try.underlying41 ti2 rfl rfl (by omega) hi160) ?_
       intro a165 ha165; clear ha156 a156
       refine dr_val (i := 8) ha165 rfl (by kernel_rfl) (by kernel_rfl) (by kernel_rfl) rfl rfl rfl (Stp.of_ext hs149 _) (fun w' hw' => op_loadH ha165 rfl Try.underlying2 rfl rfl (hc161.ext (hx148.stp hw' (by intro q hq; have hq0 := hf138.lt q hq; omega))) rfl) ?_
       intro a166 ha166; clear ha165 a165
       refine dr_val (i := 10) ha166 rfl (by kernel_rfl) (by kernel_rfl) (by kernel_rfl) rfl rfl rfl (Stp.of_ext hs149 _) (fun w' hw' => op_move ha166 rfl rfl) ?_
       intro a167 ha167; clear ha166 a166
       refine dr_val (i := 11) ha167 rfl (by kernel_rfl) (by kernel_rfl) (by kernel_rfl) rfl rfl rfl (Stp.of_ext hs149 _) (fun w' hw' => op_move ha167 rfl rfl) ?_
       intro a168 ha168; clear ha167 a167
       obtain ⟨x169, hx169⟩ := get_ex (xs := (wdS t)) (j := j) (by omega)
       obtain ⟨p170, c171, hi172, hc173, hr174, hs175⟩ := Rds.at_ (hf137.rds pos_shI64) hx169
       obtain ⟨rfl, b176⟩ := inv_shI64 hr174
       obtain ⟨_, _⟩ : _ ∧ _ := hs175
       have hwx169 := wdS_at hx169
       have hwbx169 := wdC_bd g0 (c := j)
       refine dr_val (i := 12) ha168 rfl (by kernel_rfl) (by kernel_rfl) (by kernel_rfl) rfl rfl rfl (Stp.of_ext hs149 _) (fun w' hw' => op_indexAddr ha168 rfl Try.underlying41 ti2 rfl rfl (by omega) hi172) ?_
       intro a177 ha177; clear ha168 a168
       refine dr_two (i := 9) (j := 13) (by kernel_rfl) ?_ ?_
       ·
        refine po_callR ha177 rfl rfl rfl rfl (op_call ha177 rfl cb101 rfl) (c_spec_l01Number _ x157 (by first | assumption | omega | (simp; omega)) (by first | assumption | omega | (simp; omega))) ?_
        rintro v178 w179 he180 rfl a181 ha181; clear ha177 a177
        have hs182 := hs149.trans' he180
        have hx183 := hx148.trans' he180
        have hzhx183 := he180.size
        refine ⟨(Stp.of_ext hs182 _), ?_⟩
        refine dr_one (i := 13) (by kernel_rfl) ?_
        refine po_to ha181 rfl rfl rfl rfl (op_loadH ha181 rfl Try.underlying2 rfl rfl (hc173.ext hs182) rfl) ?_
        intro a184 ha184; clear ha181 a181
        refine ⟨(Stp.of_ext hs182 _), ?_⟩
        refine dr_one (i := 14) (by kernel_rfl) ?_
        refine po_callR ha184 rfl rfl rfl rfl (op_call ha184 rfl cb104 rfl) (c_spec_l31Fill _ ((decS x157)) x169 (true) (by first | assumption | omega | (simp; omega)) (by first | assumption | omega | (simp; omega))) ?_
        rintro v185 w186 he187 rfl a188 ha188; clear ha184 a184
        have hs189 := hs182.trans' he187
        have hx190 := hx183.trans' he187
        have hzhx190 := he187.size
        refine ⟨(Stp.of_ext hs189 _), ?_⟩
        refine dr_one (i := 15) (by kernel_rfl) ?_
        refine po_eff ha188 rfl rfl rfl rfl (op_buildSlice (s := shStr) (xs := [(fillS x169 (true) ((decS x157)))]) (cs := [St ((fillS x169 (true) ((decS x157))))]) (vs := [(0, St ((fillS x169 (true) ((decS x157)))))]) (S := fun _ => False) (le := w186.heap.size) ha188 rfl pos_shStr Try.underlying22 ti9 rfl rfl (by decide) (by kernel_rfl) (Els.single (mk_shStr ((fillS x169 (true) ((decS x157)))) (by first | assumption | omega | (simp only [List.length_append, blS_len]; omega) | exact Nat.le_trans (fillS_len (by omega) (by omega)) (by decide)))) (fun _ h => h.elim)) ?_
        rintro v191 w192 ⟨ho193, he194, hob195⟩ a196 ha196; clear ha188 a188
        have hs197 := hs189.trans' he194
        have hx198 := hx190.trans' he194
        have hzhx198 := he194.size
        refine ⟨(Stp.of_ext hs197 _), ?_⟩
        refine dr_one (i := 16) (by kernel_rfl) ?_
        replace hf136 := hf136.ext hs197
        replace hf137 := hf137.ext hs197
        replace hf138 := hf138.ext hs197
        replace hc173 := hc173.ext hs197
        refine po_eff ha196 rfl rfl rfl rfl (op_append (ts := #[]) (s := shStr) ha196 rfl Try.underlying22 ti9 rfl pos_shStr rfl rfl hf138 (ho193.rds pos_shStr) (by omega) (by omega) (by first | omega | (simp; omega)) (by first | omega | (simp; omega)) (.inl flat_shStr)) ?_
        rintro v199 w200 ⟨ho201, hst202, hob203⟩ a204 ha204; clear ha196 a196
        have hs205 := (Stp.of_ext hs197 (Value.ownBlock v2)).trans' hst202
        have hx206 := hx198.stp hst202 (by intro q hq; have hq0 := hf138.lt q hq; omega)
        have hzhx206 := hst202.size
        replace hf136 := hf136.stp hst202 (by intro q hq; have hq0 := hf138.lt q hq; omega)
        replace hf137 := hf137.stp hst202 (by intro q hq; have hq0 := hf138.lt q hq; omega)
        replace ho193 := ho193.stp hst202 (by intro q hq; have hq0 := hf138.lt q hq; omega)
        have hsp207 : ∀ q, Value.ownBlock v199 = some q → Value.ownBlock v191 ≠ some q := by intro q hq hb; have hq0 := ho193.lt q hb; rcases hob203 with h | h; (rw [h] at hq; first | (have hq1 := hf138.lt q hq; omega)); (rw [h] at hq; cases hq; omega)
        refine ⟨hs205, ?_⟩
        refine dr_val (i := 17) ha204 rfl (by kernel_rfl) (by kernel_rfl) (by kernel_rfl) rfl rfl rfl hs205 (fun w' hw' => op_assign ha204 rfl rfl) ?_
        intro a208 ha208; clear ha204 a204
        refine dr_end (by kernel_rfl) ?_
        refine block_n ?_
        refine then_n ?_
        refine wp_region_lit ?_
        refine wl_val ha208 rfl rfl rfl (op_move ha208 rfl rfl) ?_
        intro a209 ha209; clear ha208 a208
        refine wl_val ha209 rfl rfl rfl ((op_add ha209 rfl rfl rfl).int (IntWalk.i64_in _ (by omega))) ?_
        intro a210 ha210; clear ha209 a209
        refine wl_val ha210 rfl rfl rfl (op_assign ha210 rfl rfl) ?_
        intro a211 ha211; clear ha210 a210
        refine wpList_nil ?_
        refine round_end (x := (j, v2, acc2)) ((j + 1), v199, (acc2 ++ [(fillS x169 (true) ((decS x157)))])) ?_ ?_
        ·
         refine ⟨(Sl.cons_ ha211 rfl rfl (Sl.cons_ ha211 rfl rfl (Sl.cons_ ha211 rfl rfl (Sl.cons_ ha211 rfl rfl (Sl.cons_ ha211 rfl rfl (Sl.cons_ ha211 rfl (int_eq (by omega)) (Sl.nil_ ha211))))))), hx206, hf136, hf137, (ho201.fin (by omega) (by omega) (by omega)), (by omega), (by omega), (by (simp; omega)), (by rw [drop_cons hx157, rcs, ← hwx169] at hF2; rw [← hF2]; simp)⟩
        ·show (x125.length - ((j + 1)) : Nat) < x125.length - j; omega
       ·
        refine po_to ha177 rfl rfl rfl rfl (op_loadH ha177 rfl Try.underlying2 rfl rfl (hc173.ext hs149) rfl) ?_
        intro a212 ha212; clear ha177 a177
        refine ⟨(Stp.of_ext hs149 _), ?_⟩
        refine dr_one (i := 9) (by kernel_rfl) ?_
        refine po_callR ha212 rfl rfl rfl rfl (op_call ha212 rfl cb101 rfl) (c_spec_l01Number _ x157 (by first | assumption | omega | (simp; omega)) (by first | assumption | omega | (simp; omega))) ?_
        rintro v213 w214 he215 rfl a216 ha216; clear ha212 a212
        have hs217 := hs149.trans' he215
        have hx218 := hx148.trans' he215
        have hzhx218 := he215.size
        refine ⟨(Stp.of_ext hs217 _), ?_⟩
        refine dr_one (i := 14) (by kernel_rfl) ?_
        refine po_callR ha216 rfl rfl rfl rfl (op_call ha216 rfl cb104 rfl) (c_spec_l31Fill _ ((decS x157)) x169 (true) (by first | assumption | omega | (simp; omega)) (by first | assumption | omega | (simp; omega))) ?_
        rintro v219 w220 he221 rfl a222 ha222; clear ha216 a216
        have hs223 := hs217.trans' he221
        have hx224 := hx218.trans' he221
        have hzhx224 := he221.size
        refine ⟨(Stp.of_ext hs223 _), ?_⟩
        refine dr_one (i := 15) (by kernel_rfl) ?_
        refine po_eff ha222 rfl rfl rfl rfl (op_buildSlice (s := shStr) (xs := [(fillS x169 (true) ((decS x157)))]) (cs := [St ((fillS x169 (true) ((decS x157))))]) (vs := [(0, St ((fillS x169 (true) ((decS x157)))))]) (S := fun _ => False) (le := w220.heap.size) ha222 rfl pos_shStr Try.underlying22 ti9 rfl rfl (by decide) (by kernel_rfl) (Els.single (mk_shStr ((fillS x169 (true) ((decS x157)))) (by first | assumption | omega | (simp only [List.length_append, blS_len]; omega) | exact Nat.le_trans (fillS_len (by omega) (by omega)) (by decide)))) (fun _ h => h.elim)) ?_
        rintro v225 w226 ⟨ho227, he228, hob229⟩ a230 ha230; clear ha222 a222
        have hs231 := hs223.trans' he228
        have hx232 := hx224.trans' he228
        have hzhx232 := he228.size
        refine ⟨(Stp.of_ext hs231 _), ?_⟩
        refine dr_one (i := 16) (by kernel_rfl) ?_
        replace hf136 := hf136.ext hs231
        replace hf137 := hf137.ext hs231
        replace hf138 := hf138.ext hs231
        replace hc173 := hc173.ext hs231
        refine po_eff ha230 rfl rfl rfl rfl (op_append (ts := #[]) (s := shStr) ha230 rfl Try.underlying22 ti9 rfl pos_shStr rfl rfl hf138 (ho227.rds pos_shStr) (by omega) (by omega) (by first | omega | (simp; omega)) (by first | omega | (simp; omega)) (.inl flat_shStr)) ?_
        rintro v233 w234 ⟨ho235, hst236, hob237⟩ a238 ha238; clear ha230 a230
        have hs239 := (Stp.of_ext hs231 (Value.ownBlock v2)).trans' hst236
        have hx240 := hx232.stp hst236 (by intro q hq; have hq0 := hf138.lt q hq; omega)
        have hzhx240 := hst236.size
        replace hf136 := hf136.stp hst236 (by intro q hq; have hq0 := hf138.lt q hq; omega)
        replace hf137 := hf137.stp hst236 (by intro q hq; have hq0 := hf138.lt q hq; omega)
        replace ho227 := ho227.stp hst236 (by intro q hq; have hq0 := hf138.lt q hq; omega)
        have hsp241 : ∀ q, Value.ownBlock v233 = some q → Value.ownBlock v225 ≠ some q := by intro q hq hb; have hq0 := ho227.lt q hb; rcases hob237 with h | h; (rw [h] at hq; first | (have hq1 := hf138.lt q hq; omega)); (rw [h] at hq; cases hq; omega)
        refine ⟨hs239, ?_⟩
        refine dr_val (i := 17) ha238 rfl (by kernel_rfl) (by kernel_rfl) (by kernel_rfl) rfl rfl rfl hs239 (fun w' hw' => op_assign ha238 rfl rfl) ?_
        intro a242 ha242; clear ha238 a238
        refine dr_end (by kernel_rfl) ?_
        refine block_n ?_
        refine then_n ?_
        refine wp_region_lit ?_
        refine wl_val ha242 rfl rfl rfl (op_move ha242 rfl rfl) ?_
        intro a243 ha243; clear ha242 a242
        refine wl_val ha243 rfl rfl rfl ((op_add ha243 rfl rfl rfl).int (IntWalk.i64_in _ (by omega))) ?_
        intro a244 ha244; clear ha243 a243
        refine wl_val ha244 rfl rfl rfl (op_assign ha244 rfl rfl) ?_
        intro a245 ha245; clear ha244 a244
        refine wpList_nil ?_
        refine round_end (x := (j, v2, acc2)) ((j + 1), v233, (acc2 ++ [(fillS x169 (true) ((decS x157)))])) ?_ ?_
        ·
         refine ⟨(Sl.cons_ ha245 rfl rfl (Sl.cons_ ha245 rfl rfl (Sl.cons_ ha245 rfl rfl (Sl.cons_ ha245 rfl rfl (Sl.cons_ ha245 rfl rfl (Sl.cons_ ha245 rfl (int_eq (by omega)) (Sl.nil_ ha245))))))), hx240, hf136, hf137, (ho235.fin (by omega) (by omega) (by omega)), (by omega), (by omega), (by (simp; omega)), (by rw [drop_cons hx157, rcs, ← hwx169] at hF2; rw [← hF2]; simp)⟩
        ·show (x125.length - ((j + 1)) : Nat) < x125.length - j; omega
      ·
       rw [decide_eq_false c145] at ha144
       refine cond_f ha144 rfl ?_
       refine wp_exit ?_
       refine then_e ?_
       refine then_e ?_
       refine block_hit ?_
       refine then_n ?_
       have hB : acc2 = rcs t 0 x125 := (by rw [drop_nil (by omega), rcs, List.append_nil] at hF2; exact hF2)
       have hBb := row_bd g0 (List.mem_of_getElem? hx125)
       rw [← hB] at hBb
       refine wp_region_lit ?_
       refine wl_val ha144 rfl rfl rfl (op_move ha144 rfl rfl) ?_
       intro a246 ha246; clear ha144 a144
       refine wl_val ha246 rfl rfl rfl (op_move ha246 rfl rfl) ?_
       intro a247 ha247; clear ha246 a246
       refine wl_callR ha247 rfl rfl rfl (op_call ha247 rfl cb105 rfl) (c_spec_l01Words _ v2 acc2 (([124] : Str)) (hf138.rds pos_shStr) (by first | assumption | omega | (simp; omega))) ?_
       rintro v248 w249 he250 rfl a251 ha251; clear ha247 a247
       have hx252 := hx135.trans' he250
       have hzhx252 := he250.size
       replace hf136 := hf136.ext he250
       replace hf137 := hf137.ext he250
       replace hf138 := hf138.ext he250
       refine wl_val ha251 rfl rfl rfl (op_sadd ha251 rfl rfl rfl (by first | omega | (simp only [List.length_append, blS_len, List.length_cons, List.length_nil]; omega))) ?_
       intro a253 ha253; clear ha251 a251
       refine wl_val ha253 rfl rfl rfl (op_sadd ha253 rfl rfl rfl (by first | omega | (simp only [List.length_append, blS_len, List.length_cons, List.length_nil]; omega))) ?_
       intro a254 ha254; clear ha253 a253
       refine wl_val ha254 rfl rfl rfl (op_assign ha254 rfl rfl) ?_
       intro a255 ha255; clear ha254 a254
       refine wpList_nil ?_
       refine block_n ?_
       refine then_n ?_
       refine wp_region_lit ?_
       refine wl_val ha255 rfl rfl rfl (op_move ha255 rfl rfl) ?_
       intro a256 ha256; clear ha255 a255
       refine wl_val ha256 rfl rfl rfl ((op_add ha256 rfl rfl rfl).int (IntWalk.i64_in _ (by omega))) ?_
       intro a257 ha257; clear ha256 a256
       refine wl_val ha257 rfl rfl rfl (op_assign ha257 rfl rfl) ?_
       intro a258 ha258; clear ha257 a257
       refine wpList_nil ?_
       refine round_end (x := (k, o)) ((k + 1), (o ++ ((joinG (([124] : Str)) 0 acc2))) ++ (([10] : Str))) ?_ ?_
       ·
        refine ⟨(Sl.cons_ ha258 rfl rfl (Sl.cons_ ha258 rfl rfl (Sl.cons_ ha258 rfl rfl (Sl.cons_ ha258 rfl (int_eq (by omega)) (Sl.nil_ ha258))))), hx252, hf136, hf137, (by omega), (by omega), (by simp only [List.length_append, List.length_singleton]; omega), (by rw [drop_cons hx125, rowsS] at hF1; rw [← hF1, lineS, hB]; simp)⟩
       ·show (t.2.length - ((k + 1)) : Nat) < t.2.length - k; omega
    ·
     rw [decide_eq_false c115] at ha114
     refine cond_f ha114 rfl ?_
     refine wp_exit ?_
     refine then_e ?_
     refine then_e ?_
     refine block_hit ?_
     refine then_n ?_
     refine wp_seq ?_
     refine wp_region_lit ?_
     refine wl_val ha114 rfl rfl rfl (op_move ha114 rfl rfl) ?_
     intro a259 ha259; clear ha114 a114
     refine wl_val ha259 rfl rfl rfl (op_assign ha259 rfl rfl) ?_
     intro a260 ha260; clear ha259 a259
     refine wpList_nil ?_
     refine then_n ?_
     refine wp_ret ?_
     refine ret1 ha260 rfl rfl ?_
     clear ha260 a260
     exact ret_mk hx105 (congrArg St (by rw [drop_nil (by omega), rowsS, List.append_nil] at hF1; exact hF1))

theorem c_impl_TableText (w0 : World) (v_t0 : Value) (v_t1 : Value) (t : List Str × List (List Int)) {S_t0 : Nat → Prop} {S_t1 : Nat → Prop} (h_t0 : Rds shStr S_t0 w0 v_t0 t.1) (h_t1 : Rds shRow S_t1 w0 v_t1 t.2) :
  Calls Try.prog 47 #[.agg #[v_t0, v_t1]] w0 (Ret w0 (fun v _ => v = .tuple #[St (txT t), .int .i64 (if tabB t then 0 else 1)])) := by
 refine enter (N := 9) Try.func47 rfl rfl rfl ?_
 intro a0 ha0
 have hx0 := Ext.rfl' w0
 have hl_t0 := h_t0.length_le
 have hl_t1 := h_t1.length_le
 refine wp_seq ?_
 refine wp_region_lit ?_
 refine wl_eff ha0 rfl rfl rfl (op_box' ha0 rfl rfl rfl) ?_
 rintro _ w2 ⟨rfl, he3, hb4, hz5⟩ a6 ha6; clear ha0 a0
 have hx7 := hx0.trans' he3
 have hzhx7 := he3.size
 refine wl_val ha6 rfl rfl rfl (op_assign ha6 rfl rfl) ?_
 intro a8 ha8; clear ha6 a6
 refine wl_val ha8 rfl rfl rfl (op_assign ha8 rfl rfl) ?_
 intro a9 ha9; clear ha8 a8
 refine wpList_nil ?_
 refine then_n ?_
 refine wp_seq ?_
 refine wp_seq ?_
 refine wp_region_lit ?_
 refine wl_val ha9 rfl rfl rfl (op_loadS ha9 rfl Try.underlying28 ti28 rfl rfl hb4.cells) ?_
 intro a10 ha10; clear ha9 a9
 refine wl_callR ha10 rfl rfl rfl (op_call ha10 rfl cb19 rfl) (c_impl_IsTable _ v_t0 v_t1 t (h_t0.ext pos_shStr hx7) (h_t1.ext pos_shRow hx7)) ?_
 rintro v11 w12 he13 rfl a14 ha14; clear ha10 a10
 have hx15 := hx7.trans' he13
 have hzhx15 := he13.size
 replace hb4 := hb4.ext he13
 refine wl_val ha14 rfl rfl rfl (op_not ha14 rfl rfl) ?_
 intro a16 ha16; clear ha14 a14
 refine wpList_nil ?_
 refine then_n ?_
 rcases Bool.eq_false_or_eq_true (tabB t) with c17 | c17
 ·
  rw [c17] at ha16
  have htbc17 := tab_bd c17
  have htrc17 := tab_rows c17
  refine cond_f ha16 rfl ?_
  refine wp_skip ?_
  refine then_n ?_
  refine wp_seq ?_
  refine wp_region_lit ?_
  refine wl_val ha16 rfl rfl rfl (op_loadS ha16 rfl Try.underlying28 ti28 rfl rfl hb4.cells) ?_
  intro a18 ha18; clear ha16 a16
  refine wl_callR ha18 rfl rfl rfl (op_call ha18 rfl cb89 rfl) (c_impl_tableText _ v_t0 v_t1 t (h_t0.ext pos_shStr hx15) (h_t1.ext pos_shRow hx15) (by first | assumption | omega | (simp; omega))) ?_
  rintro v19 w20 he21 rfl a22 ha22; clear ha18 a18
  have hx23 := hx15.trans' he21
  have hzhx23 := he21.size
  replace hb4 := hb4.ext he21
  refine wl_val ha22 rfl rfl rfl (op_assign ha22 rfl rfl) ?_
  intro a24 ha24; clear ha22 a22
  refine wl_val ha24 rfl rfl rfl (op_assign ha24 rfl rfl) ?_
  intro a25 ha25; clear ha24 a24
  refine wpList_nil ?_
  refine then_n ?_
  refine wp_ret ?_
  refine ret2 ha25 rfl rfl rfl ?_
  clear ha25 a25
  exact ret_mk hx23 (tup2_eq (congrArg St (by first | exact (txT_ok c17).symm | exact (txT_no (by simp [c17])).symm)) (int_eq (by simp [c17])))
 ·
  rw [c17] at ha16
  refine cond_t ha16 rfl ?_
  refine wp_seq ?_
  refine wp_region_lit ?_
  refine wl_val ha16 rfl rfl rfl (op_assign ha16 rfl rfl) ?_
  intro a26 ha26; clear ha16 a16
  refine wl_val ha26 rfl rfl rfl (op_assign ha26 rfl rfl) ?_
  intro a27 ha27; clear ha26 a26
  refine wpList_nil ?_
  refine then_n ?_
  refine wp_ret ?_
  refine then_r ?_
  refine ret2 ha27 rfl rfl rfl ?_
  clear ha27 a27
  exact ret_mk hx15 (tup2_eq (congrArg St (by first | exact (txT_ok c17).symm | exact (txT_no (by simp [c17])).symm)) (int_eq (by simp [c17])))

theorem c_spec_TableText (w0 : World) (v_t0 : Value) (v_t1 : Value) (t : List Str × List (List Int)) {S_t0 : Nat → Prop} {S_t1 : Nat → Prop} (h_t0 : Rds shStr S_t0 w0 v_t0 t.1) (h_t1 : Rds shRow S_t1 w0 v_t1 t.2) :
  Calls Try.prog 46 #[.agg #[v_t0, v_t1]] w0 (Ret w0 (fun v _ => v = .tuple #[St (txT t), .int .i64 (if tabB t then 0 else 1)])) := by
 refine enter (N := 12) Try.func46 rfl rfl rfl ?_
 intro a0 ha0
 have hx0 := Ext.rfl' w0
 have hl_t0 := h_t0.length_le
 have hl_t1 := h_t1.length_le
 refine wp_seq ?_
 refine wp_region_lit ?_
 refine wl_eff ha0 rfl rfl rfl (op_box' ha0 rfl rfl rfl) ?_
 rintro _ w2 ⟨rfl, he3, hb4, hz5⟩ a6 ha6; clear ha0 a0
 have hx7 := hx0.trans' he3
 have hzhx7 := he3.size
 refine wl_val ha6 rfl rfl rfl (op_assign ha6 rfl rfl) ?_
 intro a8 ha8; clear ha6 a6
 refine wl_val ha8 rfl rfl rfl (op_assign ha8 rfl rfl) ?_
 intro a9 ha9; clear ha8 a8
 refine wpList_nil ?_
 refine then_n ?_
 refine wp_seq ?_
 refine wp_region_lit ?_
 refine wl_val ha9 rfl rfl rfl (op_loadS ha9 rfl Try.underlying28 ti28 rfl rfl hb4.cells) ?_
 intro a10 ha10; clear ha9 a9
 refine wl_callR ha10 rfl rfl rfl (op_call ha10 rfl cb69 rfl) (c_spec_l31Code _ v_t0 v_t1 t (0 : Int) (h_t0.ext pos_shStr hx7) (h_t1.ext pos_shRow hx7)) ?_
 rintro v11 w12 he13 rfl a14 ha14; clear ha10 a10
 have hx15 := hx7.trans' he13
 have hzhx15 := he13.size
 replace hb4 := hb4.ext he13
 refine wl_val ha14 rfl rfl rfl (op_assign ha14 rfl rfl) ?_
 intro a16 ha16; clear ha14 a14
 refine wpList_nil ?_
 refine then_n ?_
 refine wp_seq ?_
 refine wp_seq ?_
 refine wp_region_lit ?_
 refine wl_val ha16 rfl rfl rfl (op_move ha16 rfl rfl) ?_
 intro a17 ha17; clear ha16 a16
 refine wl_val ha17 rfl rfl rfl ((op_neq ha17 rfl rfl rfl).to (congrArg Value.bool decide_not)) ?_
 intro a18 ha18; clear ha17 a17
 refine wpList_nil ?_
 refine then_n ?_
 by_cases c19 : (cdT t (0 : Int) : Int) = (0 : Int)
 ·
  rw [decide_eq_true c19] at ha18
  obtain ⟨hk1c19, hk2c19⟩ := cdT_ok c19
  have htbc19 := tab_bd hk1c19
  have htrc19 := tab_rows hk1c19
  have hcbc19 := col_bd hk2c19
  refine cond_f ha18 rfl ?_
  refine wp_skip ?_
  refine then_n ?_
  refine wp_seq ?_
  refine wp_region_lit ?_
  refine wl_val ha18 rfl rfl rfl (op_loadS ha18 rfl Try.underlying28 ti28 rfl rfl hb4.cells) ?_
  intro a20 ha20; clear ha18 a18
  refine wl_callR ha20 rfl rfl rfl (op_call ha20 rfl cb88 rfl) (c_spec_l31Text _ v_t0 v_t1 t (h_t0.ext pos_shStr hx15) (h_t1.ext pos_shRow hx15) (by first | assumption | omega | (simp; omega))) ?_
  rintro v21 w22 he23 rfl a24 ha24; clear ha20 a20
  have hx25 := hx15.trans' he23
  have hzhx25 := he23.size
  replace hb4 := hb4.ext he23
  refine wl_val ha24 rfl rfl rfl (op_assign ha24 rfl rfl) ?_
  intro a26 ha26; clear ha24 a24
  refine wl_val ha26 rfl rfl rfl (op_assign ha26 rfl rfl) ?_
  intro a27 ha27; clear ha26 a26
  refine wpList_nil ?_
  refine then_n ?_
  refine wp_ret ?_
  refine ret2 ha27 rfl rfl rfl ?_
  clear ha27 a27
  exact ret_mk hx25 (tup2_eq (congrArg St (by exact (txT_ok hk1c19).symm)) (int_eq (by rw [if_pos hk1c19])))
 ·
  rw [decide_eq_false c19] at ha18
  refine cond_t ha18 rfl ?_
  refine wp_seq ?_
  refine wp_region_lit ?_
  refine wl_val ha18 rfl rfl rfl (op_move ha18 rfl rfl) ?_
  intro a28 ha28; clear ha18 a18
  refine wl_val ha28 rfl rfl rfl (op_assign ha28 rfl rfl) ?_
  intro a29 ha29; clear ha28 a28
  refine wl_val ha29 rfl rfl rfl (op_assign ha29 rfl rfl) ?_
  intro a30 ha30; clear ha29 a29
  refine wpList_nil ?_
  refine then_n ?_
  refine wp_ret ?_
  refine then_r ?_
  refine ret2 ha30 rfl rfl rfl ?_
  clear ha30 a30
  exact ret_mk hx15 (tup2_eq (congrArg St (by exact (txT_no (fun hq => c19 ((cd0 t).trans (if_pos hq)))).symm)) (int_eq (by rw [if_neg (fun hq => c19 ((cd0 t).trans (if_pos hq)))]; exact (cd0 t).trans (if_neg (fun hq => c19 ((cd0 t).trans (if_pos hq)))))))


end Go.Proofs.Ytjpldgicibnkcaa
