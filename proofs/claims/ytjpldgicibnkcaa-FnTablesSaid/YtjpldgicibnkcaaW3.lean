/- The widths of columns. -/
import Derived.Test.YtjpldgicibnkcaaW2
import Derived.Test.YtjpldgicibnkcaaD1
namespace Go.Proofs.Ytjpldgicibnkcaa
open Go Go.RowKit

def wdF (c : Nat) : List (List Int) → Int → Int
  | [], w => w
  | r :: rs, w => wdF c rs (max w ((decS (rowC c r)).length : Nat))
def wdC (t : Tab) (c : Nat) : Int := match t.1[c]? with
  | none => 0
  | some h => wdF c t.2 (h.length : Nat)
def wdU (t : Tab) : Nat → List Int
  | 0 => []
  | i+1 => wdU t i ++ [wdC t i]
/-- The widths of all columns. -/
def wdS (t : Tab) : List Int := wdU t t.1.length
def wdT (t : Tab) : List Int := if tabB t then wdS t else []
theorem wdU_len (t : Tab) : ∀ i, (wdU t i).length = i
  | 0 => rfl
  | i+1 => by rw [wdU, List.length_append, wdU_len t i]; rfl
theorem wdS_len (t : Tab) : (wdS t).length = t.1.length := wdU_len t _
theorem wdT_len (t : Tab) : (wdT t).length ≤ 6 := by
  unfold wdT
  split
  · have := tab_bd ‹_›; rw [wdS_len]; omega
  · simp
theorem wdT_ok {t : Tab} (h : tabB t = true) : wdT t = wdS t := by unfold wdT; rw [if_pos h]
theorem wdT_no {t : Tab} (h : ¬ tabB t = true) : wdT t = [] := by unfold wdT; rw [if_neg h]
theorem wdC_eq {t : Tab} {c : Nat} {h : Str} (e : t.1[c]? = some h) : wdC t c = wdF c t.2 (h.length : Nat) := by unfold wdC; rw [e]
theorem wdF_bd (c : Nat) : ∀ (rs : List (List Int)) (w : Int), 0 ≤ w ∧ w ≤ 100 → (∀ r ∈ rs, ∀ n ∈ r, -1000000000000 ≤ n ∧ n ≤ 1000000000000) → 0 ≤ wdF c rs w ∧ wdF c rs w ≤ 100
  | [], w, h, _ => h
  | r :: rs, w, h, hr => by
    have h1 : (decS (rowC c r)).length ≤ 20 := by
      unfold rowC
      cases e : r[(c : Int).toNat]? with
      | none => exact decS_len (by simp)
      | some n => have h2 := hr r (List.mem_cons_self ..) n (List.mem_of_getElem? e); exact decS_len (by simp only [Option.getD_some]; omega)
    exact wdF_bd c rs _ (by omega) (fun r' h' => hr r' (List.mem_cons_of_mem _ h'))
theorem wdU_get (t : Tab) : ∀ (i : Nat) (c : Nat), c < i → (wdU t i)[c]? = some (wdC t c)
  | i+1, c, h => by
    rw [wdU]
    by_cases hc : c < i
    · rw [List.getElem?_append_left (by rw [wdU_len]; exact hc)]; exact wdU_get t i c hc
    · rw [List.getElem?_append_right (by rw [wdU_len]; omega), wdU_len, show c - i = 0 by omega, show c = i by omega]; rfl

theorem c_impl_widthsOf (w0 : World) (v_t0 : Value) (v_t1 : Value) (t : List Str × List (List Int)) {S_t0 : Nat → Prop} {S_t1 : Nat → Prop} (h_t0 : Rds shStr S_t0 w0 v_t0 t.1) (h_t1 : Rds shRow S_t1 w0 v_t1 t.2) (g0 : tabB t = true) :
  Calls Try.prog 73 #[.agg #[v_t0, v_t1]] w0 (Ret w0 (fun v w1 => Own shI64 2 w0.heap.size w0.heap.size w1.heap.size w1 v (wdS t))) := by
 refine enter (N := 41) Try.func73 rfl rfl rfl ?_
 intro a0 ha0
 have hx0 := Ext.rfl' w0
 have hl_t0 := h_t0.length_le
 have hl_t1 := h_t1.length_le
 have htr := tab_rows g0
 have htw := tab_heads g0
 have htb := tab_bd g0
 refine wp_seq ?_
 refine wp_region_lit ?_
 refine wl_eff ha0 rfl rfl rfl (op_box' ha0 rfl rfl rfl) ?_
 rintro _ w2 ⟨rfl, he3, hb4, hz5⟩ a6 ha6; clear ha0 a0
 have hx7 := hx0.trans' he3
 have hzhx7 := he3.size
 refine wl_val ha6 rfl rfl rfl (op_assign ha6 rfl rfl) ?_
 intro a8 ha8; clear ha6 a6
 refine wpList_nil ?_
 refine then_n ?_
 refine wp_seq ?_
 refine wp_region_lit ?_
 refine wl_val ha8 rfl rfl rfl (op_assign ha8 rfl rfl) ?_
 intro a9 ha9; clear ha8 a8
 refine wpList_nil ?_
 refine then_n ?_
 refine wp_seq ?_
 refine wp_seq ?_
 refine wp_region_lit ?_
 refine wl_val ha9 rfl rfl rfl (op_fieldAddr (sz := 0) ha9 rfl Try.underlying28 rfl rfl ti22 rfl) ?_
 intro a10 ha10; clear ha9 a9
 refine wl_val ha10 rfl rfl rfl (op_loadF (off := 0) ha10 rfl Try.underlying22 rfl rfl hb4.cells rfl) ?_
 intro a11 ha11; clear ha10 a10
 refine wl_val ha11 rfl rfl rfl (op_len_sl ha11 rfl Try.underlying22 rfl h_t0) ?_
 intro a12 ha12; clear ha11 a11
 refine wl_val ha12 rfl rfl rfl (op_move ha12 rfl rfl) ?_
 intro a13 ha13; clear ha12 a12
 refine wpList_nil ?_
 refine then_n ?_
 refine wp_block ?_
 refine loop_inv (X := Nat × Value × (List Int)) (fun (⟨i, v, acc⟩ : Nat × Value × (List Int)) fr wl => Sl 41 fr [(1, .pointer (some (⟨w0.heap.size, 0, none⟩ : Addr))), (3, v), (10, v_t0), (11, .int .i64 ((t.1.length : Nat) : Int)), (12, .int .i64 ((i : Nat) : Int))] ∧ Ext w0 wl ∧ Box wl w0.heap.size 28 [v_t0, v_t1] ∧ Own shI64 2 w2.heap.size w2.heap.size wl.heap.size wl v acc ∧ w2.heap.size ≤ wl.heap.size ∧ (i ≤ t.1.length) ∧ (acc.length = i) ∧ (acc = wdU t i)) (fun (⟨i, v, acc⟩ : Nat × Value × (List Int)) => t.1.length - i) (0, (.slice none 0 0), []) ?_ ?_
 ·
  exact ⟨(Sl.cons_ ha13 rfl rfl (Sl.cons_ ha13 rfl rfl (Sl.cons_ ha13 rfl rfl (Sl.cons_ ha13 rfl rfl (Sl.cons_ ha13 rfl (int_eq (by omega)) (Sl.nil_ ha13)))))), hx7, hb4, (Own.nil _ _ _ _ _ _), (by omega), (by omega), (by rfl), (by rfl)⟩
 ·
  clear ha13 a13
  rintro ⟨i, v, acc⟩ a18 w14 ⟨ha18, hx15, hf16, hf17, hzl19, hi, hl, hF⟩
  have hzhx15 := hx15.size
  refine wp_seq ?_
  refine wp_region_lit ?_
  refine wl_val ha18 rfl rfl rfl (op_lss ha18 rfl rfl rfl) ?_
  intro a20 ha20; clear ha18 a18
  refine wpList_nil ?_
  refine then_n ?_
  refine wp_seq ?_
  by_cases c21 : ((i : Nat) : Int) < ((t.1.length : Nat) : Int)
  ·
   rw [decide_eq_true c21] at ha20
   refine cond_t ha20 rfl ?_
   refine wp_skip ?_
   refine then_n ?_
   refine wp_seq ?_
   refine wp_block ?_
   refine wp_seq ?_
   refine wp_region_lit ?_
   refine wl_val ha20 rfl rfl rfl (op_move ha20 rfl rfl) ?_
   intro a22 ha22; clear ha20 a20
   obtain ⟨x23, hx23⟩ := get_ex (xs := t.1) (j := i) (by omega)
   obtain ⟨p24, c25, hi26, hc27, hr28, hs29⟩ := Rds.at_ h_t0 hx23
   obtain ⟨rfl, b30⟩ := inv_shStr hr28
   refine wl_val ha22 rfl rfl rfl (op_indexAddr ha22 rfl Try.underlying22 ti9 rfl rfl (by omega) hi26) ?_
   intro a31 ha31; clear ha22 a22
   refine wl_val ha31 rfl rfl rfl (op_loadH ha31 rfl Try.underlying9 rfl rfl (hc27.ext hx15) rfl) ?_
   intro a32 ha32; clear ha31 a31
   refine wl_val ha32 rfl rfl rfl (op_assign ha32 rfl rfl) ?_
   intro a33 ha33; clear ha32 a32
   refine wl_val ha33 rfl rfl rfl (op_assign ha33 rfl rfl) ?_
   intro a34 ha34; clear ha33 a33
   refine wpList_nil ?_
   refine then_n ?_
   refine wp_seq ?_
   refine wp_region_lit ?_
   refine wl_val ha34 rfl rfl rfl (op_move ha34 rfl rfl) ?_
   intro a35 ha35; clear ha34 a34
   refine wl_val ha35 rfl rfl rfl (op_len_str ha35 rfl Try.underlying9 rfl) ?_
   intro a36 ha36; clear ha35 a35
   refine wl_val ha36 rfl rfl rfl (op_assign ha36 rfl rfl) ?_
   intro a37 ha37; clear ha36 a36
   refine wpList_nil ?_
   refine then_n ?_
   refine wp_seq ?_
   refine wp_seq ?_
   refine wp_region_lit ?_
   refine wl_val ha37 rfl rfl rfl (op_fieldAddr (sz := 0) ha37 rfl Try.underlying28 rfl rfl ti23 rfl) ?_
   intro a38 ha38; clear ha37 a37
   refine wl_val ha38 rfl rfl rfl (op_loadF (off := 1) ha38 rfl Try.underlying23 rfl rfl hf16.cells rfl) ?_
   intro a39 ha39; clear ha38 a38
   refine wl_val ha39 rfl rfl rfl (op_len_sl ha39 rfl Try.underlying23 rfl h_t1) ?_
   intro a40 ha40; clear ha39 a39
   refine wl_val ha40 rfl rfl rfl (op_move ha40 rfl rfl) ?_
   intro a41 ha41; clear ha40 a40
   refine wpList_nil ?_
   refine then_n ?_
   refine wp_block ?_
   refine loop_inv (X := Nat × Int) (fun (⟨k, w⟩ : Nat × Int) fr wl => Sl 41 fr [(1, .pointer (some (⟨w0.heap.size, 0, none⟩ : Addr))), (3, v), (4, .int .i64 ((i : Nat) : Int)), (6, .int .i64 w), (10, v_t0), (11, .int .i64 ((t.1.length : Nat) : Int)), (12, .int .i64 ((i : Nat) : Int)), (20, v_t1), (21, .int .i64 ((t.2.length : Nat) : Int)), (22, .int .i64 ((k : Nat) : Int))] ∧ Ext w0 wl ∧ Box wl w0.heap.size 28 [v_t0, v_t1] ∧ Own shI64 2 w2.heap.size w2.heap.size w14.heap.size wl v acc ∧ w14.heap.size ≤ wl.heap.size ∧ (k ≤ t.2.length) ∧ (0 ≤ w) ∧ (w ≤ 100) ∧ (wdF i (t.2.drop k) w = wdC t i)) (fun (⟨k, w⟩ : Nat × Int) => t.2.length - k) (0, ((x23.length : Nat) : Int)) ?_ ?_
   ·
    exact ⟨(Sl.cons_ ha41 rfl rfl (Sl.cons_ ha41 rfl rfl (Sl.cons_ ha41 rfl rfl (Sl.cons_ ha41 rfl (int_eq (by omega)) (Sl.cons_ ha41 rfl rfl (Sl.cons_ ha41 rfl rfl (Sl.cons_ ha41 rfl rfl (Sl.cons_ ha41 rfl rfl (Sl.cons_ ha41 rfl rfl (Sl.cons_ ha41 rfl (int_eq (by omega)) (Sl.nil_ ha41))))))))))), hx15, hf16, hf17, (by omega), (by omega), (by omega), (by have h5 := wordB_len (htw _ (List.mem_of_getElem? hx23)); omega), (by (rw [wdC_eq hx23]; rfl))⟩
   ·
    clear ha41 a41
    rintro ⟨k, w⟩ a46 w42 ⟨ha46, hx43, hf44, hf45, hzl47, hk, hw0, hw1, hG⟩
    have hzhx43 := hx43.size
    refine wp_seq ?_
    refine wp_region_lit ?_
    refine wl_val ha46 rfl rfl rfl (op_lss ha46 rfl rfl rfl) ?_
    intro a48 ha48; clear ha46 a46
    refine wpList_nil ?_
    refine then_n ?_
    refine wp_seq ?_
    by_cases c49 : ((k : Nat) : Int) < ((t.2.length : Nat) : Int)
    ·
     rw [decide_eq_true c49] at ha48
     refine cond_t ha48 rfl ?_
     refine wp_skip ?_
     refine then_n ?_
     refine wp_seq ?_
     refine wp_block ?_
     refine wp_seq ?_
     refine wp_region_lit ?_
     obtain ⟨x50, hx50⟩ := get_ex (xs := t.2) (j := k) (by omega)
     obtain ⟨p51, c52, hi53, hc54, hr55, hs56⟩ := Rds.at_ h_t1 hx50
     obtain ⟨v57, rfl, b58⟩ := inv_shRow hr55
     have hlb58 := b58.length_le
     have hrbx50 := htr _ (List.mem_of_getElem? hx50)
     refine wl_val ha48 rfl rfl rfl (op_indexAddr ha48 rfl Try.underlying23 ti41 rfl rfl (by omega) hi53) ?_
     intro a59 ha59; clear ha48 a48
     refine wl_val ha59 rfl rfl rfl (op_loadH ha59 rfl Try.underlying41 rfl rfl (hc54.ext hx43) rfl) ?_
     intro a60 ha60; clear ha59 a59
     refine wl_val ha60 rfl rfl rfl (op_assign ha60 rfl rfl) ?_
     intro a61 ha61; clear ha60 a60
     refine wpList_nil ?_
     refine then_n ?_
     refine wp_region_lit ?_
     refine wl_val ha61 rfl rfl rfl (op_move ha61 rfl rfl) ?_
     intro a62 ha62; clear ha61 a61
     refine wl_val ha62 rfl rfl rfl (op_move ha62 rfl rfl) ?_
     intro a63 ha63; clear ha62 a62
     refine wl_val ha63 rfl rfl rfl (op_move ha63 rfl rfl) ?_
     intro a64 ha64; clear ha63 a63
     obtain ⟨x65, hx65⟩ := get_ex (xs := x50) (j := i) (by omega)
     obtain ⟨p66, c67, hi68, hc69, hr70, hs71⟩ := Rds.at_ b58 hx65
     obtain ⟨rfl, b72⟩ := inv_shI64 hr70
     have hvbx65 := hrbx50.2 _ (List.mem_of_getElem? hx65)
     refine wl_val ha64 rfl rfl rfl (op_indexAddr ha64 rfl Try.underlying41 ti2 rfl rfl (by omega) hi68) ?_
     intro a73 ha73; clear ha64 a64
     refine wl_val ha73 rfl rfl rfl (op_loadH ha73 rfl Try.underlying2 rfl rfl (hc69.ext hx43) rfl) ?_
     intro a74 ha74; clear ha73 a73
     refine wl_callR ha74 rfl rfl rfl (op_call ha74 rfl cb102 rfl) (c_impl_decimal _ x65 (by first | assumption | omega | (simp; omega) | (simp [mkN_length]; omega)) (by first | assumption | omega | (simp; omega) | (simp [mkN_length]; omega))) ?_
     rintro v75 w76 he77 rfl a78 ha78; clear ha74 a74
     have hx79 := hx43.trans' he77
     have hzhx79 := he77.size
     replace hf44 := hf44.ext he77
     replace hf45 := hf45.ext he77
     refine wl_val ha78 rfl rfl rfl (op_len_str ha78 rfl Try.underlying9 rfl) ?_
     intro a80 ha80; clear ha78 a78
     refine wl_val ha80 rfl rfl rfl (op_max ha80 rfl rfl rfl) ?_
     intro a81 ha81; clear ha80 a80
     refine wl_val ha81 rfl rfl rfl (op_assign ha81 rfl rfl) ?_
     intro a82 ha82; clear ha81 a81
     refine wpList_nil ?_
     refine block_n ?_
     refine then_n ?_
     refine wp_region_lit ?_
     refine wl_val ha82 rfl rfl rfl ((op_add ha82 rfl rfl rfl).int (IntWalk.i64_in _ (by omega))) ?_
     intro a83 ha83; clear ha82 a82
     refine wl_val ha83 rfl rfl rfl (op_move ha83 rfl rfl) ?_
     intro a84 ha84; clear ha83 a83
     refine wpList_nil ?_
     refine round_end (x := (k, w)) ((k + 1), (max w ((((decS x65)).length : Nat) : Int))) ?_ ?_
     ·
      refine ⟨(Sl.cons_ ha84 rfl rfl (Sl.cons_ ha84 rfl rfl (Sl.cons_ ha84 rfl rfl (Sl.cons_ ha84 rfl (int_eq (by omega)) (Sl.cons_ ha84 rfl rfl (Sl.cons_ ha84 rfl rfl (Sl.cons_ ha84 rfl rfl (Sl.cons_ ha84 rfl rfl (Sl.cons_ ha84 rfl rfl (Sl.cons_ ha84 rfl (int_eq (by omega)) (Sl.nil_ ha84))))))))))), hx79, hf44, hf45, (by omega), (by omega), (by omega), (by have h5 := decS_len (n := x65) (by omega); omega), (by rw [drop_cons hx50, wdF, rowC_eq (c := (i : Int)) hx65] at hG; exact hG)⟩
     ·show (t.2.length - ((k + 1)) : Nat) < t.2.length - k; omega
    ·
     rw [decide_eq_false c49] at ha48
     refine cond_f ha48 rfl ?_
     refine wp_exit ?_
     refine then_e ?_
     refine then_e ?_
     refine block_hit ?_
     refine then_n ?_
     refine wp_region_lit ?_
     refine wl_val ha48 rfl rfl rfl (op_move ha48 rfl rfl) ?_
     intro a85 ha85; clear ha48 a48
     refine wl_val ha85 rfl rfl rfl (op_move ha85 rfl rfl) ?_
     intro a86 ha86; clear ha85 a85
     refine wl_eff ha86 rfl rfl rfl (op_buildSlice (s := shI64) (xs := [w]) (cs := [.int .i64 w]) (vs := [(0, .int .i64 w)]) (S := fun _ => False) (le := w42.heap.size) ha86 rfl pos_shI64 Try.underlying41 ti2 rfl rfl (by decide) (by kernel_rfl) (Els.single (mk_shI64 w (by first | assumption | omega | (simp; omega)))) (fun _ h => h.elim)) ?_
     rintro v87 w88 ⟨ho89, he90, hob91⟩ a92 ha92; clear ha86 a86
     have hx93 := hx43.trans' he90
     have hzhx93 := he90.size
     replace hf44 := hf44.ext he90
     replace hf45 := hf45.ext he90
     refine wl_eff ha92 rfl rfl rfl (op_append (ts := #[]) (s := shI64) ha92 rfl Try.underlying41 ti2 rfl pos_shI64 rfl rfl hf45 (ho89.rds pos_shI64) (by omega) (by omega) (by first | omega | (simp; omega)) (by first | omega | (simp; omega)) (.inl flat_shI64)) ?_
     rintro v94 w95 ⟨ho96, hst97, hob98⟩ a99 ha99; clear ha92 a92
     have hx100 := hx93.stp hst97 (by intro q hq; have hq0 := hf45.lt q hq; omega)
     have hzhx100 := hst97.size
     replace hf44 := hf44.stp hst97 (by intro q hq; have hq0 := hf45.lt q hq; omega)
     replace ho89 := ho89.stp hst97 (by intro q hq; have hq0 := hf45.lt q hq; omega)
     have hsp101 : ∀ q, Value.ownBlock v94 = some q → Value.ownBlock v87 ≠ some q := by intro q hq hb; have hq0 := ho89.lt q hb; rcases hob98 with h | h; (rw [h] at hq; first | (have hq1 := hf45.lt q hq; omega)); (rw [h] at hq; cases hq; omega)
     refine wl_val ha99 rfl rfl rfl (op_assign ha99 rfl rfl) ?_
     intro a102 ha102; clear ha99 a99
     refine wpList_nil ?_
     refine block_n ?_
     refine then_n ?_
     refine wp_region_lit ?_
     refine wl_val ha102 rfl rfl rfl ((op_add ha102 rfl rfl rfl).int (IntWalk.i64_in _ (by omega))) ?_
     intro a103 ha103; clear ha102 a102
     refine wl_val ha103 rfl rfl rfl (op_move ha103 rfl rfl) ?_
     intro a104 ha104; clear ha103 a103
     refine wpList_nil ?_
     refine round_end (x := (i, v, acc)) ((i + 1), v94, (acc ++ [w])) ?_ ?_
     ·
      refine ⟨(Sl.cons_ ha104 rfl rfl (Sl.cons_ ha104 rfl rfl (Sl.cons_ ha104 rfl rfl (Sl.cons_ ha104 rfl rfl (Sl.cons_ ha104 rfl (int_eq (by omega)) (Sl.nil_ ha104)))))), hx100, hf44, (ho96.fin (by omega) (by omega) (by omega)), (by omega), (by omega), (by (simp; omega)), (by rw [hF, drop_nil (by omega)] at *; simp only [wdF] at hG; rw [hG]; rfl)⟩
     ·show (t.1.length - ((i + 1)) : Nat) < t.1.length - i; omega
  ·
   rw [decide_eq_false c21] at ha20
   refine cond_f ha20 rfl ?_
   refine wp_exit ?_
   refine then_e ?_
   refine then_e ?_
   refine block_hit ?_
   refine then_n ?_
   refine wp_seq ?_
   refine wp_region_lit ?_
   refine wl_val ha20 rfl rfl rfl (op_move ha20 rfl rfl) ?_
   intro a105 ha105; clear ha20 a20
   refine wl_val ha105 rfl rfl rfl (op_assign ha105 rfl rfl) ?_
   intro a106 ha106; clear ha105 a105
   refine wpList_nil ?_
   refine then_n ?_
   refine wp_ret ?_
   refine ret1 ha106 rfl rfl ?_
   clear ha106 a106
   refine ret_mk hx15 ?_
   refine (hf17.fin (by omega) (by omega) (by omega)).cast ?_
   exact hF.trans (by rw [show i = t.1.length by omega]; rfl)

theorem c_spec_l31Widths (w0 : World) (v_t0 : Value) (v_t1 : Value) (t : List Str × List (List Int)) {S_t0 : Nat → Prop} {S_t1 : Nat → Prop} (h_t0 : Rds shStr S_t0 w0 v_t0 t.1) (h_t1 : Rds shRow S_t1 w0 v_t1 t.2) (g0 : tabB t = true) :
  Calls Try.prog 72 #[.agg #[v_t0, v_t1]] w0 (Ret w0 (fun v w1 => Own shI64 2 w0.heap.size w0.heap.size w1.heap.size w1 v (wdS t))) := by
 refine enter (N := 45) Try.func72 rfl rfl rfl ?_
 intro a0 ha0
 have hx0 := Ext.rfl' w0
 have hl_t0 := h_t0.length_le
 have hl_t1 := h_t1.length_le
 have htr := tab_rows g0
 have htw := tab_heads g0
 have htb := tab_bd g0
 refine wp_seq ?_
 refine wp_region_lit ?_
 refine wl_eff ha0 rfl rfl rfl (op_box' ha0 rfl rfl rfl) ?_
 rintro _ w2 ⟨rfl, he3, hb4, hz5⟩ a6 ha6; clear ha0 a0
 have hx7 := hx0.trans' he3
 have hzhx7 := he3.size
 refine wl_val ha6 rfl rfl rfl (op_assign ha6 rfl rfl) ?_
 intro a8 ha8; clear ha6 a6
 refine wpList_nil ?_
 refine then_n ?_
 refine wp_seq ?_
 refine wp_region_lit ?_
 refine wl_eff ha8 rfl rfl rfl (op_buildSlice (s := shI64) (xs := ([] : List Int)) (cs := []) (vs := []) (S := fun _ => False) (le := w2.heap.size) ha8 rfl pos_shI64 Try.underlying41 ti2 rfl rfl (by decide) (by kernel_rfl) rfl (fun _ h => h.elim)) ?_
 rintro v9 w10 ⟨ho11, he12, hob13⟩ a14 ha14; clear ha8 a8
 have hx15 := hx7.trans' he12
 have hzhx15 := he12.size
 replace hb4 := hb4.ext he12
 refine wl_val ha14 rfl rfl rfl (op_assign ha14 rfl rfl) ?_
 intro a16 ha16; clear ha14 a14
 refine wpList_nil ?_
 refine then_n ?_
 refine wp_seq ?_
 refine wp_seq ?_
 refine wp_region_lit ?_
 refine wl_val ha16 rfl rfl rfl (op_assign ha16 rfl rfl) ?_
 intro a17 ha17; clear ha16 a16
 refine wpList_nil ?_
 refine then_n ?_
 refine wp_block ?_
 refine loop_inv (X := Nat × Value × (List Int)) (fun (⟨i, v, acc⟩ : Nat × Value × (List Int)) fr wl => Sl 45 fr [(1, .pointer (some (⟨w0.heap.size, 0, none⟩ : Addr))), (3, v), (4, .int .i64 ((i : Nat) : Int))] ∧ Ext w0 wl ∧ Box wl w0.heap.size 28 [v_t0, v_t1] ∧ Own shI64 2 w2.heap.size w2.heap.size wl.heap.size wl v acc ∧ w10.heap.size ≤ wl.heap.size ∧ (i ≤ t.1.length) ∧ (acc.length = i) ∧ (acc = wdU t i)) (fun (⟨i, v, acc⟩ : Nat × Value × (List Int)) => t.1.length - i) (0, v9, ([] : List Int)) ?_ ?_
 ·
  exact ⟨(Sl.cons_ ha17 rfl rfl (Sl.cons_ ha17 rfl rfl (Sl.cons_ ha17 rfl (int_eq (by omega)) (Sl.nil_ ha17)))), hx15, hb4, (ho11.fin (by omega) (by omega) (by omega)), (by omega), (by omega), (by rfl), (by rfl)⟩
 ·
  clear ha17 a17
  rintro ⟨i, v, acc⟩ a22 w18 ⟨ha22, hx19, hf20, hf21, hzl23, hi, hl, hF⟩
  have hzhx19 := hx19.size
  refine wp_seq ?_
  refine wp_seq ?_
  refine wp_region_lit ?_
  refine wl_val ha22 rfl rfl rfl (op_move ha22 rfl rfl) ?_
  intro a24 ha24; clear ha22 a22
  refine wl_val ha24 rfl rfl rfl (op_fieldAddr (sz := 0) ha24 rfl Try.underlying28 rfl rfl ti22 rfl) ?_
  intro a25 ha25; clear ha24 a24
  refine wl_val ha25 rfl rfl rfl (op_loadF (off := 0) ha25 rfl Try.underlying22 rfl rfl hf20.cells rfl) ?_
  intro a26 ha26; clear ha25 a25
  refine wl_val ha26 rfl rfl rfl (op_len_sl ha26 rfl Try.underlying22 rfl h_t0) ?_
  intro a27 ha27; clear ha26 a26
  refine wl_val ha27 rfl rfl rfl (op_lss ha27 rfl rfl rfl) ?_
  intro a28 ha28; clear ha27 a27
  refine wpList_nil ?_
  refine then_n ?_
  by_cases c29 : ((i : Nat) : Int) < ((t.1.length : Nat) : Int)
  ·
   rw [decide_eq_true c29] at ha28
   refine cond_t ha28 rfl ?_
   refine wp_skip ?_
   refine then_n ?_
   refine wp_seq ?_
   refine wp_block ?_
   refine wp_seq ?_
   refine wp_region_lit ?_
   refine wl_val ha28 rfl rfl rfl (op_fieldAddr (sz := 0) ha28 rfl Try.underlying28 rfl rfl ti22 rfl) ?_
   intro a30 ha30; clear ha28 a28
   refine wl_val ha30 rfl rfl rfl (op_loadF (off := 0) ha30 rfl Try.underlying22 rfl rfl hf20.cells rfl) ?_
   intro a31 ha31; clear ha30 a30
   refine wl_val ha31 rfl rfl rfl (op_move ha31 rfl rfl) ?_
   intro a32 ha32; clear ha31 a31
   obtain ⟨x33, hx33⟩ := get_ex (xs := t.1) (j := i) (by omega)
   obtain ⟨p34, c35, hi36, hc37, hr38, hs39⟩ := Rds.at_ h_t0 hx33
   obtain ⟨rfl, b40⟩ := inv_shStr hr38
   refine wl_val ha32 rfl rfl rfl (op_indexAddr ha32 rfl Try.underlying22 ti9 rfl rfl (by omega) hi36) ?_
   intro a41 ha41; clear ha32 a32
   refine wl_val ha41 rfl rfl rfl (op_loadH ha41 rfl Try.underlying9 rfl rfl (hc37.ext hx19) rfl) ?_
   intro a42 ha42; clear ha41 a41
   refine wl_val ha42 rfl rfl rfl (op_len_str ha42 rfl Try.underlying9 rfl) ?_
   intro a43 ha43; clear ha42 a42
   refine wl_val ha43 rfl rfl rfl (op_assign ha43 rfl rfl) ?_
   intro a44 ha44; clear ha43 a43
   refine wpList_nil ?_
   refine then_n ?_
   refine wp_seq ?_
   refine wp_seq ?_
   refine wp_region_lit ?_
   refine wl_val ha44 rfl rfl rfl (op_assign ha44 rfl rfl) ?_
   intro a45 ha45; clear ha44 a44
   refine wpList_nil ?_
   refine then_n ?_
   refine wp_block ?_
   refine loop_inv (X := Nat × Int) (fun (⟨k, w⟩ : Nat × Int) fr wl => Sl 45 fr [(1, .pointer (some (⟨w0.heap.size, 0, none⟩ : Addr))), (3, v), (4, .int .i64 ((i : Nat) : Int)), (5, .int .i64 w), (6, .int .i64 ((k : Nat) : Int))] ∧ Ext w0 wl ∧ Box wl w0.heap.size 28 [v_t0, v_t1] ∧ Own shI64 2 w2.heap.size w2.heap.size w18.heap.size wl v acc ∧ w18.heap.size ≤ wl.heap.size ∧ (k ≤ t.2.length) ∧ (0 ≤ w) ∧ (w ≤ 100) ∧ (wdF i (t.2.drop k) w = wdC t i)) (fun (⟨k, w⟩ : Nat × Int) => t.2.length - k) (0, ((x33.length : Nat) : Int)) ?_ ?_
   ·
    exact ⟨(Sl.cons_ ha45 rfl rfl (Sl.cons_ ha45 rfl rfl (Sl.cons_ ha45 rfl rfl (Sl.cons_ ha45 rfl (int_eq (by omega)) (Sl.cons_ ha45 rfl (int_eq (by omega)) (Sl.nil_ ha45)))))), hx19, hf20, hf21, (by omega), (by omega), (by omega), (by have h5 := wordB_len (htw _ (List.mem_of_getElem? hx33)); omega), (by (rw [wdC_eq hx33]; rfl))⟩
   ·
    clear ha45 a45
    rintro ⟨k, w⟩ a50 w46 ⟨ha50, hx47, hf48, hf49, hzl51, hk, hw0, hw1, hG⟩
    have hzhx47 := hx47.size
    refine wp_seq ?_
    refine wp_seq ?_
    refine wp_region_lit ?_
    refine wl_val ha50 rfl rfl rfl (op_move ha50 rfl rfl) ?_
    intro a52 ha52; clear ha50 a50
    refine wl_val ha52 rfl rfl rfl (op_fieldAddr (sz := 0) ha52 rfl Try.underlying28 rfl rfl ti23 rfl) ?_
    intro a53 ha53; clear ha52 a52
    refine wl_val ha53 rfl rfl rfl (op_loadF (off := 1) ha53 rfl Try.underlying23 rfl rfl hf48.cells rfl) ?_
    intro a54 ha54; clear ha53 a53
    refine wl_val ha54 rfl rfl rfl (op_len_sl ha54 rfl Try.underlying23 rfl h_t1) ?_
    intro a55 ha55; clear ha54 a54
    refine wl_val ha55 rfl rfl rfl (op_lss ha55 rfl rfl rfl) ?_
    intro a56 ha56; clear ha55 a55
    refine wpList_nil ?_
    refine then_n ?_
    by_cases c57 : ((k : Nat) : Int) < ((t.2.length : Nat) : Int)
    ·
     rw [decide_eq_true c57] at ha56
     refine cond_t ha56 rfl ?_
     refine wp_skip ?_
     refine then_n ?_
     refine wp_seq ?_
     refine wp_block ?_
     refine wp_region_lit ?_
     refine wl_val ha56 rfl rfl rfl (op_move ha56 rfl rfl) ?_
     intro a58 ha58; clear ha56 a56
     refine wl_val ha58 rfl rfl rfl (op_fieldAddr (sz := 0) ha58 rfl Try.underlying28 rfl rfl ti23 rfl) ?_
     intro a59 ha59; clear ha58 a58
     refine wl_val ha59 rfl rfl rfl (op_loadF (off := 1) ha59 rfl Try.underlying23 rfl rfl hf48.cells rfl) ?_
     intro a60 ha60; clear ha59 a59
     refine wl_val ha60 rfl rfl rfl (op_move ha60 rfl rfl) ?_
     intro a61 ha61; clear ha60 a60
     obtain ⟨x62, hx62⟩ := get_ex (xs := t.2) (j := k) (by omega)
     obtain ⟨p63, c64, hi65, hc66, hr67, hs68⟩ := Rds.at_ h_t1 hx62
     obtain ⟨v69, rfl, b70⟩ := inv_shRow hr67
     have hlb70 := b70.length_le
     have hrbx62 := htr _ (List.mem_of_getElem? hx62)
     refine wl_val ha61 rfl rfl rfl (op_indexAddr ha61 rfl Try.underlying23 ti41 rfl rfl (by omega) hi65) ?_
     intro a71 ha71; clear ha61 a61
     refine wl_val ha71 rfl rfl rfl (op_loadH ha71 rfl Try.underlying41 rfl rfl (hc66.ext hx47) rfl) ?_
     intro a72 ha72; clear ha71 a71
     refine wl_val ha72 rfl rfl rfl (op_move ha72 rfl rfl) ?_
     intro a73 ha73; clear ha72 a72
     obtain ⟨x74, hx74⟩ := get_ex (xs := x62) (j := i) (by omega)
     obtain ⟨p75, c76, hi77, hc78, hr79, hs80⟩ := Rds.at_ b70 hx74
     obtain ⟨rfl, b81⟩ := inv_shI64 hr79
     have hvbx74 := hrbx62.2 _ (List.mem_of_getElem? hx74)
     refine wl_val ha73 rfl rfl rfl (op_indexAddr ha73 rfl Try.underlying41 ti2 rfl rfl (by omega) hi77) ?_
     intro a82 ha82; clear ha73 a73
     refine wl_val ha82 rfl rfl rfl (op_loadH ha82 rfl Try.underlying2 rfl rfl (hc78.ext hx47) rfl) ?_
     intro a83 ha83; clear ha82 a82
     refine wl_callR ha83 rfl rfl rfl (op_call ha83 rfl cb101 rfl) (c_spec_l01Number _ x74 (by first | assumption | omega | (simp; omega) | (simp [mkN_length]; omega)) (by first | assumption | omega | (simp; omega) | (simp [mkN_length]; omega))) ?_
     rintro v84 w85 he86 rfl a87 ha87; clear ha83 a83
     have hx88 := hx47.trans' he86
     have hzhx88 := he86.size
     replace hf48 := hf48.ext he86
     replace hf49 := hf49.ext he86
     refine wl_val ha87 rfl rfl rfl (op_len_str ha87 rfl Try.underlying9 rfl) ?_
     intro a89 ha89; clear ha87 a87
     refine wl_val ha89 rfl rfl rfl (op_max ha89 rfl rfl rfl) ?_
     intro a90 ha90; clear ha89 a89
     refine wl_val ha90 rfl rfl rfl (op_assign ha90 rfl rfl) ?_
     intro a91 ha91; clear ha90 a90
     refine wpList_nil ?_
     refine block_n ?_
     refine then_n ?_
     refine wp_region_lit ?_
     refine wl_val ha91 rfl rfl rfl (op_move ha91 rfl rfl) ?_
     intro a92 ha92; clear ha91 a91
     refine wl_val ha92 rfl rfl rfl ((op_add ha92 rfl rfl rfl).int (IntWalk.i64_in _ (by omega))) ?_
     intro a93 ha93; clear ha92 a92
     refine wl_val ha93 rfl rfl rfl (op_assign ha93 rfl rfl) ?_
     intro a94 ha94; clear ha93 a93
     refine wpList_nil ?_
     refine round_end (x := (k, w)) ((k + 1), (max w ((((decS x74)).length : Nat) : Int))) ?_ ?_
     ·
      refine ⟨(Sl.cons_ ha94 rfl rfl (Sl.cons_ ha94 rfl rfl (Sl.cons_ ha94 rfl rfl (Sl.cons_ ha94 rfl (int_eq (by omega)) (Sl.cons_ ha94 rfl (int_eq (by omega)) (Sl.nil_ ha94)))))), hx88, hf48, hf49, (by omega), (by omega), (by omega), (by have h5 := decS_len (n := x74) (by omega); omega), (by rw [drop_cons hx62, wdF, rowC_eq (c := (i : Int)) hx74] at hG; exact hG)⟩
     ·show (t.2.length - ((k + 1)) : Nat) < t.2.length - k; omega
    ·
     rw [decide_eq_false c57] at ha56
     refine cond_f ha56 rfl ?_
     refine wp_exit ?_
     refine then_e ?_
     refine then_e ?_
     refine block_hit ?_
     refine then_n ?_
     refine wp_region_lit ?_
     refine wl_val ha56 rfl rfl rfl (op_move ha56 rfl rfl) ?_
     intro a95 ha95; clear ha56 a56
     refine wl_val ha95 rfl rfl rfl (op_move ha95 rfl rfl) ?_
     intro a96 ha96; clear ha95 a95
     refine wl_eff ha96 rfl rfl rfl (op_buildSlice (s := shI64) (xs := [w]) (cs := [.int .i64 w]) (vs := [(0, .int .i64 w)]) (S := fun _ => False) (le := w46.heap.size) ha96 rfl pos_shI64 Try.underlying41 ti2 rfl rfl (by decide) (by kernel_rfl) (Els.single (mk_shI64 w (by first | assumption | omega | (simp; omega)))) (fun _ h => h.elim)) ?_
     rintro v97 w98 ⟨ho99, he100, hob101⟩ a102 ha102; clear ha96 a96
     have hx103 := hx47.trans' he100
     have hzhx103 := he100.size
     replace hf48 := hf48.ext he100
     replace hf49 := hf49.ext he100
     refine wl_eff ha102 rfl rfl rfl (op_append (ts := #[]) (s := shI64) ha102 rfl Try.underlying41 ti2 rfl pos_shI64 rfl rfl hf49 (ho99.rds pos_shI64) (by omega) (by omega) (by first | omega | (simp; omega)) (by first | omega | (simp; omega)) (.inl flat_shI64)) ?_
     rintro v104 w105 ⟨ho106, hst107, hob108⟩ a109 ha109; clear ha102 a102
     have hx110 := hx103.stp hst107 (by intro q hq; have hq0 := hf49.lt q hq; omega)
     have hzhx110 := hst107.size
     replace hf48 := hf48.stp hst107 (by intro q hq; have hq0 := hf49.lt q hq; omega)
     replace ho99 := ho99.stp hst107 (by intro q hq; have hq0 := hf49.lt q hq; omega)
     have hsp111 : ∀ q, Value.ownBlock v104 = some q → Value.ownBlock v97 ≠ some q := by intro q hq hb; have hq0 := ho99.lt q hb; rcases hob108 with h | h; (rw [h] at hq; first | (have hq1 := hf49.lt q hq; omega)); (rw [h] at hq; cases hq; omega)
     refine wl_val ha109 rfl rfl rfl (op_assign ha109 rfl rfl) ?_
     intro a112 ha112; clear ha109 a109
     refine wpList_nil ?_
     refine block_n ?_
     refine then_n ?_
     refine wp_region_lit ?_
     refine wl_val ha112 rfl rfl rfl (op_move ha112 rfl rfl) ?_
     intro a113 ha113; clear ha112 a112
     refine wl_val ha113 rfl rfl rfl ((op_add ha113 rfl rfl rfl).int (IntWalk.i64_in _ (by omega))) ?_
     intro a114 ha114; clear ha113 a113
     refine wl_val ha114 rfl rfl rfl (op_assign ha114 rfl rfl) ?_
     intro a115 ha115; clear ha114 a114
     refine wpList_nil ?_
     refine round_end (x := (i, v, acc)) ((i + 1), v104, (acc ++ [w])) ?_ ?_
     ·
      refine ⟨(Sl.cons_ ha115 rfl rfl (Sl.cons_ ha115 rfl rfl (Sl.cons_ ha115 rfl (int_eq (by omega)) (Sl.nil_ ha115)))), hx110, hf48, (ho106.fin (by omega) (by omega) (by omega)), (by omega), (by omega), (by (simp; omega)), (by rw [hF, drop_nil (by omega)] at *; simp only [wdF] at hG; rw [hG]; rfl)⟩
     ·show (t.1.length - ((i + 1)) : Nat) < t.1.length - i; omega
  ·
   rw [decide_eq_false c29] at ha28
   refine cond_f ha28 rfl ?_
   refine wp_exit ?_
   refine then_e ?_
   refine then_e ?_
   refine block_hit ?_
   refine then_n ?_
   refine wp_seq ?_
   refine wp_region_lit ?_
   refine wl_val ha28 rfl rfl rfl (op_move ha28 rfl rfl) ?_
   intro a116 ha116; clear ha28 a28
   refine wl_val ha116 rfl rfl rfl (op_assign ha116 rfl rfl) ?_
   intro a117 ha117; clear ha116 a116
   refine wpList_nil ?_
   refine then_n ?_
   refine wp_ret ?_
   refine ret1 ha117 rfl rfl ?_
   clear ha117 a117
   refine ret_mk hx19 ?_
   refine (hf21.fin (by omega) (by omega) (by omega)).cast ?_
   exact hF.trans (by rw [show i = t.1.length by omega]; rfl)

theorem c_impl_WidthsOf (w0 : World) (v_t0 : Value) (v_t1 : Value) (t : List Str × List (List Int)) {S_t0 : Nat → Prop} {S_t1 : Nat → Prop} (h_t0 : Rds shStr S_t0 w0 v_t0 t.1) (h_t1 : Rds shRow S_t1 w0 v_t1 t.2) :
  Calls Try.prog 30 #[.agg #[v_t0, v_t1]] w0 (Ret w0 (fun v w1 => ∃ r0, v = .tuple #[r0, .int .i64 (if tabB t then 0 else 1)] ∧ Own shI64 2 w0.heap.size w0.heap.size w1.heap.size w1 r0 (wdT t))) := by
 refine enter (N := 9) Try.func30 rfl rfl rfl ?_
 intro a0 ha0
 have hx0 := Ext.rfl' w0
 have hl_t0 := h_t0.length_le
 have hl_t1 := h_t1.length_le
 refine wp_seq ?_
 refine wp_region_lit ?_
 refine wl_eff ha0 rfl rfl rfl (op_box' ha0 rfl rfl rfl) ?_
 rintro _ w2 ⟨rfl, he3, hb4, hz5⟩ a6 ha6; clear ha0 a0
 have hx7 := hx0.trans' he3
 have hzhx7 := he3.size
 refine wl_val ha6 rfl rfl rfl (op_assign ha6 rfl rfl) ?_
 intro a8 ha8; clear ha6 a6
 refine wl_val ha8 rfl rfl rfl (op_assign ha8 rfl rfl) ?_
 intro a9 ha9; clear ha8 a8
 refine wpList_nil ?_
 refine then_n ?_
 refine wp_seq ?_
 refine wp_seq ?_
 refine wp_region_lit ?_
 refine wl_val ha9 rfl rfl rfl (op_loadS ha9 rfl Try.underlying28 ti28 rfl rfl hb4.cells) ?_
 intro a10 ha10; clear ha9 a9
 refine wl_callR ha10 rfl rfl rfl (op_call ha10 rfl cb19 rfl) (c_impl_IsTable _ v_t0 v_t1 t (h_t0.ext pos_shStr hx7) (h_t1.ext pos_shRow hx7)) ?_
 rintro v11 w12 he13 rfl a14 ha14; clear ha10 a10
 have hx15 := hx7.trans' he13
 have hzhx15 := he13.size
 replace hb4 := hb4.ext he13
 refine wl_val ha14 rfl rfl rfl (op_not ha14 rfl rfl) ?_
 intro a16 ha16; clear ha14 a14
 refine wpList_nil ?_
 refine then_n ?_
 rcases Bool.eq_false_or_eq_true (tabB t) with c17 | c17
 ·
  rw [c17] at ha16
  have htbc17 := tab_bd c17
  have htrc17 := tab_rows c17
  refine cond_f ha16 rfl ?_
  refine wp_skip ?_
  refine then_n ?_
  refine wp_seq ?_
  refine wp_region_lit ?_
  refine wl_val ha16 rfl rfl rfl (op_loadS ha16 rfl Try.underlying28 ti28 rfl rfl hb4.cells) ?_
  intro a18 ha18; clear ha16 a16
  refine wl_callR ha18 rfl rfl rfl (op_call ha18 rfl cb73 rfl) (c_impl_widthsOf _ v_t0 v_t1 t (h_t0.ext pos_shStr hx15) (h_t1.ext pos_shRow hx15) (by first | assumption | omega | (simp; omega))) ?_
  rintro v19 w20 he21 ho22 a23 ha23; clear ha18 a18
  have hx24 := hx15.trans' he21
  have hzhx24 := he21.size
  replace hb4 := hb4.ext he21
  refine wl_val ha23 rfl rfl rfl (op_assign ha23 rfl rfl) ?_
  intro a25 ha25; clear ha23 a23
  refine wl_val ha25 rfl rfl rfl (op_assign ha25 rfl rfl) ?_
  intro a26 ha26; clear ha25 a25
  refine wpList_nil ?_
  refine then_n ?_
  refine wp_ret ?_
  refine ret2 ha26 rfl rfl rfl ?_
  clear ha26 a26
  refine ret_mk hx24 ⟨v19, (tup2_eq rfl (int_eq (by simp [c17]))), ?_⟩
  ·refine (ho22.fin (by omega) (by omega) (by omega)).cast ?_
   first | exact (wdT_ok c17).symm | (rw [wdT_no (by simp [c17])])
 ·
  rw [c17] at ha16
  refine cond_t ha16 rfl ?_
  refine wp_seq ?_
  refine wp_region_lit ?_
  refine wl_val ha16 rfl rfl rfl (op_assign ha16 rfl rfl) ?_
  intro a27 ha27; clear ha16 a16
  refine wl_val ha27 rfl rfl rfl (op_assign ha27 rfl rfl) ?_
  intro a28 ha28; clear ha27 a27
  refine wpList_nil ?_
  refine then_n ?_
  refine wp_ret ?_
  refine then_r ?_
  refine ret2 ha28 rfl rfl rfl ?_
  clear ha28 a28
  refine ret_mk hx15 ⟨.slice none 0 0, (tup2_eq rfl (int_eq (by simp [c17]))), ?_⟩
  ·refine Own.nil_ _ _ _ _ _ _ ?_
   first | exact (wdT_ok c17).symm | (rw [wdT_no (by simp [c17])])

theorem c_spec_WidthsOf (w0 : World) (v_t0 : Value) (v_t1 : Value) (t : List Str × List (List Int)) {S_t0 : Nat → Prop} {S_t1 : Nat → Prop} (h_t0 : Rds shStr S_t0 w0 v_t0 t.1) (h_t1 : Rds shRow S_t1 w0 v_t1 t.2) :
  Calls Try.prog 29 #[.agg #[v_t0, v_t1]] w0 (Ret w0 (fun v w1 => ∃ r0, v = .tuple #[r0, .int .i64 (if tabB t then 0 else 1)] ∧ Own shI64 2 w0.heap.size w0.heap.size w1.heap.size w1 r0 (wdT t))) := by
 refine enter (N := 12) Try.func29 rfl rfl rfl ?_
 intro a0 ha0
 have hx0 := Ext.rfl' w0
 have hl_t0 := h_t0.length_le
 have hl_t1 := h_t1.length_le
 refine wp_seq ?_
 refine wp_region_lit ?_
 refine wl_eff ha0 rfl rfl rfl (op_box' ha0 rfl rfl rfl) ?_
 rintro _ w2 ⟨rfl, he3, hb4, hz5⟩ a6 ha6; clear ha0 a0
 have hx7 := hx0.trans' he3
 have hzhx7 := he3.size
 refine wl_val ha6 rfl rfl rfl (op_assign ha6 rfl rfl) ?_
 intro a8 ha8; clear ha6 a6
 refine wl_val ha8 rfl rfl rfl (op_assign ha8 rfl rfl) ?_
 intro a9 ha9; clear ha8 a8
 refine wpList_nil ?_
 refine then_n ?_
 refine wp_seq ?_
 refine wp_region_lit ?_
 refine wl_val ha9 rfl rfl rfl (op_loadS ha9 rfl Try.underlying28 ti28 rfl rfl hb4.cells) ?_
 intro a10 ha10; clear ha9 a9
 refine wl_callR ha10 rfl rfl rfl (op_call ha10 rfl cb69 rfl) (c_spec_l31Code _ v_t0 v_t1 t (0 : Int) (h_t0.ext pos_shStr hx7) (h_t1.ext pos_shRow hx7)) ?_
 rintro v11 w12 he13 rfl a14 ha14; clear ha10 a10
 have hx15 := hx7.trans' he13
 have hzhx15 := he13.size
 replace hb4 := hb4.ext he13
 refine wl_val ha14 rfl rfl rfl (op_assign ha14 rfl rfl) ?_
 intro a16 ha16; clear ha14 a14
 refine wpList_nil ?_
 refine then_n ?_
 refine wp_seq ?_
 refine wp_seq ?_
 refine wp_region_lit ?_
 refine wl_val ha16 rfl rfl rfl (op_move ha16 rfl rfl) ?_
 intro a17 ha17; clear ha16 a16
 refine wl_val ha17 rfl rfl rfl ((op_neq ha17 rfl rfl rfl).to (congrArg Value.bool decide_not)) ?_
 intro a18 ha18; clear ha17 a17
 refine wpList_nil ?_
 refine then_n ?_
 by_cases c19 : (cdT t (0 : Int) : Int) = (0 : Int)
 ·
  rw [decide_eq_true c19] at ha18
  obtain ⟨hk1c19, hk2c19⟩ := cdT_ok c19
  have htbc19 := tab_bd hk1c19
  have htrc19 := tab_rows hk1c19
  have hcbc19 := col_bd hk2c19
  refine cond_f ha18 rfl ?_
  refine wp_skip ?_
  refine then_n ?_
  refine wp_seq ?_
  refine wp_region_lit ?_
  refine wl_val ha18 rfl rfl rfl (op_loadS ha18 rfl Try.underlying28 ti28 rfl rfl hb4.cells) ?_
  intro a20 ha20; clear ha18 a18
  refine wl_callR ha20 rfl rfl rfl (op_call ha20 rfl cb72 rfl) (c_spec_l31Widths _ v_t0 v_t1 t (h_t0.ext pos_shStr hx15) (h_t1.ext pos_shRow hx15) (by first | assumption | omega | (simp; omega))) ?_
  rintro v21 w22 he23 ho24 a25 ha25; clear ha20 a20
  have hx26 := hx15.trans' he23
  have hzhx26 := he23.size
  replace hb4 := hb4.ext he23
  refine wl_val ha25 rfl rfl rfl (op_assign ha25 rfl rfl) ?_
  intro a27 ha27; clear ha25 a25
  refine wl_val ha27 rfl rfl rfl (op_assign ha27 rfl rfl) ?_
  intro a28 ha28; clear ha27 a27
  refine wpList_nil ?_
  refine then_n ?_
  refine wp_ret ?_
  refine ret2 ha28 rfl rfl rfl ?_
  clear ha28 a28
  refine ret_mk hx26 ⟨v21, (tup2_eq rfl (int_eq (by rw [if_pos hk1c19]))), ?_⟩
  ·refine (ho24.fin (by omega) (by omega) (by omega)).cast ?_
   exact (wdT_ok hk1c19).symm
 ·
  rw [decide_eq_false c19] at ha18
  refine cond_t ha18 rfl ?_
  refine wp_seq ?_
  refine wp_region_lit ?_
  refine wl_val ha18 rfl rfl rfl (op_move ha18 rfl rfl) ?_
  intro a29 ha29; clear ha18 a18
  refine wl_val ha29 rfl rfl rfl (op_assign ha29 rfl rfl) ?_
  intro a30 ha30; clear ha29 a29
  refine wl_val ha30 rfl rfl rfl (op_assign ha30 rfl rfl) ?_
  intro a31 ha31; clear ha30 a30
  refine wpList_nil ?_
  refine then_n ?_
  refine wp_ret ?_
  refine then_r ?_
  refine ret2 ha31 rfl rfl rfl ?_
  clear ha31 a31
  refine ret_mk hx15 ⟨.slice none 0 0, (tup2_eq rfl (int_eq (by rw [if_neg (fun hq => c19 ((cd0 t).trans (if_pos hq)))]; exact (cd0 t).trans (if_neg (fun hq => c19 ((cd0 t).trans (if_pos hq))))))), ?_⟩
  ·refine Own.nil_ _ _ _ _ _ _ ?_
   exact (wdT_no (fun hq => c19 ((cd0 t).trans (if_pos hq)))).symm


end Go.Proofs.Ytjpldgicibnkcaa
