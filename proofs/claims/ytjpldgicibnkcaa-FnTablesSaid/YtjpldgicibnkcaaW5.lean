/- Rows within bounds. -/
import Derived.Test.YtjpldgicibnkcaaW4
namespace Go.Proofs.Ytjpldgicibnkcaa
open Go Go.RowKit

def inC (c lo hi : Int) (r : List Int) : Bool := decide (lo ≤ rowC c r) && decide (rowC c r ≤ hi)
def flR (c lo hi : Int) (rs : List (List Int)) : List (List Int) := rs.filter (inC c lo hi)
def cdR (t : Tab) (c lo hi : Int) : Int := if cdT t c = 0 then if valB lo && valB hi then 0 else 2 else cdT t c
def flT (t : Tab) (c lo hi : Int) : Tab := if cdR t c lo hi = 0 then (t.1, flR c lo hi t.2) else ([], [])
theorem flT_ok {t : Tab} {c lo hi : Int} (h : cdR t c lo hi = 0) : flT t c lo hi = (t.1, flR c lo hi t.2) := by unfold flT; rw [if_pos h]
theorem flT_no {t : Tab} {c lo hi : Int} (h : ¬ cdR t c lo hi = 0) : flT t c lo hi = ([], []) := by unfold flT; rw [if_neg h]
theorem flR_cons {c lo hi : Int} {r : List Int} {rs : List (List Int)} (h : inC c lo hi r = true) : flR c lo hi (r :: rs) = r :: flR c lo hi rs := List.filter_cons_of_pos h
theorem flR_skip {c lo hi : Int} {r : List Int} {rs : List (List Int)} (h : inC c lo hi r = false) : flR c lo hi (r :: rs) = flR c lo hi rs := List.filter_cons_of_neg (by simp [h])
theorem flR_mem {c lo hi : Int} {rs : List (List Int)} {r : List Int} (h : r ∈ flR c lo hi rs) : r ∈ rs := (List.mem_filter.1 h).1
theorem flR_len (c lo hi : Int) (rs : List (List Int)) : (flR c lo hi rs).length ≤ rs.length := List.length_filter_le ..
theorem cdR_a {t : Tab} {c lo hi : Int} (h : ¬ cdT t c = 0) : cdR t c lo hi = cdT t c := by unfold cdR; rw [if_neg h]
theorem cdR_1 {t : Tab} {c lo hi : Int} (h : tabB t = false) : cdR t c lo hi = 1 := by rw [cdR_a (by rw [cdT_1 h]; decide), cdT_1 h]
theorem cdR_2 {t : Tab} {c lo hi : Int} (h : tabB t = true) (h2 : colB t c = false ∨ valB lo = false ∨ valB hi = false) : cdR t c lo hi = 2 := by
  cases hc : colB t c with
  | false => rw [cdR_a (by rw [cdT_2 h hc]; decide), cdT_2 h hc]
  | true =>
    unfold cdR; rw [if_pos (cdT_0 h hc)]
    rcases h2 with h2 | h2 | h2
    · rw [hc] at h2; cases h2
    · simp [h2]
    · simp [h2]
theorem cdR_0 {t : Tab} {c lo hi : Int} (h : tabB t = true) (hc : colB t c = true) (h1 : valB lo = true) (h2 : valB hi = true) : cdR t c lo hi = 0 := by unfold cdR; rw [if_pos (cdT_0 h hc)]; simp [h1, h2]
theorem inC_eq {c lo hi n : Int} {r : List Int} (h : r[c.toNat]? = some n) : inC c lo hi r = (decide (lo ≤ n) && decide (n ≤ hi)) := by unfold inC; rw [rowC_eq h]

theorem c_spec_FilterRows (w0 : World) (v_t0 : Value) (v_t1 : Value) (t : List Str × List (List Int)) {S_t0 : Nat → Prop} {S_t1 : Nat → Prop} (column : Int) (low : Int) (high : Int) (h_t0 : Rds shStr S_t0 w0 v_t0 t.1) (h_t1 : Rds shRow S_t1 w0 v_t1 t.2) :
  Calls Try.prog 37 #[.agg #[v_t0, v_t1], .int .i64 column, .int .i64 low, .int .i64 high] w0 (Ret w0 (fun v w1 => ∃ r0_0 r0_1 z0_1, v = .tuple #[.agg #[r0_0, r0_1], .int .i64 (cdR t column low high)] ∧ Own shStr 9 w0.heap.size w0.heap.size w1.heap.size w1 r0_0 ((flT t column low high).1) ∧ Own shRowN 41 w0.heap.size w0.heap.size w1.heap.size w1 r0_1 z0_1 ∧ Nst shI64 2 (fun x : List Int => x) w0.heap.size w1.heap.size w1 z0_1 ∧ z0_1.map (·.1) = ((flT t column low high).2))) := by
 refine enter (N := 63) Try.func37 rfl rfl rfl ?_
 intro a0 ha0
 have hx0 := Ext.rfl' w0
 have hl_t0 := h_t0.length_le
 have hl_t1 := h_t1.length_le
 refine wp_seq ?_
 refine wp_region_lit ?_
 refine wl_eff ha0 rfl rfl rfl (op_box' ha0 rfl rfl rfl) ?_
 rintro _ w2 ⟨rfl, he3, hb4, hz5⟩ a6 ha6; clear ha0 a0
 have hx7 := hx0.trans' he3
 have hzhx7 := he3.size
 refine wl_eff ha6 rfl rfl rfl (op_alloc' rfl ti28 rfl) ?_
 rintro _ w9 ⟨rfl, he10, hb11, hz12⟩ a13 ha13; clear ha6 a6
 have hx14 := hx7.trans' he10
 have hzhx14 := he10.size
 replace hb4 := hb4.ext he10
 refine wl_val ha13 rfl rfl rfl (op_assign ha13 rfl rfl) ?_
 intro a15 ha15; clear ha13 a13
 refine wpList_nil ?_
 refine then_n ?_
 refine wp_seq ?_
 refine wp_region_lit ?_
 refine wl_val ha15 rfl rfl rfl (op_loadS ha15 rfl Try.underlying28 ti28 rfl rfl hb4.cells) ?_
 intro a16 ha16; clear ha15 a15
 refine wl_val ha16 rfl rfl rfl (op_move ha16 rfl rfl) ?_
 intro a17 ha17; clear ha16 a16
 refine wl_callR ha17 rfl rfl rfl (op_call ha17 rfl cb69 rfl) (c_spec_l31Code _ v_t0 v_t1 t column (h_t0.ext pos_shStr hx14) (h_t1.ext pos_shRow hx14)) ?_
 rintro v18 w19 he20 rfl a21 ha21; clear ha17 a17
 have hx22 := hx14.trans' he20
 have hzhx22 := he20.size
 replace hb4 := hb4.ext he20
 replace hb11 := hb11.ext he20
 refine wl_val ha21 rfl rfl rfl (op_assign ha21 rfl rfl) ?_
 intro a23 ha23; clear ha21 a21
 refine wpList_nil ?_
 refine then_n ?_
 refine wp_seq ?_
 refine wp_seq ?_
 refine wp_region_lit ?_
 refine wl_val ha23 rfl rfl rfl (op_move ha23 rfl rfl) ?_
 intro a24 ha24; clear ha23 a23
 refine wl_val ha24 rfl rfl rfl (op_eql ha24 rfl rfl rfl) ?_
 intro a25 ha25; clear ha24 a24
 refine wl_val ha25 rfl rfl rfl (op_move ha25 rfl rfl) ?_
 intro a26 ha26; clear ha25 a25
 by_cases c27 : (cdT t column : Int) = (0 : Int)
 ·
  rw [decide_eq_true c27] at ha26
  obtain ⟨hk1c27, hk2c27⟩ := cdT_ok c27
  have htbc27 := tab_bd hk1c27
  have htrc27 := tab_rows hk1c27
  have hcbc27 := col_bd hk2c27
  refine wl_val ha26 rfl rfl rfl (op_move ha26 rfl rfl) ?_
  intro a28 ha28; clear ha26 a26
  refine wl_callR ha28 rfl rfl rfl (op_call ha28 rfl cb61 rfl) (c_spec_l01Is _ low ) ?_
  rintro v29 w30 he31 rfl a32 ha32; clear ha28 a28
  have hx33 := hx22.trans' he31
  have hzhx33 := he31.size
  replace hb4 := hb4.ext he31
  replace hb11 := hb11.ext he31
  refine wl_val ha32 rfl rfl rfl (op_not ha32 rfl rfl) ?_
  intro a34 ha34; clear ha32 a32
  refine wl_val ha34 rfl rfl rfl (op_move ha34 rfl rfl) ?_
  intro a35 ha35; clear ha34 a34
  rcases Bool.eq_false_or_eq_true (valB low) with c36 | c36
  ·
   rw [c36] at ha35
   refine wl_val ha35 rfl rfl rfl (op_move ha35 rfl rfl) ?_
   intro a37 ha37; clear ha35 a35
   refine wl_callR ha37 rfl rfl rfl (op_call ha37 rfl cb61 rfl) (c_spec_l01Is _ high ) ?_
   rintro v38 w39 he40 rfl a41 ha41; clear ha37 a37
   have hx42 := hx33.trans' he40
   have hzhx42 := he40.size
   replace hb4 := hb4.ext he40
   replace hb11 := hb11.ext he40
   refine wl_val ha41 rfl rfl rfl (op_not ha41 rfl rfl) ?_
   intro a43 ha43; clear ha41 a41
   refine wl_val ha43 rfl rfl rfl (op_pick_f ha43 rfl rfl rfl) ?_
   intro a44 ha44; clear ha43 a43
   refine wl_val ha44 rfl rfl rfl (op_pick_t ha44 rfl rfl rfl) ?_
   intro a45 ha45; clear ha44 a44
   refine wpList_nil ?_
   refine then_n ?_
   rcases Bool.eq_false_or_eq_true (valB high) with c46 | c46
   ·
    rw [c46] at ha45
    refine cond_f ha45 rfl ?_
    refine wp_skip ?_
    refine then_n ?_
    refine wp_seq ?_
    refine wp_seq ?_
    refine wp_region_lit ?_
    refine wl_val ha45 rfl rfl rfl (op_move ha45 rfl rfl) ?_
    intro a47 ha47; clear ha45 a45
    refine wl_val ha47 rfl rfl rfl ((op_neq ha47 rfl rfl rfl).to (congrArg Value.bool decide_not)) ?_
    intro a48 ha48; clear ha47 a47
    refine wpList_nil ?_
    refine then_n ?_
    rw [decide_eq_true c27] at ha48
    refine cond_f ha48 rfl ?_
    refine wp_skip ?_
    refine then_n ?_
    refine wp_seq ?_
    refine wp_region_lit ?_
    refine wl_eff ha48 rfl rfl rfl (op_buildSlice (s := shRowN) (xs := ([] : List ((List Int) × Value))) (cs := []) (vs := []) (S := fun _ => False) (le := w39.heap.size) ha48 rfl pos_shRowN Try.underlying23 ti41 rfl rfl (by decide) (by kernel_rfl) rfl (fun _ h => h.elim)) ?_
    rintro v49 w50 ⟨ho51, he52, hob53⟩ a54 ha54; clear ha48 a48
    have hx55 := hx42.trans' he52
    have hzhx55 := he52.size
    replace hb4 := hb4.ext he52
    replace hb11 := hb11.ext he52
    have hN56 : Nst shI64 2 (fun x : List Int => x) w39.heap.size w50.heap.size w50 (([] : List ((List Int) × Value))) := Nst.nil _ _ _ _ _ _
    refine wl_val ha54 rfl rfl rfl (op_assign ha54 rfl rfl) ?_
    intro a57 ha57; clear ha54 a54
    refine wpList_nil ?_
    refine then_n ?_
    refine wp_seq ?_
    refine wp_seq ?_
    refine wp_region_lit ?_
    refine wl_val ha57 rfl rfl rfl (op_assign ha57 rfl rfl) ?_
    intro a58 ha58; clear ha57 a57
    refine wpList_nil ?_
    refine then_n ?_
    refine wp_block ?_
    refine loop_inv (X := Nat × Value × (List (List Int × Value))) (fun (⟨i, v, zs⟩ : Nat × Value × (List (List Int × Value))) fr wl => Sl 63 fr [(1, .int .i64 column), (2, .int .i64 low), (3, .int .i64 high), (4, .pointer (some (⟨w0.heap.size, 0, none⟩ : Addr))), (8, .pointer (some (⟨w2.heap.size, 0, none⟩ : Addr))), (11, v), (12, .int .i64 ((i : Nat) : Int))] ∧ Ext w0 wl ∧ Box wl w0.heap.size 28 [v_t0, v_t1] ∧ Box wl w2.heap.size 28 [.slice none 0 0, .slice none 0 0] ∧ Own shRowN 41 w39.heap.size w39.heap.size wl.heap.size wl v zs ∧ w50.heap.size ≤ wl.heap.size ∧ (i ≤ t.2.length) ∧ (zs.length ≤ i) ∧ (zs.map (·.1) ++ flR column low high (t.2.drop i) = flR column low high t.2) ∧ (∀ z ∈ zs, Rds shI64 S_t1 w0 z.2 z.1)) (fun (⟨i, v, zs⟩ : Nat × Value × (List (List Int × Value))) => t.2.length - i) (0, v49, ([] : List ((List Int) × Value))) ?_ ?_
    ·
     exact ⟨(Sl.cons_ ha58 rfl rfl (Sl.cons_ ha58 rfl rfl (Sl.cons_ ha58 rfl rfl (Sl.cons_ ha58 rfl rfl (Sl.cons_ ha58 rfl rfl (Sl.cons_ ha58 rfl rfl (Sl.cons_ ha58 rfl (int_eq (by omega)) (Sl.nil_ ha58)))))))), hx55, hb4, hb11, (ho51.fin (by omega) (by omega) (by omega)), (by omega), (by omega), (by exact Nat.le_refl _), (by rfl), (by intro z hz; cases hz)⟩
    ·
     clear ha58 a58
     rintro ⟨i, v, zs⟩ a64 w59 ⟨ha64, hx60, hf61, hf62, hf63, hzl65, hi, hl, hF, hR⟩
     have hzhx60 := hx60.size
     refine wp_seq ?_
     refine wp_seq ?_
     refine wp_region_lit ?_
     refine wl_val ha64 rfl rfl rfl (op_move ha64 rfl rfl) ?_
     intro a66 ha66; clear ha64 a64
     refine wl_val ha66 rfl rfl rfl (op_fieldAddr (sz := 0) ha66 rfl Try.underlying28 rfl rfl ti23 rfl) ?_
     intro a67 ha67; clear ha66 a66
     refine wl_val ha67 rfl rfl rfl (op_loadF (off := 1) ha67 rfl Try.underlying23 rfl rfl hf61.cells rfl) ?_
     intro a68 ha68; clear ha67 a67
     refine wl_val ha68 rfl rfl rfl (op_len_sl ha68 rfl Try.underlying23 rfl h_t1) ?_
     intro a69 ha69; clear ha68 a68
     refine wl_val ha69 rfl rfl rfl (op_lss ha69 rfl rfl rfl) ?_
     intro a70 ha70; clear ha69 a69
     refine wpList_nil ?_
     refine then_n ?_
     by_cases c71 : ((i : Nat) : Int) < ((t.2.length : Nat) : Int)
     ·
      rw [decide_eq_true c71] at ha70
      refine cond_t ha70 rfl ?_
      refine wp_skip ?_
      refine then_n ?_
      refine wp_seq ?_
      refine wp_block ?_
      refine wp_seq ?_
      refine wp_region_lit ?_
      refine wl_val ha70 rfl rfl rfl (op_fieldAddr (sz := 0) ha70 rfl Try.underlying28 rfl rfl ti23 rfl) ?_
      intro a72 ha72; clear ha70 a70
      refine wl_val ha72 rfl rfl rfl (op_loadF (off := 1) ha72 rfl Try.underlying23 rfl rfl hf61.cells rfl) ?_
      intro a73 ha73; clear ha72 a72
      refine wl_val ha73 rfl rfl rfl (op_move ha73 rfl rfl) ?_
      intro a74 ha74; clear ha73 a73
      obtain ⟨x75, hx75⟩ := get_ex (xs := t.2) (j := i) (by omega)
      obtain ⟨p76, c77, hi78, hc79, hr80, hs81⟩ := Rds.at_ h_t1 hx75
      obtain ⟨v82, rfl, b83⟩ := inv_shRow hr80
      have hlb83 := b83.length_le
      have hrbx75 := htrc27 _ (List.mem_of_getElem? hx75)
      refine wl_val ha74 rfl rfl rfl (op_indexAddr ha74 rfl Try.underlying23 ti41 rfl rfl (by omega) hi78) ?_
      intro a84 ha84; clear ha74 a74
      refine wl_val ha84 rfl rfl rfl (op_loadH ha84 rfl Try.underlying41 rfl rfl (hc79.ext hx60) rfl) ?_
      intro a85 ha85; clear ha84 a84
      refine wl_val ha85 rfl rfl rfl (op_move ha85 rfl rfl) ?_
      intro a86 ha86; clear ha85 a85
      obtain ⟨x87, hx87⟩ := get_ex (xs := x75) (j := column.toNat) (by omega)
      obtain ⟨p88, c89, hi90, hc91, hr92, hs93⟩ := Rds.at_ b83 hx87
      obtain ⟨rfl, b94⟩ := inv_shI64 hr92
      have hvbx87 := hrbx75.2 _ (List.mem_of_getElem? hx87)
      refine wl_val ha86 rfl rfl rfl (op_indexAddr ha86 rfl Try.underlying41 ti2 rfl rfl (by omega) hi90) ?_
      intro a95 ha95; clear ha86 a86
      refine wl_val ha95 rfl rfl rfl (op_loadH ha95 rfl Try.underlying2 rfl rfl (hc91.ext hx60) rfl) ?_
      intro a96 ha96; clear ha95 a95
      refine wl_val ha96 rfl rfl rfl (op_move ha96 rfl rfl) ?_
      intro a97 ha97; clear ha96 a96
      refine wl_val ha97 rfl rfl rfl (op_move ha97 rfl rfl) ?_
      intro a98 ha98; clear ha97 a97
      refine wl_callR ha98 rfl rfl rfl (op_call ha98 rfl cb62 rfl) (c_spec_l01In _ x87 low high ) ?_
      rintro v99 w100 he101 rfl a102 ha102; clear ha98 a98
      have hx103 := hx60.trans' he101
      have hzhx103 := he101.size
      replace hf61 := hf61.ext he101
      replace hf62 := hf62.ext he101
      replace hf63 := hf63.ext he101
      refine wpList_nil ?_
      refine then_n ?_
      rcases Bool.eq_false_or_eq_true (decide (low ≤ x87) && decide (x87 ≤ high)) with c104 | c104
      ·
       rw [c104] at ha102
       refine cond_t ha102 rfl ?_
       refine wp_region_lit ?_
       refine wl_val ha102 rfl rfl rfl (op_move ha102 rfl rfl) ?_
       intro a105 ha105; clear ha102 a102
       refine wl_val ha105 rfl rfl rfl (op_fieldAddr (sz := 0) ha105 rfl Try.underlying28 rfl rfl ti23 rfl) ?_
       intro a106 ha106; clear ha105 a105
       refine wl_val ha106 rfl rfl rfl (op_loadF (off := 1) ha106 rfl Try.underlying23 rfl rfl hf61.cells rfl) ?_
       intro a107 ha107; clear ha106 a106
       refine wl_val ha107 rfl rfl rfl (op_move ha107 rfl rfl) ?_
       intro a108 ha108; clear ha107 a107
       refine wl_val ha108 rfl rfl rfl (op_indexAddr ha108 rfl Try.underlying23 ti41 rfl rfl (by omega) hi78) ?_
       intro a109 ha109; clear ha108 a108
       refine wl_val ha109 rfl rfl rfl (op_loadH ha109 rfl Try.underlying41 rfl rfl (hc79.ext hx103) rfl) ?_
       intro a110 ha110; clear ha109 a109
       refine wl_eff ha110 rfl rfl rfl (op_buildSlice (s := shRowN) (xs := [((x75 : List Int), (v82 : Value))]) (cs := [v82]) (vs := [(0, v82)]) (S := fun _ => False) (le := w100.heap.size) ha110 rfl pos_shRowN Try.underlying23 ti41 rfl rfl (by decide) ((fill_one (off := 0) b83.cells1 (by kernel_rfl) (by kernel_rfl)).trans (by kernel_rfl)) (Els.single (mk_shRowN (((x75 : List Int), (v82 : Value))) b83.one)) (fun _ h => h.elim)) ?_
       rintro v111 w112 ⟨ho113, he114, hob115⟩ a116 ha116; clear ha110 a110
       have hx117 := hx103.trans' he114
       have hzhx117 := he114.size
       replace hf61 := hf61.ext he114
       replace hf62 := hf62.ext he114
       replace hf63 := hf63.ext he114
       refine wl_eff ha116 rfl rfl rfl (op_append (ts := #[]) (s := shRowN) ha116 rfl Try.underlying23 ti41 rfl pos_shRowN rfl rfl hf63 (ho113.rds pos_shRowN) (by omega) (by omega) (by first | omega | (simp; omega)) (by first | omega | (simp; omega)) (.inl flat_shRowN)) ?_
       rintro v118 w119 ⟨ho120, hst121, hob122⟩ a123 ha123; clear ha116 a116
       have hx124 := hx117.stp hst121 (by intro q hq; have hq0 := hf63.lt q hq; omega)
       have hzhx124 := hst121.size
       replace hf61 := hf61.stp hst121 (by intro q hq; have hq0 := hf63.lt q hq; omega)
       replace hf62 := hf62.stp hst121 (by intro q hq; have hq0 := hf63.lt q hq; omega)
       replace ho113 := ho113.stp hst121 (by intro q hq; have hq0 := hf63.lt q hq; omega)
       have hsp125 : ∀ q, Value.ownBlock v118 = some q → Value.ownBlock v111 ≠ some q := by intro q hq hb; have hq0 := ho113.lt q hb; rcases hob122 with h | h; (rw [h] at hq; first | (have hq1 := hf63.lt q hq; omega)); (rw [h] at hq; cases hq; omega)
       refine wl_val ha123 rfl rfl rfl (op_assign ha123 rfl rfl) ?_
       intro a126 ha126; clear ha123 a123
       refine wpList_nil ?_
       refine block_n ?_
       refine then_n ?_
       refine wp_region_lit ?_
       refine wl_val ha126 rfl rfl rfl (op_move ha126 rfl rfl) ?_
       intro a127 ha127; clear ha126 a126
       refine wl_val ha127 rfl rfl rfl ((op_add ha127 rfl rfl rfl).int (IntWalk.i64_in _ (by omega))) ?_
       intro a128 ha128; clear ha127 a127
       refine wl_val ha128 rfl rfl rfl (op_assign ha128 rfl rfl) ?_
       intro a129 ha129; clear ha128 a128
       refine wpList_nil ?_
       refine round_end (x := (i, v, zs)) ((i + 1), v118, (zs ++ [((x75 : List Int), (v82 : Value))])) ?_ ?_
       ·
        refine ⟨(Sl.cons_ ha129 rfl rfl (Sl.cons_ ha129 rfl rfl (Sl.cons_ ha129 rfl rfl (Sl.cons_ ha129 rfl rfl (Sl.cons_ ha129 rfl rfl (Sl.cons_ ha129 rfl rfl (Sl.cons_ ha129 rfl (int_eq (by omega)) (Sl.nil_ ha129)))))))), hx124, hf61, hf62, (ho120.fin (by omega) (by omega) (by omega)), (by omega), (by omega), (by first | omega | (simp; omega)), (by rw [drop_cons hx75, flR_cons ((inC_eq hx87).trans c104)] at hF; rw [List.map_append, List.append_assoc]; exact hF), (by intro z hz; rcases List.mem_append.1 hz with hz | hz; (exact hR z hz); (obtain rfl := List.mem_singleton.1 hz; assumption))⟩
       ·show (t.2.length - ((i + 1)) : Nat) < t.2.length - i; omega
      ·
       rw [c104] at ha102
       refine cond_f ha102 rfl ?_
       refine wp_skip ?_
       refine block_n ?_
       refine then_n ?_
       refine wp_region_lit ?_
       refine wl_val ha102 rfl rfl rfl (op_move ha102 rfl rfl) ?_
       intro a130 ha130; clear ha102 a102
       refine wl_val ha130 rfl rfl rfl ((op_add ha130 rfl rfl rfl).int (IntWalk.i64_in _ (by omega))) ?_
       intro a131 ha131; clear ha130 a130
       refine wl_val ha131 rfl rfl rfl (op_assign ha131 rfl rfl) ?_
       intro a132 ha132; clear ha131 a131
       refine wpList_nil ?_
       refine round_end (x := (i, v, zs)) ((i + 1), v, zs) ?_ ?_
       ·
        refine ⟨(Sl.cons_ ha132 rfl rfl (Sl.cons_ ha132 rfl rfl (Sl.cons_ ha132 rfl rfl (Sl.cons_ ha132 rfl rfl (Sl.cons_ ha132 rfl rfl (Sl.cons_ ha132 rfl rfl (Sl.cons_ ha132 rfl (int_eq (by omega)) (Sl.nil_ ha132)))))))), hx103, hf61, hf62, (hf63.fin (by omega) (by omega) (by omega)), (by omega), (by omega), (by first | omega | (simp; omega)), (by rw [drop_cons hx75, flR_skip ((inC_eq hx87).trans c104)] at hF; exact hF), (by exact hR)⟩
       ·show (t.2.length - ((i + 1)) : Nat) < t.2.length - i; omega
     ·
      rw [decide_eq_false c71] at ha70
      refine cond_f ha70 rfl ?_
      refine wp_exit ?_
      refine then_e ?_
      refine then_e ?_
      refine block_hit ?_
      refine then_n ?_
      refine wp_seq ?_
      refine wp_region_lit ?_
      refine wl_val ha70 rfl rfl rfl (op_fieldAddr (sz := 0) ha70 rfl Try.underlying28 rfl rfl ti22 rfl) ?_
      intro a133 ha133; clear ha70 a70
      refine wl_val ha133 rfl rfl rfl (op_loadF (off := 0) ha133 rfl Try.underlying22 rfl rfl hf61.cells rfl) ?_
      intro a134 ha134; clear ha133 a133
      refine wl_val ha134 rfl rfl rfl (op_move ha134 rfl rfl) ?_
      intro a135 ha135; clear ha134 a134
      refine wl_callR ha135 rfl rfl rfl (op_call ha135 rfl cb74 rfl) (c_spec_l31With _ v_t0 t.1 v ((zs.map (·.1))) (h_t0.ext pos_shStr hx60) (rdsR_shRowN (lo := w39.heap.size) (hi := w59.heap.size) (hf63.fin (by omega) (by omega) (by omega)) hR hx60) (by first | assumption | omega | (simp; omega)) (by first | assumption | omega | (simp; omega)) (by intro r hr9; obtain ⟨z, hz, rfl⟩ := List.mem_map.1 hr9; have h8 : z.1 ∈ flR column low high t.2 := (by rw [← hF]; exact List.mem_append_left _ (List.mem_map_of_mem hz)); have h7 := (htrc27 _ (flR_mem h8)).1; omega)) ?_
      rintro v136 w137 he138 ⟨u139, u141, z143, rfl, ho140, ho142, hN144, hE145⟩ a146 ha146; clear ha135 a135
      have hx147 := hx60.trans' he138
      have hzhx147 := he138.size
      replace hf61 := hf61.ext he138
      replace hf62 := hf62.ext he138
      replace hf63 := hf63.ext he138
      have hlhE145 := absLen hE145
      refine wl_effS ha146 rfl rfl (op_storeAll' ha146 rfl ti28 rfl rfl hf62 rfl rfl (by intro u hu; have hu : u ∈ ([u139, u141] : List Value) := hu; simp only [List.mem_cons, List.mem_nil_iff, or_false] at hu; rcases hu with rfl | rfl <;> first | rfl | exact ho140.one | exact ho142.one) rfl) ?_
      rintro w148 ⟨hb150, hst149, hz151⟩
      have hx152 := hx147.stp hst149 (by intro q hq; cases hq; exact (by omega))
      have hzhx152 := hst149.size
      replace hf61 := hf61.stp hst149 (by intro q hq; cases hq; omega)
      replace hf63 := hf63.stp hst149 (by intro q hq; cases hq; omega)
      replace ho140 := ho140.stp hst149 (by intro q hq; cases hq; omega)
      replace ho142 := ho142.stp hst149 (by intro q hq; cases hq; omega)
      replace hN144 := hN144.stp hst149 (by intro q hq; cases hq; omega)
      clear hf62
      refine wl_val ha146 rfl rfl rfl (op_assign ha146 rfl rfl) ?_
      intro a153 ha153; clear ha146 a146
      refine wpList_nil ?_
      refine then_n ?_
      refine wp_ret ?_
      refine retct ha153 rfl rfl rfl Try.underlying28 ti28 rfl hb150.cells ?_
      clear ha153 a153
      have hr : cdR t column low high = _ := (cdR_0 hk1c27 hk2c27 c36 c46)
      have hF2 : zs.map (·.1) = flR column low high t.2 := (by rw [drop_nil (by omega)] at hF; simpa [flR] using hF)
      refine ret_mk hx152 ⟨u139, u141, z143, (tup2_eq (by rfl) (int_eq (by first | exact hr.symm | omega))), ?_, ho142.fin (by omega) (by omega) (by omega), hN144.fin (by omega) (by omega), ?_⟩
      ·
       refine (ho140.fin (by omega) (by omega) (by omega)).cast ?_
       rw [flT_ok hr]
      ·
       rw [flT_ok hr]; exact (hE145).trans hF2
   ·
    rw [c46] at ha45
    refine cond_t ha45 rfl ?_
    refine wp_region_lit ?_
    refine wl_val ha45 rfl rfl rfl (op_assign ha45 rfl rfl) ?_
    intro a154 ha154; clear ha45 a45
    refine wpList_nil ?_
    refine then_n ?_
    refine wp_seq ?_
    refine wp_seq ?_
    refine wp_region_lit ?_
    refine wl_val ha154 rfl rfl rfl (op_move ha154 rfl rfl) ?_
    intro a155 ha155; clear ha154 a154
    refine wl_val ha155 rfl rfl rfl ((op_neq ha155 rfl rfl rfl).to (congrArg Value.bool decide_not)) ?_
    intro a156 ha156; clear ha155 a155
    refine wpList_nil ?_
    refine then_n ?_
    by_cases c157 : (2 : Int) = (0 : Int)
    ·
     rw [decide_eq_true c157] at ha156
     refine cond_f ha156 rfl ?_
     refine wp_skip ?_
     refine then_n ?_
     refine wp_seq ?_
     refine wp_region_lit ?_
     refine wl_eff ha156 rfl rfl rfl (op_buildSlice (s := shRowN) (xs := ([] : List ((List Int) × Value))) (cs := []) (vs := []) (S := fun _ => False) (le := w39.heap.size) ha156 rfl pos_shRowN Try.underlying23 ti41 rfl rfl (by decide) (by kernel_rfl) rfl (fun _ h => h.elim)) ?_
     rintro v158 w159 ⟨ho160, he161, hob162⟩ a163 ha163; clear ha156 a156
     have hx164 := hx42.trans' he161
     have hzhx164 := he161.size
     replace hb4 := hb4.ext he161
     replace hb11 := hb11.ext he161
     have hN165 : Nst shI64 2 (fun x : List Int => x) w39.heap.size w159.heap.size w159 (([] : List ((List Int) × Value))) := Nst.nil _ _ _ _ _ _
     refine wl_val ha163 rfl rfl rfl (op_assign ha163 rfl rfl) ?_
     intro a166 ha166; clear ha163 a163
     refine wpList_nil ?_
     refine then_n ?_
     refine wp_seq ?_
     refine wp_seq ?_
     refine wp_region_lit ?_
     refine wl_val ha166 rfl rfl rfl (op_assign ha166 rfl rfl) ?_
     intro a167 ha167; clear ha166 a166
     refine wpList_nil ?_
     refine then_n ?_
     refine wp_block ?_
     refine loop_inv (X := Nat × Value × (List (List Int × Value))) (fun (⟨i, v, zs⟩ : Nat × Value × (List (List Int × Value))) fr wl => Sl 63 fr [(1, .int .i64 column), (2, .int .i64 low), (3, .int .i64 high), (4, .pointer (some (⟨w0.heap.size, 0, none⟩ : Addr))), (8, .pointer (some (⟨w2.heap.size, 0, none⟩ : Addr))), (11, v), (12, .int .i64 ((i : Nat) : Int))] ∧ Ext w0 wl ∧ Box wl w0.heap.size 28 [v_t0, v_t1] ∧ Box wl w2.heap.size 28 [.slice none 0 0, .slice none 0 0] ∧ Own shRowN 41 w39.heap.size w39.heap.size wl.heap.size wl v zs ∧ w159.heap.size ≤ wl.heap.size ∧ (i ≤ t.2.length) ∧ (zs.length ≤ i) ∧ (zs.map (·.1) ++ flR column low high (t.2.drop i) = flR column low high t.2) ∧ (∀ z ∈ zs, Rds shI64 S_t1 w0 z.2 z.1)) (fun (⟨i, v, zs⟩ : Nat × Value × (List (List Int × Value))) => t.2.length - i) (0, v158, ([] : List ((List Int) × Value))) ?_ ?_
     ·
      exact ⟨(Sl.cons_ ha167 rfl rfl (Sl.cons_ ha167 rfl rfl (Sl.cons_ ha167 rfl rfl (Sl.cons_ ha167 rfl rfl (Sl.cons_ ha167 rfl rfl (Sl.cons_ ha167 rfl rfl (Sl.cons_ ha167 rfl (int_eq (by omega)) (Sl.nil_ ha167)))))))), hx164, hb4, hb11, (ho160.fin (by omega) (by omega) (by omega)), (by omega), (by omega), (by exact Nat.le_refl _), (by rfl), (by intro z hz; cases hz)⟩
     ·
      clear ha167 a167
      rintro ⟨i, v, zs⟩ a173 w168 ⟨ha173, hx169, hf170, hf171, hf172, hzl174, hi, hl, hF, hR⟩
      have hzhx169 := hx169.size
      refine wp_seq ?_
      refine wp_seq ?_
      refine wp_region_lit ?_
      refine wl_val ha173 rfl rfl rfl (op_move ha173 rfl rfl) ?_
      intro a175 ha175; clear ha173 a173
      refine wl_val ha175 rfl rfl rfl (op_fieldAddr (sz := 0) ha175 rfl Try.underlying28 rfl rfl ti23 rfl) ?_
      intro a176 ha176; clear ha175 a175
      refine wl_val ha176 rfl rfl rfl (op_loadF (off := 1) ha176 rfl Try.underlying23 rfl rfl hf170.cells rfl) ?_
      intro a177 ha177; clear ha176 a176
      refine wl_val ha177 rfl rfl rfl (op_len_sl ha177 rfl Try.underlying23 rfl h_t1) ?_
      intro a178 ha178; clear ha177 a177
      refine wl_val ha178 rfl rfl rfl (op_lss ha178 rfl rfl rfl) ?_
      intro a179 ha179; clear ha178 a178
      refine wpList_nil ?_
      refine then_n ?_
      by_cases c180 : ((i : Nat) : Int) < ((t.2.length : Nat) : Int)
      ·
       rw [decide_eq_true c180] at ha179
       refine cond_t ha179 rfl ?_
       refine wp_skip ?_
       refine then_n ?_
       refine wp_seq ?_
       refine wp_block ?_
       refine wp_seq ?_
       refine wp_region_lit ?_
       refine wl_val ha179 rfl rfl rfl (op_fieldAddr (sz := 0) ha179 rfl Try.underlying28 rfl rfl ti23 rfl) ?_
       intro a181 ha181; clear ha179 a179
       refine wl_val ha181 rfl rfl rfl (op_loadF (off := 1) ha181 rfl Try.underlying23 rfl rfl hf170.cells rfl) ?_
       intro a182 ha182; clear ha181 a181
       refine wl_val ha182 rfl rfl rfl (op_move ha182 rfl rfl) ?_
       intro a183 ha183; clear ha182 a182
       obtain ⟨x184, hx184⟩ := get_ex (xs := t.2) (j := i) (by omega)
       obtain ⟨p185, c186, hi187, hc188, hr189, hs190⟩ := Rds.at_ h_t1 hx184
       obtain ⟨v191, rfl, b192⟩ := inv_shRow hr189
       have hlb192 := b192.length_le
       have hrbx184 := htrc27 _ (List.mem_of_getElem? hx184)
       refine wl_val ha183 rfl rfl rfl (op_indexAddr ha183 rfl Try.underlying23 ti41 rfl rfl (by omega) hi187) ?_
       intro a193 ha193; clear ha183 a183
       refine wl_val ha193 rfl rfl rfl (op_loadH ha193 rfl Try.underlying41 rfl rfl (hc188.ext hx169) rfl) ?_
       intro a194 ha194; clear ha193 a193
       refine wl_val ha194 rfl rfl rfl (op_move ha194 rfl rfl) ?_
       intro a195 ha195; clear ha194 a194
       obtain ⟨x196, hx196⟩ := get_ex (xs := x184) (j := column.toNat) (by omega)
       obtain ⟨p197, c198, hi199, hc200, hr201, hs202⟩ := Rds.at_ b192 hx196
       obtain ⟨rfl, b203⟩ := inv_shI64 hr201
       have hvbx196 := hrbx184.2 _ (List.mem_of_getElem? hx196)
       refine wl_val ha195 rfl rfl rfl (op_indexAddr ha195 rfl Try.underlying41 ti2 rfl rfl (by omega) hi199) ?_
       intro a204 ha204; clear ha195 a195
       refine wl_val ha204 rfl rfl rfl (op_loadH ha204 rfl Try.underlying2 rfl rfl (hc200.ext hx169) rfl) ?_
       intro a205 ha205; clear ha204 a204
       refine wl_val ha205 rfl rfl rfl (op_move ha205 rfl rfl) ?_
       intro a206 ha206; clear ha205 a205
       refine wl_val ha206 rfl rfl rfl (op_move ha206 rfl rfl) ?_
       intro a207 ha207; clear ha206 a206
       refine wl_callR ha207 rfl rfl rfl (op_call ha207 rfl cb62 rfl) (c_spec_l01In _ x196 low high ) ?_
       rintro v208 w209 he210 rfl a211 ha211; clear ha207 a207
       have hx212 := hx169.trans' he210
       have hzhx212 := he210.size
       replace hf170 := hf170.ext he210
       replace hf171 := hf171.ext he210
       replace hf172 := hf172.ext he210
       refine wpList_nil ?_
       refine then_n ?_
       rcases Bool.eq_false_or_eq_true (decide (low ≤ x196) && decide (x196 ≤ high)) with c213 | c213
       ·
        rw [c213] at ha211
        refine cond_t ha211 rfl ?_
        refine wp_region_lit ?_
        refine wl_val ha211 rfl rfl rfl (op_move ha211 rfl rfl) ?_
        intro a214 ha214; clear ha211 a211
        refine wl_val ha214 rfl rfl rfl (op_fieldAddr (sz := 0) ha214 rfl Try.underlying28 rfl rfl ti23 rfl) ?_
        intro a215 ha215; clear ha214 a214
        refine wl_val ha215 rfl rfl rfl (op_loadF (off := 1) ha215 rfl Try.underlying23 rfl rfl hf170.cells rfl) ?_
        intro a216 ha216; clear ha215 a215
        refine wl_val ha216 rfl rfl rfl (op_move ha216 rfl rfl) ?_
        intro a217 ha217; clear ha216 a216
        refine wl_val ha217 rfl rfl rfl (op_indexAddr ha217 rfl Try.underlying23 ti41 rfl rfl (by omega) hi187) ?_
        intro a218 ha218; clear ha217 a217
        refine wl_val ha218 rfl rfl rfl (op_loadH ha218 rfl Try.underlying41 rfl rfl (hc188.ext hx212) rfl) ?_
        intro a219 ha219; clear ha218 a218
        refine wl_eff ha219 rfl rfl rfl (op_buildSlice (s := shRowN) (xs := [((x184 : List Int), (v191 : Value))]) (cs := [v191]) (vs := [(0, v191)]) (S := fun _ => False) (le := w209.heap.size) ha219 rfl pos_shRowN Try.underlying23 ti41 rfl rfl (by decide) ((fill_one (off := 0) b192.cells1 (by kernel_rfl) (by kernel_rfl)).trans (by kernel_rfl)) (Els.single (mk_shRowN (((x184 : List Int), (v191 : Value))) b192.one)) (fun _ h => h.elim)) ?_
        rintro v220 w221 ⟨ho222, he223, hob224⟩ a225 ha225; clear ha219 a219
        have hx226 := hx212.trans' he223
        have hzhx226 := he223.size
        replace hf170 := hf170.ext he223
        replace hf171 := hf171.ext he223
        replace hf172 := hf172.ext he223
        refine wl_eff ha225 rfl rfl rfl (op_append (ts := #[]) (s := shRowN) ha225 rfl Try.underlying23 ti41 rfl pos_shRowN rfl rfl hf172 (ho222.rds pos_shRowN) (by omega) (by omega) (by first | omega | (simp; omega)) (by first | omega | (simp; omega)) (.inl flat_shRowN)) ?_
        rintro v227 w228 ⟨ho229, hst230, hob231⟩ a232 ha232; clear ha225 a225
        have hx233 := hx226.stp hst230 (by intro q hq; have hq0 := hf172.lt q hq; omega)
        have hzhx233 := hst230.size
        replace hf170 := hf170.stp hst230 (by intro q hq; have hq0 := hf172.lt q hq; omega)
        replace hf171 := hf171.stp hst230 (by intro q hq; have hq0 := hf172.lt q hq; omega)
        replace ho222 := ho222.stp hst230 (by intro q hq; have hq0 := hf172.lt q hq; omega)
        have hsp234 : ∀ q, Value.ownBlock v227 = some q → Value.ownBlock v220 ≠ some q := by intro q hq hb; have hq0 := ho222.lt q hb; rcases hob231 with h | h; (rw [h] at hq; first | (have hq1 := hf172.lt q hq; omega)); (rw [h] at hq; cases hq; omega)
        refine wl_val ha232 rfl rfl rfl (op_assign ha232 rfl rfl) ?_
        intro a235 ha235; clear ha232 a232
        refine wpList_nil ?_
        refine block_n ?_
        refine then_n ?_
        refine wp_region_lit ?_
        refine wl_val ha235 rfl rfl rfl (op_move ha235 rfl rfl) ?_
        intro a236 ha236; clear ha235 a235
        refine wl_val ha236 rfl rfl rfl ((op_add ha236 rfl rfl rfl).int (IntWalk.i64_in _ (by omega))) ?_
        intro a237 ha237; clear ha236 a236
        refine wl_val ha237 rfl rfl rfl (op_assign ha237 rfl rfl) ?_
        intro a238 ha238; clear ha237 a237
        refine wpList_nil ?_
        refine round_end (x := (i, v, zs)) ((i + 1), v227, (zs ++ [((x184 : List Int), (v191 : Value))])) ?_ ?_
        ·
         refine ⟨(Sl.cons_ ha238 rfl rfl (Sl.cons_ ha238 rfl rfl (Sl.cons_ ha238 rfl rfl (Sl.cons_ ha238 rfl rfl (Sl.cons_ ha238 rfl rfl (Sl.cons_ ha238 rfl rfl (Sl.cons_ ha238 rfl (int_eq (by omega)) (Sl.nil_ ha238)))))))), hx233, hf170, hf171, (ho229.fin (by omega) (by omega) (by omega)), (by omega), (by omega), (by first | omega | (simp; omega)), (by rw [drop_cons hx184, flR_cons ((inC_eq hx196).trans c213)] at hF; rw [List.map_append, List.append_assoc]; exact hF), (by intro z hz; rcases List.mem_append.1 hz with hz | hz; (exact hR z hz); (obtain rfl := List.mem_singleton.1 hz; assumption))⟩
        ·show (t.2.length - ((i + 1)) : Nat) < t.2.length - i; omega
       ·
        rw [c213] at ha211
        refine cond_f ha211 rfl ?_
        refine wp_skip ?_
        refine block_n ?_
        refine then_n ?_
        refine wp_region_lit ?_
        refine wl_val ha211 rfl rfl rfl (op_move ha211 rfl rfl) ?_
        intro a239 ha239; clear ha211 a211
        refine wl_val ha239 rfl rfl rfl ((op_add ha239 rfl rfl rfl).int (IntWalk.i64_in _ (by omega))) ?_
        intro a240 ha240; clear ha239 a239
        refine wl_val ha240 rfl rfl rfl (op_assign ha240 rfl rfl) ?_
        intro a241 ha241; clear ha240 a240
        refine wpList_nil ?_
        refine round_end (x := (i, v, zs)) ((i + 1), v, zs) ?_ ?_
        ·
         refine ⟨(Sl.cons_ ha241 rfl rfl (Sl.cons_ ha241 rfl rfl (Sl.cons_ ha241 rfl rfl (Sl.cons_ ha241 rfl rfl (Sl.cons_ ha241 rfl rfl (Sl.cons_ ha241 rfl rfl (Sl.cons_ ha241 rfl (int_eq (by omega)) (Sl.nil_ ha241)))))))), hx212, hf170, hf171, (hf172.fin (by omega) (by omega) (by omega)), (by omega), (by omega), (by first | omega | (simp; omega)), (by rw [drop_cons hx184, flR_skip ((inC_eq hx196).trans c213)] at hF; exact hF), (by exact hR)⟩
        ·show (t.2.length - ((i + 1)) : Nat) < t.2.length - i; omega
      ·
       rw [decide_eq_false c180] at ha179
       refine cond_f ha179 rfl ?_
       refine wp_exit ?_
       refine then_e ?_
       refine then_e ?_
       refine block_hit ?_
       refine then_n ?_
       refine wp_seq ?_
       refine wp_region_lit ?_
       refine wl_val ha179 rfl rfl rfl (op_fieldAddr (sz := 0) ha179 rfl Try.underlying28 rfl rfl ti22 rfl) ?_
       intro a242 ha242; clear ha179 a179
       refine wl_val ha242 rfl rfl rfl (op_loadF (off := 0) ha242 rfl Try.underlying22 rfl rfl hf170.cells rfl) ?_
       intro a243 ha243; clear ha242 a242
       refine wl_val ha243 rfl rfl rfl (op_move ha243 rfl rfl) ?_
       intro a244 ha244; clear ha243 a243
       refine wl_callR ha244 rfl rfl rfl (op_call ha244 rfl cb74 rfl) (c_spec_l31With _ v_t0 t.1 v ((zs.map (·.1))) (h_t0.ext pos_shStr hx169) (rdsR_shRowN (lo := w39.heap.size) (hi := w168.heap.size) (hf172.fin (by omega) (by omega) (by omega)) hR hx169) (by first | assumption | omega | (simp; omega)) (by first | assumption | omega | (simp; omega)) (by intro r hr9; obtain ⟨z, hz, rfl⟩ := List.mem_map.1 hr9; have h8 : z.1 ∈ flR column low high t.2 := (by rw [← hF]; exact List.mem_append_left _ (List.mem_map_of_mem hz)); have h7 := (htrc27 _ (flR_mem h8)).1; omega)) ?_
       rintro v245 w246 he247 ⟨u248, u250, z252, rfl, ho249, ho251, hN253, hE254⟩ a255 ha255; clear ha244 a244
       have hx256 := hx169.trans' he247
       have hzhx256 := he247.size
       replace hf170 := hf170.ext he247
       replace hf171 := hf171.ext he247
       replace hf172 := hf172.ext he247
       have hlhE254 := absLen hE254
       refine wl_effS ha255 rfl rfl (op_storeAll' ha255 rfl ti28 rfl rfl hf171 rfl rfl (by intro u hu; have hu : u ∈ ([u248, u250] : List Value) := hu; simp only [List.mem_cons, List.mem_nil_iff, or_false] at hu; rcases hu with rfl | rfl <;> first | rfl | exact ho249.one | exact ho251.one) rfl) ?_
       rintro w257 ⟨hb259, hst258, hz260⟩
       have hx261 := hx256.stp hst258 (by intro q hq; cases hq; exact (by omega))
       have hzhx261 := hst258.size
       replace hf170 := hf170.stp hst258 (by intro q hq; cases hq; omega)
       replace hf172 := hf172.stp hst258 (by intro q hq; cases hq; omega)
       replace ho249 := ho249.stp hst258 (by intro q hq; cases hq; omega)
       replace ho251 := ho251.stp hst258 (by intro q hq; cases hq; omega)
       replace hN253 := hN253.stp hst258 (by intro q hq; cases hq; omega)
       clear hf171
       refine wl_val ha255 rfl rfl rfl (op_assign ha255 rfl rfl) ?_
       intro a262 ha262; clear ha255 a255
       refine wpList_nil ?_
       refine then_n ?_
       refine wp_ret ?_
       refine retct ha262 rfl rfl rfl Try.underlying28 ti28 rfl hb259.cells ?_
       clear ha262 a262
       exfalso; omega
    ·
     rw [decide_eq_false c157] at ha156
     refine cond_t ha156 rfl ?_
     refine wp_seq ?_
     refine wp_region_lit ?_
     refine wl_val ha156 rfl rfl rfl (op_build (vs := []) (cs := #[.slice none 0 0, .slice none 0 0]) ha156 rfl Try.underlying28 ti28 bp28 rfl rfl) ?_
     intro a263 ha263; clear ha156 a156
     refine wl_val ha263 rfl rfl rfl (op_move ha263 rfl rfl) ?_
     intro a264 ha264; clear ha263 a263
     refine wl_effS ha264 rfl rfl (op_storeAll' ha264 rfl ti28 rfl rfl hb11 rfl rfl (by simp [Value.oneCell']) rfl) ?_
     rintro w265 ⟨hb267, hst266, hz268⟩
     have hx269 := hx42.stp hst266 (by intro q hq; cases hq; exact (by omega))
     have hzhx269 := hst266.size
     replace hb4 := hb4.stp hst266 (by intro q hq; cases hq; omega)
     clear hb11
     refine wl_val ha264 rfl rfl rfl (op_assign ha264 rfl rfl) ?_
     intro a270 ha270; clear ha264 a264
     refine wpList_nil ?_
     refine then_n ?_
     refine wp_ret ?_
     refine then_r ?_
     refine retct ha270 rfl rfl rfl Try.underlying28 ti28 rfl hb267.cells ?_
     clear ha270 a270
     have hr : cdR t column low high = _ := (cdR_2 hk1c27 (.inr (.inr c46)))
     refine ret_mk hx269 ⟨(.slice none 0 0), (.slice none 0 0), [], (tup2_eq (by rfl) (int_eq (by first | exact hr.symm | omega))), ?_, Own.nil _ _ _ _ _ _, Nst.nil _ _ _ _ _ _, ?_⟩
     ·
      refine Own.nil_ _ _ _ _ _ _ ?_
      rw [flT_no (by rw [hr]; first | decide | assumption)]
     ·
      rw [flT_no (by rw [hr]; first | decide | assumption)]; rfl
  ·
   rw [c36] at ha35
   refine wl_skip ha35 rfl rfl rfl ?_
   intro a271 ha271; clear ha35 a35
   refine wl_skip ha271 rfl rfl rfl ?_
   intro a272 ha272; clear ha271 a271
   refine wl_skip ha272 rfl rfl rfl ?_
   intro a273 ha273; clear ha272 a272
   refine wl_val ha273 rfl rfl rfl (op_pick_t ha273 rfl rfl rfl) ?_
   intro a274 ha274; clear ha273 a273
   refine wl_val ha274 rfl rfl rfl (op_pick_t ha274 rfl rfl rfl) ?_
   intro a275 ha275; clear ha274 a274
   refine wpList_nil ?_
   refine then_n ?_
   refine cond_t ha275 rfl ?_
   refine wp_region_lit ?_
   refine wl_val ha275 rfl rfl rfl (op_assign ha275 rfl rfl) ?_
   intro a276 ha276; clear ha275 a275
   refine wpList_nil ?_
   refine then_n ?_
   refine wp_seq ?_
   refine wp_seq ?_
   refine wp_region_lit ?_
   refine wl_val ha276 rfl rfl rfl (op_move ha276 rfl rfl) ?_
   intro a277 ha277; clear ha276 a276
   refine wl_val ha277 rfl rfl rfl ((op_neq ha277 rfl rfl rfl).to (congrArg Value.bool decide_not)) ?_
   intro a278 ha278; clear ha277 a277
   refine wpList_nil ?_
   refine then_n ?_
   by_cases c279 : (2 : Int) = (0 : Int)
   ·
    rw [decide_eq_true c279] at ha278
    refine cond_f ha278 rfl ?_
    refine wp_skip ?_
    refine then_n ?_
    refine wp_seq ?_
    refine wp_region_lit ?_
    refine wl_eff ha278 rfl rfl rfl (op_buildSlice (s := shRowN) (xs := ([] : List ((List Int) × Value))) (cs := []) (vs := []) (S := fun _ => False) (le := w30.heap.size) ha278 rfl pos_shRowN Try.underlying23 ti41 rfl rfl (by decide) (by kernel_rfl) rfl (fun _ h => h.elim)) ?_
    rintro v280 w281 ⟨ho282, he283, hob284⟩ a285 ha285; clear ha278 a278
    have hx286 := hx33.trans' he283
    have hzhx286 := he283.size
    replace hb4 := hb4.ext he283
    replace hb11 := hb11.ext he283
    have hN287 : Nst shI64 2 (fun x : List Int => x) w30.heap.size w281.heap.size w281 (([] : List ((List Int) × Value))) := Nst.nil _ _ _ _ _ _
    refine wl_val ha285 rfl rfl rfl (op_assign ha285 rfl rfl) ?_
    intro a288 ha288; clear ha285 a285
    refine wpList_nil ?_
    refine then_n ?_
    refine wp_seq ?_
    refine wp_seq ?_
    refine wp_region_lit ?_
    refine wl_val ha288 rfl rfl rfl (op_assign ha288 rfl rfl) ?_
    intro a289 ha289; clear ha288 a288
    refine wpList_nil ?_
    refine then_n ?_
    refine wp_block ?_
    refine loop_inv (X := Nat × Value × (List (List Int × Value))) (fun (⟨i, v, zs⟩ : Nat × Value × (List (List Int × Value))) fr wl => Sl 63 fr [(1, .int .i64 column), (2, .int .i64 low), (3, .int .i64 high), (4, .pointer (some (⟨w0.heap.size, 0, none⟩ : Addr))), (8, .pointer (some (⟨w2.heap.size, 0, none⟩ : Addr))), (11, v), (12, .int .i64 ((i : Nat) : Int))] ∧ Ext w0 wl ∧ Box wl w0.heap.size 28 [v_t0, v_t1] ∧ Box wl w2.heap.size 28 [.slice none 0 0, .slice none 0 0] ∧ Own shRowN 41 w30.heap.size w30.heap.size wl.heap.size wl v zs ∧ w281.heap.size ≤ wl.heap.size ∧ (i ≤ t.2.length) ∧ (zs.length ≤ i) ∧ (zs.map (·.1) ++ flR column low high (t.2.drop i) = flR column low high t.2) ∧ (∀ z ∈ zs, Rds shI64 S_t1 w0 z.2 z.1)) (fun (⟨i, v, zs⟩ : Nat × Value × (List (List Int × Value))) => t.2.length - i) (0, v280, ([] : List ((List Int) × Value))) ?_ ?_
    ·
     exact ⟨(Sl.cons_ ha289 rfl rfl (Sl.cons_ ha289 rfl rfl (Sl.cons_ ha289 rfl rfl (Sl.cons_ ha289 rfl rfl (Sl.cons_ ha289 rfl rfl (Sl.cons_ ha289 rfl rfl (Sl.cons_ ha289 rfl (int_eq (by omega)) (Sl.nil_ ha289)))))))), hx286, hb4, hb11, (ho282.fin (by omega) (by omega) (by omega)), (by omega), (by omega), (by exact Nat.le_refl _), (by rfl), (by intro z hz; cases hz)⟩
    ·
     clear ha289 a289
     rintro ⟨i, v, zs⟩ a295 w290 ⟨ha295, hx291, hf292, hf293, hf294, hzl296, hi, hl, hF, hR⟩
     have hzhx291 := hx291.size
     refine wp_seq ?_
     refine wp_seq ?_
     refine wp_region_lit ?_
     refine wl_val ha295 rfl rfl rfl (op_move ha295 rfl rfl) ?_
     intro a297 ha297; clear ha295 a295
     refine wl_val ha297 rfl rfl rfl (op_fieldAddr (sz := 0) ha297 rfl Try.underlying28 rfl rfl ti23 rfl) ?_
     intro a298 ha298; clear ha297 a297
     refine wl_val ha298 rfl rfl rfl (op_loadF (off := 1) ha298 rfl Try.underlying23 rfl rfl hf292.cells rfl) ?_
     intro a299 ha299; clear ha298 a298
     refine wl_val ha299 rfl rfl rfl (op_len_sl ha299 rfl Try.underlying23 rfl h_t1) ?_
     intro a300 ha300; clear ha299 a299
     refine wl_val ha300 rfl rfl rfl (op_lss ha300 rfl rfl rfl) ?_
     intro a301 ha301; clear ha300 a300
     refine wpList_nil ?_
     refine then_n ?_
     by_cases c302 : ((i : Nat) : Int) < ((t.2.length : Nat) : Int)
     ·
      rw [decide_eq_true c302] at ha301
      refine cond_t ha301 rfl ?_
      refine wp_skip ?_
      refine then_n ?_
      refine wp_seq ?_
      refine wp_block ?_
      refine wp_seq ?_
      refine wp_region_lit ?_
      refine wl_val ha301 rfl rfl rfl (op_fieldAddr (sz := 0) ha301 rfl Try.underlying28 rfl rfl ti23 rfl) ?_
      intro a303 ha303; clear ha301 a301
      refine wl_val ha303 rfl rfl rfl (op_loadF (off := 1) ha303 rfl Try.underlying23 rfl rfl hf292.cells rfl) ?_
      intro a304 ha304; clear ha303 a303
      refine wl_val ha304 rfl rfl rfl (op_move ha304 rfl rfl) ?_
      intro a305 ha305; clear ha304 a304
      obtain ⟨x306, hx306⟩ := get_ex (xs := t.2) (j := i) (by omega)
      obtain ⟨p307, c308, hi309, hc310, hr311, hs312⟩ := Rds.at_ h_t1 hx306
      obtain ⟨v313, rfl, b314⟩ := inv_shRow hr311
      have hlb314 := b314.length_le
      have hrbx306 := htrc27 _ (List.mem_of_getElem? hx306)
      refine wl_val ha305 rfl rfl rfl (op_indexAddr ha305 rfl Try.underlying23 ti41 rfl rfl (by omega) hi309) ?_
      intro a315 ha315; clear ha305 a305
      refine wl_val ha315 rfl rfl rfl (op_loadH ha315 rfl Try.underlying41 rfl rfl (hc310.ext hx291) rfl) ?_
      intro a316 ha316; clear ha315 a315
      refine wl_val ha316 rfl rfl rfl (op_move ha316 rfl rfl) ?_
      intro a317 ha317; clear ha316 a316
      obtain ⟨x318, hx318⟩ := get_ex (xs := x306) (j := column.toNat) (by omega)
      obtain ⟨p319, c320, hi321, hc322, hr323, hs324⟩ := Rds.at_ b314 hx318
      obtain ⟨rfl, b325⟩ := inv_shI64 hr323
      have hvbx318 := hrbx306.2 _ (List.mem_of_getElem? hx318)
      refine wl_val ha317 rfl rfl rfl (op_indexAddr ha317 rfl Try.underlying41 ti2 rfl rfl (by omega) hi321) ?_
      intro a326 ha326; clear ha317 a317
      refine wl_val ha326 rfl rfl rfl (op_loadH ha326 rfl Try.underlying2 rfl rfl (hc322.ext hx291) rfl) ?_
      intro a327 ha327; clear ha326 a326
      refine wl_val ha327 rfl rfl rfl (op_move ha327 rfl rfl) ?_
      intro a328 ha328; clear ha327 a327
      refine wl_val ha328 rfl rfl rfl (op_move ha328 rfl rfl) ?_
      intro a329 ha329; clear ha328 a328
      refine wl_callR ha329 rfl rfl rfl (op_call ha329 rfl cb62 rfl) (c_spec_l01In _ x318 low high ) ?_
      rintro v330 w331 he332 rfl a333 ha333; clear ha329 a329
      have hx334 := hx291.trans' he332
      have hzhx334 := he332.size
      replace hf292 := hf292.ext he332
      replace hf293 := hf293.ext he332
      replace hf294 := hf294.ext he332
      refine wpList_nil ?_
      refine then_n ?_
      rcases Bool.eq_false_or_eq_true (decide (low ≤ x318) && decide (x318 ≤ high)) with c335 | c335
      ·
       rw [c335] at ha333
       refine cond_t ha333 rfl ?_
       refine wp_region_lit ?_
       refine wl_val ha333 rfl rfl rfl (op_move ha333 rfl rfl) ?_
       intro a336 ha336; clear ha333 a333
       refine wl_val ha336 rfl rfl rfl (op_fieldAddr (sz := 0) ha336 rfl Try.underlying28 rfl rfl ti23 rfl) ?_
       intro a337 ha337; clear ha336 a336
       refine wl_val ha337 rfl rfl rfl (op_loadF (off := 1) ha337 rfl Try.underlying23 rfl rfl hf292.cells rfl) ?_
       intro a338 ha338; clear ha337 a337
       refine wl_val ha338 rfl rfl rfl (op_move ha338 rfl rfl) ?_
       intro a339 ha339; clear ha338 a338
       refine wl_val ha339 rfl rfl rfl (op_indexAddr ha339 rfl Try.underlying23 ti41 rfl rfl (by omega) hi309) ?_
       intro a340 ha340; clear ha339 a339
       refine wl_val ha340 rfl rfl rfl (op_loadH ha340 rfl Try.underlying41 rfl rfl (hc310.ext hx334) rfl) ?_
       intro a341 ha341; clear ha340 a340
       refine wl_eff ha341 rfl rfl rfl (op_buildSlice (s := shRowN) (xs := [((x306 : List Int), (v313 : Value))]) (cs := [v313]) (vs := [(0, v313)]) (S := fun _ => False) (le := w331.heap.size) ha341 rfl pos_shRowN Try.underlying23 ti41 rfl rfl (by decide) ((fill_one (off := 0) b314.cells1 (by kernel_rfl) (by kernel_rfl)).trans (by kernel_rfl)) (Els.single (mk_shRowN (((x306 : List Int), (v313 : Value))) b314.one)) (fun _ h => h.elim)) ?_
       rintro v342 w343 ⟨ho344, he345, hob346⟩ a347 ha347; clear ha341 a341
       have hx348 := hx334.trans' he345
       have hzhx348 := he345.size
       replace hf292 := hf292.ext he345
       replace hf293 := hf293.ext he345
       replace hf294 := hf294.ext he345
       refine wl_eff ha347 rfl rfl rfl (op_append (ts := #[]) (s := shRowN) ha347 rfl Try.underlying23 ti41 rfl pos_shRowN rfl rfl hf294 (ho344.rds pos_shRowN) (by omega) (by omega) (by first | omega | (simp; omega)) (by first | omega | (simp; omega)) (.inl flat_shRowN)) ?_
       rintro v349 w350 ⟨ho351, hst352, hob353⟩ a354 ha354; clear ha347 a347
       have hx355 := hx348.stp hst352 (by intro q hq; have hq0 := hf294.lt q hq; omega)
       have hzhx355 := hst352.size
       replace hf292 := hf292.stp hst352 (by intro q hq; have hq0 := hf294.lt q hq; omega)
       replace hf293 := hf293.stp hst352 (by intro q hq; have hq0 := hf294.lt q hq; omega)
       replace ho344 := ho344.stp hst352 (by intro q hq; have hq0 := hf294.lt q hq; omega)
       have hsp356 : ∀ q, Value.ownBlock v349 = some q → Value.ownBlock v342 ≠ some q := by intro q hq hb; have hq0 := ho344.lt q hb; rcases hob353 with h | h; (rw [h] at hq; first | (have hq1 := hf294.lt q hq; omega)); (rw [h] at hq; cases hq; omega)
       refine wl_val ha354 rfl rfl rfl (op_assign ha354 rfl rfl) ?_
       intro a357 ha357; clear ha354 a354
       refine wpList_nil ?_
       refine block_n ?_
       refine then_n ?_
       refine wp_region_lit ?_
       refine wl_val ha357 rfl rfl rfl (op_move ha357 rfl rfl) ?_
       intro a358 ha358; clear ha357 a357
       refine wl_val ha358 rfl rfl rfl ((op_add ha358 rfl rfl rfl).int (IntWalk.i64_in _ (by omega))) ?_
       intro a359 ha359; clear ha358 a358
       refine wl_val ha359 rfl rfl rfl (op_assign ha359 rfl rfl) ?_
       intro a360 ha360; clear ha359 a359
       refine wpList_nil ?_
       refine round_end (x := (i, v, zs)) ((i + 1), v349, (zs ++ [((x306 : List Int), (v313 : Value))])) ?_ ?_
       ·
        refine ⟨(Sl.cons_ ha360 rfl rfl (Sl.cons_ ha360 rfl rfl (Sl.cons_ ha360 rfl rfl (Sl.cons_ ha360 rfl rfl (Sl.cons_ ha360 rfl rfl (Sl.cons_ ha360 rfl rfl (Sl.cons_ ha360 rfl (int_eq (by omega)) (Sl.nil_ ha360)))))))), hx355, hf292, hf293, (ho351.fin (by omega) (by omega) (by omega)), (by omega), (by omega), (by first | omega | (simp; omega)), (by rw [drop_cons hx306, flR_cons ((inC_eq hx318).trans c335)] at hF; rw [List.map_append, List.append_assoc]; exact hF), (by intro z hz; rcases List.mem_append.1 hz with hz | hz; (exact hR z hz); (obtain rfl := List.mem_singleton.1 hz; assumption))⟩
       ·show (t.2.length - ((i + 1)) : Nat) < t.2.length - i; omega
      ·
       rw [c335] at ha333
       refine cond_f ha333 rfl ?_
       refine wp_skip ?_
       refine block_n ?_
       refine then_n ?_
       refine wp_region_lit ?_
       refine wl_val ha333 rfl rfl rfl (op_move ha333 rfl rfl) ?_
       intro a361 ha361; clear ha333 a333
       refine wl_val ha361 rfl rfl rfl ((op_add ha361 rfl rfl rfl).int (IntWalk.i64_in _ (by omega))) ?_
       intro a362 ha362; clear ha361 a361
       refine wl_val ha362 rfl rfl rfl (op_assign ha362 rfl rfl) ?_
       intro a363 ha363; clear ha362 a362
       refine wpList_nil ?_
       refine round_end (x := (i, v, zs)) ((i + 1), v, zs) ?_ ?_
       ·
        refine ⟨(Sl.cons_ ha363 rfl rfl (Sl.cons_ ha363 rfl rfl (Sl.cons_ ha363 rfl rfl (Sl.cons_ ha363 rfl rfl (Sl.cons_ ha363 rfl rfl (Sl.cons_ ha363 rfl rfl (Sl.cons_ ha363 rfl (int_eq (by omega)) (Sl.nil_ ha363)))))))), hx334, hf292, hf293, (hf294.fin (by omega) (by omega) (by omega)), (by omega), (by omega), (by first | omega | (simp; omega)), (by rw [drop_cons hx306, flR_skip ((inC_eq hx318).trans c335)] at hF; exact hF), (by exact hR)⟩
       ·show (t.2.length - ((i + 1)) : Nat) < t.2.length - i; omega
     ·
      rw [decide_eq_false c302] at ha301
      refine cond_f ha301 rfl ?_
      refine wp_exit ?_
      refine then_e ?_
      refine then_e ?_
      refine block_hit ?_
      refine then_n ?_
      refine wp_seq ?_
      refine wp_region_lit ?_
      refine wl_val ha301 rfl rfl rfl (op_fieldAddr (sz := 0) ha301 rfl Try.underlying28 rfl rfl ti22 rfl) ?_
      intro a364 ha364; clear ha301 a301
      refine wl_val ha364 rfl rfl rfl (op_loadF (off := 0) ha364 rfl Try.underlying22 rfl rfl hf292.cells rfl) ?_
      intro a365 ha365; clear ha364 a364
      refine wl_val ha365 rfl rfl rfl (op_move ha365 rfl rfl) ?_
      intro a366 ha366; clear ha365 a365
      refine wl_callR ha366 rfl rfl rfl (op_call ha366 rfl cb74 rfl) (c_spec_l31With _ v_t0 t.1 v ((zs.map (·.1))) (h_t0.ext pos_shStr hx291) (rdsR_shRowN (lo := w30.heap.size) (hi := w290.heap.size) (hf294.fin (by omega) (by omega) (by omega)) hR hx291) (by first | assumption | omega | (simp; omega)) (by first | assumption | omega | (simp; omega)) (by intro r hr9; obtain ⟨z, hz, rfl⟩ := List.mem_map.1 hr9; have h8 : z.1 ∈ flR column low high t.2 := (by rw [← hF]; exact List.mem_append_left _ (List.mem_map_of_mem hz)); have h7 := (htrc27 _ (flR_mem h8)).1; omega)) ?_
      rintro v367 w368 he369 ⟨u370, u372, z374, rfl, ho371, ho373, hN375, hE376⟩ a377 ha377; clear ha366 a366
      have hx378 := hx291.trans' he369
      have hzhx378 := he369.size
      replace hf292 := hf292.ext he369
      replace hf293 := hf293.ext he369
      replace hf294 := hf294.ext he369
      have hlhE376 := absLen hE376
      refine wl_effS ha377 rfl rfl (op_storeAll' ha377 rfl ti28 rfl rfl hf293 rfl rfl (by intro u hu; have hu : u ∈ ([u370, u372] : List Value) := hu; simp only [List.mem_cons, List.mem_nil_iff, or_false] at hu; rcases hu with rfl | rfl <;> first | rfl | exact ho371.one | exact ho373.one) rfl) ?_
      rintro w379 ⟨hb381, hst380, hz382⟩
      have hx383 := hx378.stp hst380 (by intro q hq; cases hq; exact (by omega))
      have hzhx383 := hst380.size
      replace hf292 := hf292.stp hst380 (by intro q hq; cases hq; omega)
      replace hf294 := hf294.stp hst380 (by intro q hq; cases hq; omega)
      replace ho371 := ho371.stp hst380 (by intro q hq; cases hq; omega)
      replace ho373 := ho373.stp hst380 (by intro q hq; cases hq; omega)
      replace hN375 := hN375.stp hst380 (by intro q hq; cases hq; omega)
      clear hf293
      refine wl_val ha377 rfl rfl rfl (op_assign ha377 rfl rfl) ?_
      intro a384 ha384; clear ha377 a377
      refine wpList_nil ?_
      refine then_n ?_
      refine wp_ret ?_
      refine retct ha384 rfl rfl rfl Try.underlying28 ti28 rfl hb381.cells ?_
      clear ha384 a384
      exfalso; omega
   ·
    rw [decide_eq_false c279] at ha278
    refine cond_t ha278 rfl ?_
    refine wp_seq ?_
    refine wp_region_lit ?_
    refine wl_val ha278 rfl rfl rfl (op_build (vs := []) (cs := #[.slice none 0 0, .slice none 0 0]) ha278 rfl Try.underlying28 ti28 bp28 rfl rfl) ?_
    intro a385 ha385; clear ha278 a278
    refine wl_val ha385 rfl rfl rfl (op_move ha385 rfl rfl) ?_
    intro a386 ha386; clear ha385 a385
    refine wl_effS ha386 rfl rfl (op_storeAll' ha386 rfl ti28 rfl rfl hb11 rfl rfl (by simp [Value.oneCell']) rfl) ?_
    rintro w387 ⟨hb389, hst388, hz390⟩
    have hx391 := hx33.stp hst388 (by intro q hq; cases hq; exact (by omega))
    have hzhx391 := hst388.size
    replace hb4 := hb4.stp hst388 (by intro q hq; cases hq; omega)
    clear hb11
    refine wl_val ha386 rfl rfl rfl (op_assign ha386 rfl rfl) ?_
    intro a392 ha392; clear ha386 a386
    refine wpList_nil ?_
    refine then_n ?_
    refine wp_ret ?_
    refine then_r ?_
    refine retct ha392 rfl rfl rfl Try.underlying28 ti28 rfl hb389.cells ?_
    clear ha392 a392
    have hr : cdR t column low high = _ := (cdR_2 hk1c27 (.inr (.inl c36)))
    refine ret_mk hx391 ⟨(.slice none 0 0), (.slice none 0 0), [], (tup2_eq (by rfl) (int_eq (by first | exact hr.symm | omega))), ?_, Own.nil _ _ _ _ _ _, Nst.nil _ _ _ _ _ _, ?_⟩
    ·
     refine Own.nil_ _ _ _ _ _ _ ?_
     rw [flT_no (by rw [hr]; first | decide | assumption)]
    ·
     rw [flT_no (by rw [hr]; first | decide | assumption)]; rfl
 ·
  rw [decide_eq_false c27] at ha26
  refine wl_skip ha26 rfl rfl rfl ?_
  intro a393 ha393; clear ha26 a26
  refine wl_skip ha393 rfl rfl rfl ?_
  intro a394 ha394; clear ha393 a393
  refine wl_skip ha394 rfl rfl rfl ?_
  intro a395 ha395; clear ha394 a394
  refine wl_skip ha395 rfl rfl rfl ?_
  intro a396 ha396; clear ha395 a395
  refine wl_skip ha396 rfl rfl rfl ?_
  intro a397 ha397; clear ha396 a396
  refine wl_skip ha397 rfl rfl rfl ?_
  intro a398 ha398; clear ha397 a397
  refine wl_skip ha398 rfl rfl rfl ?_
  intro a399 ha399; clear ha398 a398
  refine wl_skip ha399 rfl rfl rfl ?_
  intro a400 ha400; clear ha399 a399
  refine wl_val ha400 rfl rfl rfl (op_pick_f ha400 rfl rfl rfl) ?_
  intro a401 ha401; clear ha400 a400
  refine wpList_nil ?_
  refine then_n ?_
  refine cond_f ha401 rfl ?_
  refine wp_skip ?_
  refine then_n ?_
  refine wp_seq ?_
  refine wp_seq ?_
  refine wp_region_lit ?_
  refine wl_val ha401 rfl rfl rfl (op_move ha401 rfl rfl) ?_
  intro a402 ha402; clear ha401 a401
  refine wl_val ha402 rfl rfl rfl ((op_neq ha402 rfl rfl rfl).to (congrArg Value.bool decide_not)) ?_
  intro a403 ha403; clear ha402 a402
  refine wpList_nil ?_
  refine then_n ?_
  rw [decide_eq_false c27] at ha403
  refine cond_t ha403 rfl ?_
  refine wp_seq ?_
  refine wp_region_lit ?_
  refine wl_val ha403 rfl rfl rfl (op_build (vs := []) (cs := #[.slice none 0 0, .slice none 0 0]) ha403 rfl Try.underlying28 ti28 bp28 rfl rfl) ?_
  intro a404 ha404; clear ha403 a403
  refine wl_val ha404 rfl rfl rfl (op_move ha404 rfl rfl) ?_
  intro a405 ha405; clear ha404 a404
  refine wl_effS ha405 rfl rfl (op_storeAll' ha405 rfl ti28 rfl rfl hb11 rfl rfl (by simp [Value.oneCell']) rfl) ?_
  rintro w406 ⟨hb408, hst407, hz409⟩
  have hx410 := hx22.stp hst407 (by intro q hq; cases hq; exact (by omega))
  have hzhx410 := hst407.size
  replace hb4 := hb4.stp hst407 (by intro q hq; cases hq; omega)
  clear hb11
  refine wl_val ha405 rfl rfl rfl (op_assign ha405 rfl rfl) ?_
  intro a411 ha411; clear ha405 a405
  refine wpList_nil ?_
  refine then_n ?_
  refine wp_ret ?_
  refine then_r ?_
  refine retct ha411 rfl rfl rfl Try.underlying28 ti28 rfl hb408.cells ?_
  clear ha411 a411
  have hr : cdR t column low high = _ := (cdR_a c27)
  refine ret_mk hx410 ⟨(.slice none 0 0), (.slice none 0 0), [], (tup2_eq (by rfl) (int_eq (by first | exact hr.symm | omega))), ?_, Own.nil _ _ _ _ _ _, Nst.nil _ _ _ _ _ _, ?_⟩
  ·
   refine Own.nil_ _ _ _ _ _ _ ?_
   rw [flT_no (by rw [hr]; first | decide | assumption)]
  ·
   rw [flT_no (by rw [hr]; first | decide | assumption)]; rfl

theorem c_impl_FilterRows (w0 : World) (v_t0 : Value) (v_t1 : Value) (t : List Str × List (List Int)) {S_t0 : Nat → Prop} {S_t1 : Nat → Prop} (column : Int) (low : Int) (high : Int) (h_t0 : Rds shStr S_t0 w0 v_t0 t.1) (h_t1 : Rds shRow S_t1 w0 v_t1 t.2) :
  Calls Try.prog 38 #[.agg #[v_t0, v_t1], .int .i64 column, .int .i64 low, .int .i64 high] w0 (Ret w0 (fun v w1 => ∃ r0_0 r0_1 z0_1, v = .tuple #[.agg #[r0_0, r0_1], .int .i64 (cdR t column low high)] ∧ Own shStr 9 w0.heap.size w0.heap.size w1.heap.size w1 r0_0 ((flT t column low high).1) ∧ Own shRowN 41 w0.heap.size w0.heap.size w1.heap.size w1 r0_1 z0_1 ∧ Nst shI64 2 (fun x : List Int => x) w0.heap.size w1.heap.size w1 z0_1 ∧ z0_1.map (·.1) = ((flT t column low high).2))) := by
 refine enter (N := 60) Try.func38 rfl rfl rfl ?_
 intro a0 ha0
 have hx0 := Ext.rfl' w0
 have hl_t0 := h_t0.length_le
 have hl_t1 := h_t1.length_le
 refine wp_seq ?_
 refine wp_region_lit ?_
 refine wl_eff ha0 rfl rfl rfl (op_box' ha0 rfl rfl rfl) ?_
 rintro _ w2 ⟨rfl, he3, hb4, hz5⟩ a6 ha6; clear ha0 a0
 have hx7 := hx0.trans' he3
 have hzhx7 := he3.size
 refine wl_eff ha6 rfl rfl rfl (op_alloc' rfl ti28 rfl) ?_
 rintro _ w9 ⟨rfl, he10, hb11, hz12⟩ a13 ha13; clear ha6 a6
 have hx14 := hx7.trans' he10
 have hzhx14 := he10.size
 replace hb4 := hb4.ext he10
 refine wl_val ha13 rfl rfl rfl (op_assign ha13 rfl rfl) ?_
 intro a15 ha15; clear ha13 a13
 refine wpList_nil ?_
 refine then_n ?_
 refine wp_seq ?_
 refine wp_seq ?_
 refine wp_region_lit ?_
 refine wl_val ha15 rfl rfl rfl (op_loadS ha15 rfl Try.underlying28 ti28 rfl rfl hb4.cells) ?_
 intro a16 ha16; clear ha15 a15
 refine wl_callR ha16 rfl rfl rfl (op_call ha16 rfl cb19 rfl) (c_impl_IsTable _ v_t0 v_t1 t (h_t0.ext pos_shStr hx14) (h_t1.ext pos_shRow hx14)) ?_
 rintro v17 w18 he19 rfl a20 ha20; clear ha16 a16
 have hx21 := hx14.trans' he19
 have hzhx21 := he19.size
 replace hb4 := hb4.ext he19
 replace hb11 := hb11.ext he19
 refine wl_val ha20 rfl rfl rfl (op_not ha20 rfl rfl) ?_
 intro a22 ha22; clear ha20 a20
 refine wpList_nil ?_
 refine then_n ?_
 rcases Bool.eq_false_or_eq_true (tabB t) with c23 | c23
 ·
  rw [c23] at ha22
  have htbc23 := tab_bd c23
  have htrc23 := tab_rows c23
  refine cond_f ha22 rfl ?_
  refine wp_skip ?_
  refine then_n ?_
  refine wp_seq ?_
  refine wp_seq ?_
  refine wp_region_lit ?_
  refine wl_val ha22 rfl rfl rfl (op_loadS ha22 rfl Try.underlying28 ti28 rfl rfl hb4.cells) ?_
  intro a24 ha24; clear ha22 a22
  refine wl_val ha24 rfl rfl rfl (op_move ha24 rfl rfl) ?_
  intro a25 ha25; clear ha24 a24
  refine wl_callR ha25 rfl rfl rfl (op_call ha25 rfl cb70 rfl) (c_impl_isColumn _ v_t0 v_t1 t column (h_t0.ext pos_shStr hx21) (h_t1.ext pos_shRow hx21)) ?_
  rintro v26 w27 he28 rfl a29 ha29; clear ha25 a25
  have hx30 := hx21.trans' he28
  have hzhx30 := he28.size
  replace hb4 := hb4.ext he28
  replace hb11 := hb11.ext he28
  refine wl_val ha29 rfl rfl rfl (op_not ha29 rfl rfl) ?_
  intro a31 ha31; clear ha29 a29
  refine wl_val ha31 rfl rfl rfl (op_move ha31 rfl rfl) ?_
  intro a32 ha32; clear ha31 a31
  rcases Bool.eq_false_or_eq_true (colB t column) with c33 | c33
  ·
   rw [c33] at ha32
   have hcbc33 := col_bd c33
   refine wl_val ha32 rfl rfl rfl (op_move ha32 rfl rfl) ?_
   intro a34 ha34; clear ha32 a32
   refine wl_callR ha34 rfl rfl rfl (op_call ha34 rfl cb77 rfl) (c_impl_isValue _ low ) ?_
   rintro v35 w36 he37 rfl a38 ha38; clear ha34 a34
   have hx39 := hx30.trans' he37
   have hzhx39 := he37.size
   replace hb4 := hb4.ext he37
   replace hb11 := hb11.ext he37
   refine wl_val ha38 rfl rfl rfl (op_not ha38 rfl rfl) ?_
   intro a40 ha40; clear ha38 a38
   refine wl_val ha40 rfl rfl rfl (op_pick_f ha40 rfl rfl rfl) ?_
   intro a41 ha41; clear ha40 a40
   refine wl_val ha41 rfl rfl rfl (op_move ha41 rfl rfl) ?_
   intro a42 ha42; clear ha41 a41
   rcases Bool.eq_false_or_eq_true (valB low) with c43 | c43
   ·
    rw [c43] at ha42
    refine wl_val ha42 rfl rfl rfl (op_move ha42 rfl rfl) ?_
    intro a44 ha44; clear ha42 a42
    refine wl_callR ha44 rfl rfl rfl (op_call ha44 rfl cb77 rfl) (c_impl_isValue _ high ) ?_
    rintro v45 w46 he47 rfl a48 ha48; clear ha44 a44
    have hx49 := hx39.trans' he47
    have hzhx49 := he47.size
    replace hb4 := hb4.ext he47
    replace hb11 := hb11.ext he47
    refine wl_val ha48 rfl rfl rfl (op_not ha48 rfl rfl) ?_
    intro a50 ha50; clear ha48 a48
    refine wl_val ha50 rfl rfl rfl (op_pick_f ha50 rfl rfl rfl) ?_
    intro a51 ha51; clear ha50 a50
    refine wpList_nil ?_
    refine then_n ?_
    rcases Bool.eq_false_or_eq_true (valB high) with c52 | c52
    ·
     rw [c52] at ha51
     refine cond_f ha51 rfl ?_
     refine wp_skip ?_
     refine then_n ?_
     refine wp_seq ?_
     refine wp_region_lit ?_
     refine wl_val ha51 rfl rfl rfl (op_loadS ha51 rfl Try.underlying28 ti28 rfl rfl hb4.cells) ?_
     intro a53 ha53; clear ha51 a51
     refine wl_callR ha53 rfl rfl rfl (op_call ha53 rfl cb75 rfl) (c_impl_copyTable _ v_t0 v_t1 t (h_t0.ext pos_shStr hx49) (h_t1.ext pos_shRow hx49) (by first | assumption | omega | (simp; omega))) ?_
     rintro v54 w55 he56 ⟨u57, u59, z61, rfl, ho58, ho60, hN62, hE63⟩ a64 ha64; clear ha53 a53
     have hx65 := hx49.trans' he56
     have hzhx65 := he56.size
     replace hb4 := hb4.ext he56
     replace hb11 := hb11.ext he56
     have hlhE63 := absLen hE63
     refine wl_eff ha64 rfl rfl rfl (op_alloc' rfl ti28 rfl) ?_
     rintro _ w67 ⟨rfl, he68, hb69, hz70⟩ a71 ha71; clear ha64 a64
     have hx72 := hx65.trans' he68
     have hzhx72 := he68.size
     replace hb4 := hb4.ext he68
     replace hb11 := hb11.ext he68
     replace ho58 := ho58.ext he68
     replace ho60 := ho60.ext he68
     replace hN62 := hN62.ext he68
     refine wl_effS ha71 rfl rfl (op_storeAll' ha71 rfl ti28 rfl rfl hb69 rfl rfl (by intro u hu; have hu : u ∈ ([u57, u59] : List Value) := hu; simp only [List.mem_cons, List.mem_nil_iff, or_false] at hu; rcases hu with rfl | rfl <;> first | rfl | exact ho58.one | exact ho60.one) rfl) ?_
     rintro w73 ⟨hb75, hst74, hz76⟩
     have hx77 := hx72.stp hst74 (by intro q hq; cases hq; exact (by omega))
     have hzhx77 := hst74.size
     replace hb4 := hb4.stp hst74 (by intro q hq; cases hq; omega)
     replace hb11 := hb11.stp hst74 (by intro q hq; cases hq; omega)
     replace ho58 := ho58.stp hst74 (by intro q hq; cases hq; omega)
     replace ho60 := ho60.stp hst74 (by intro q hq; cases hq; omega)
     replace hN62 := hN62.stp hst74 (by intro q hq; cases hq; omega)
     clear hb69
     refine wpList_nil ?_
     refine then_n ?_
     refine wp_seq ?_
     refine wp_region_lit ?_
     refine wl_val ha71 rfl rfl rfl (op_fieldAddr (sz := 0) ha71 rfl Try.underlying28 rfl rfl ti22 rfl) ?_
     intro a78 ha78; clear ha71 a71
     refine wl_val ha78 rfl rfl rfl (op_loadF (off := 0) ha78 rfl Try.underlying22 rfl rfl hb75.cells rfl) ?_
     intro a79 ha79; clear ha78 a78
     refine wl_val ha79 rfl rfl rfl (op_build (vs := [(0, u57)]) (cs := #[u57, .slice none 0 0]) ha79 rfl Try.underlying28 ti28 bp28 rfl ((fill_one ho58.cells1 rfl rfl).trans rfl)) ?_
     intro a80 ha80; clear ha79 a79
     refine wl_eff ha80 rfl rfl rfl (op_alloc' rfl ti28 rfl) ?_
     rintro _ w82 ⟨rfl, he83, hb84, hz85⟩ a86 ha86; clear ha80 a80
     have hx87 := hx77.trans' he83
     have hzhx87 := he83.size
     replace hb4 := hb4.ext he83
     replace hb11 := hb11.ext he83
     replace ho58 := ho58.ext he83
     replace ho60 := ho60.ext he83
     replace hN62 := hN62.ext he83
     replace hb75 := hb75.ext he83
     refine wl_effS ha86 rfl rfl (op_storeAll' ha86 rfl ti28 rfl rfl hb84 rfl rfl (by intro u hu; have hu : u ∈ ([u57, .slice none 0 0] : List Value) := hu; simp only [List.mem_cons, List.mem_nil_iff, or_false] at hu; rcases hu with rfl | rfl <;> first | rfl | exact ho58.one) rfl) ?_
     rintro w88 ⟨hb90, hst89, hz91⟩
     have hx92 := hx87.stp hst89 (by intro q hq; cases hq; exact (by omega))
     have hzhx92 := hst89.size
     replace hb4 := hb4.stp hst89 (by intro q hq; cases hq; omega)
     replace hb11 := hb11.stp hst89 (by intro q hq; cases hq; omega)
     replace ho58 := ho58.stp hst89 (by intro q hq; cases hq; omega)
     replace ho60 := ho60.stp hst89 (by intro q hq; cases hq; omega)
     replace hN62 := hN62.stp hst89 (by intro q hq; cases hq; omega)
     replace hb75 := hb75.stp hst89 (by intro q hq; cases hq; omega)
     clear hb84
     refine wpList_nil ?_
     refine then_n ?_
     refine wp_seq ?_
     refine wp_seq ?_
     refine wp_region_lit ?_
     refine wl_val ha86 rfl rfl rfl (op_fieldAddr (sz := 0) ha86 rfl Try.underlying28 rfl rfl ti23 rfl) ?_
     intro a93 ha93; clear ha86 a86
     refine wl_val ha93 rfl rfl rfl (op_loadF (off := 1) ha93 rfl Try.underlying23 rfl rfl hb75.cells rfl) ?_
     intro a94 ha94; clear ha93 a93
     refine wl_val ha94 rfl rfl rfl (op_len_sl ha94 rfl Try.underlying23 rfl (ho60.rds pos_shRowN)) ?_
     intro a95 ha95; clear ha94 a94
     refine wl_val ha95 rfl rfl rfl (op_move ha95 rfl rfl) ?_
     intro a96 ha96; clear ha95 a95
     refine wpList_nil ?_
     refine then_n ?_
     refine wp_block ?_
     refine loop_inv (X := Nat × Value × (List (List Int × Value))) (fun (⟨i, v, zs⟩ : Nat × Value × (List (List Int × Value))) fr wl => Sl 60 fr [(1, .int .i64 column), (2, .int .i64 low), (3, .int .i64 high), (8, .pointer (some (⟨w2.heap.size, 0, none⟩ : Addr))), (11, .pointer (some (⟨w73.heap.size, 0, none⟩ : Addr))), (39, u59), (40, .int .i64 ((z61.length : Nat) : Int)), (41, .int .i64 ((i : Nat) : Int))] ∧ Ext w0 wl ∧ Box wl w2.heap.size 28 [.slice none 0 0, .slice none 0 0] ∧ Own shStr 9 w46.heap.size w46.heap.size w55.heap.size wl u57 (((t).1)) ∧ Own shRowN 41 w46.heap.size w46.heap.size w55.heap.size wl u59 z61 ∧ Nst shI64 2 (fun x : List Int => x) w46.heap.size w55.heap.size wl z61 ∧ Own shRowN 41 w88.heap.size w88.heap.size wl.heap.size wl v zs ∧ Box wl w73.heap.size 28 [u57, v] ∧ w88.heap.size ≤ wl.heap.size ∧ (∀ q, Value.ownBlock v = some q → Value.ownBlock u59 ≠ some q) ∧ (i ≤ z61.length) ∧ (zs.length ≤ i) ∧ (zs.map (·.1) ++ flR column low high (t.2.drop i) = flR column low high t.2) ∧ (zs.Sublist (z61.take i))) (fun (⟨i, v, zs⟩ : Nat × Value × (List (List Int × Value))) => z61.length - i) (0, (.slice none 0 0), []) ?_ ?_
     ·
      exact ⟨(Sl.cons_ ha96 rfl rfl (Sl.cons_ ha96 rfl rfl (Sl.cons_ ha96 rfl rfl (Sl.cons_ ha96 rfl rfl (Sl.cons_ ha96 rfl rfl (Sl.cons_ ha96 rfl rfl (Sl.cons_ ha96 rfl rfl (Sl.cons_ ha96 rfl (int_eq (by omega)) (Sl.nil_ ha96))))))))), hx92, hb11, ho58, ho60, hN62, (Own.nil _ _ _ _ _ _), hb90, (by omega), (by intro q hq; cases hq), (by omega), (by exact Nat.le_refl _), (by rfl), (by exact List.nil_sublist _)⟩
     ·
      clear ha96 a96
      rintro ⟨i, v, zs⟩ a106 w97 ⟨ha106, hx98, hf99, hf100, hf103, hf104, hf101, hf102, hzl107, hsp105, hi, hl, hF, hS⟩
      have hzhx98 := hx98.size
      refine wp_seq ?_
      refine wp_region_lit ?_
      refine wl_val ha106 rfl rfl rfl (op_lss ha106 rfl rfl rfl) ?_
      intro a108 ha108; clear ha106 a106
      refine wpList_nil ?_
      refine then_n ?_
      refine wp_seq ?_
      by_cases c109 : ((i : Nat) : Int) < ((z61.length : Nat) : Int)
      ·
       rw [decide_eq_true c109] at ha108
       refine cond_t ha108 rfl ?_
       refine wp_skip ?_
       refine then_n ?_
       refine wp_seq ?_
       refine wp_block ?_
       refine wp_seq ?_
       refine wp_region_lit ?_
       obtain ⟨x110, hx110⟩ := get_ex (xs := z61) (j := i) (by omega)
       obtain ⟨p111, c112, hi113, hc114, hr115, hs116⟩ := Rds.at_ (hf103.rds pos_shRowN) hx110
       obtain ⟨rfl, b117⟩ := inv_shRowN hr115
       have hn118 : Own shI64 2 w46.heap.size w46.heap.size w55.heap.size w97 x110.2 x110.1 := hf104.get hx110
       obtain ⟨_, _⟩ : _ ∧ _ := hs116
       have hzx110 : t.2[i]? = some x110.1 := (by rw [← hE63, List.getElem?_map, hx110]; rfl)
       have hrbx110 := htrc23 _ (List.mem_of_getElem? hzx110)
       refine wl_val ha108 rfl rfl rfl (op_indexAddr ha108 rfl Try.underlying23 ti41 rfl rfl (by omega) hi113) ?_
       intro a119 ha119; clear ha108 a108
       refine wl_val ha119 rfl rfl rfl (op_loadH ha119 rfl Try.underlying41 rfl rfl hc114 rfl) ?_
       intro a120 ha120; clear ha119 a119
       refine wl_val ha120 rfl rfl rfl (op_assign ha120 rfl rfl) ?_
       intro a121 ha121; clear ha120 a120
       refine wpList_nil ?_
       refine then_n ?_
       refine wp_seq ?_
       refine wp_region_lit ?_
       refine wl_val ha121 rfl rfl rfl (op_move ha121 rfl rfl) ?_
       intro a122 ha122; clear ha121 a121
       refine wl_val ha122 rfl rfl rfl (op_move ha122 rfl rfl) ?_
       intro a123 ha123; clear ha122 a122
       obtain ⟨x124, hx124⟩ := get_ex (xs := x110.1) (j := column.toNat) (by omega)
       obtain ⟨p125, c126, hi127, hc128, hr129, hs130⟩ := Rds.at_ (hn118.rds pos_shI64) hx124
       obtain ⟨rfl, b131⟩ := inv_shI64 hr129
       obtain ⟨_, _⟩ : _ ∧ _ := hs130
       refine wl_val ha123 rfl rfl rfl (op_indexAddr ha123 rfl Try.underlying41 ti2 rfl rfl (by omega) hi127) ?_
       intro a132 ha132; clear ha123 a123
       refine wl_val ha132 rfl rfl rfl (op_loadH ha132 rfl Try.underlying2 rfl rfl hc128 rfl) ?_
       intro a133 ha133; clear ha132 a132
       refine wl_val ha133 rfl rfl rfl (op_move ha133 rfl rfl) ?_
       intro a134 ha134; clear ha133 a133
       refine wl_val ha134 rfl rfl rfl (op_move ha134 rfl rfl) ?_
       intro a135 ha135; clear ha134 a134
       refine wl_callR ha135 rfl rfl rfl (op_call ha135 rfl cb78 rfl) (c_impl_within _ x124 low high ) ?_
       rintro v136 w137 he138 rfl a139 ha139; clear ha135 a135
       have hx140 := hx98.trans' he138
       have hzhx140 := he138.size
       replace hf99 := hf99.ext he138
       replace hf100 := hf100.ext he138
       replace hf103 := hf103.ext he138
       replace hf104 := hf104.ext he138
       replace hf101 := hf101.ext he138
       replace hf102 := hf102.ext he138
       replace hn118 := hn118.ext he138
       replace hc114 := hc114.ext he138
       replace hc128 := hc128.ext he138
       refine wpList_nil ?_
       refine then_n ?_
       rcases Bool.eq_false_or_eq_true (decide (low ≤ x124) && decide (x124 ≤ high)) with c141 | c141
       ·
        rw [c141] at ha139
        refine cond_t ha139 rfl ?_
        refine wp_region_lit ?_
        refine wl_val ha139 rfl rfl rfl (op_fieldAddr (sz := 0) ha139 rfl Try.underlying28 rfl rfl ti23 rfl) ?_
        intro a142 ha142; clear ha139 a139
        refine wl_val ha142 rfl rfl rfl (op_loadF (off := 1) ha142 rfl Try.underlying23 rfl rfl hf102.cells rfl) ?_
        intro a143 ha143; clear ha142 a142
        refine wl_val ha143 rfl rfl rfl (op_move ha143 rfl rfl) ?_
        intro a144 ha144; clear ha143 a143
        refine wl_eff ha144 rfl rfl rfl (op_buildSlice (s := shRowN) (xs := [((x110.1 : List Int), (x110.2 : Value))]) (cs := [x110.2]) (vs := [(0, x110.2)]) (S := fun _ => False) (le := w137.heap.size) ha144 rfl pos_shRowN Try.underlying23 ti41 rfl rfl (by decide) ((fill_one (off := 0) hn118.cells1 (by kernel_rfl) (by kernel_rfl)).trans (by kernel_rfl)) (Els.single (mk_shRowN (((x110.1 : List Int), (x110.2 : Value))) hn118.one)) (fun _ h => h.elim)) ?_
        rintro v145 w146 ⟨ho147, he148, hob149⟩ a150 ha150; clear ha144 a144
        have hx151 := hx140.trans' he148
        have hzhx151 := he148.size
        replace hf99 := hf99.ext he148
        replace hf100 := hf100.ext he148
        replace hf103 := hf103.ext he148
        replace hf104 := hf104.ext he148
        replace hf101 := hf101.ext he148
        replace hf102 := hf102.ext he148
        replace hn118 := hn118.ext he148
        replace hc114 := hc114.ext he148
        replace hc128 := hc128.ext he148
        refine wl_eff ha150 rfl rfl rfl (op_append (ts := #[]) (s := shRowN) ha150 rfl Try.underlying23 ti41 rfl pos_shRowN rfl rfl hf101 (ho147.rds pos_shRowN) (by omega) (by omega) (by first | omega | (simp; omega)) (by first | omega | (simp; omega)) (.inl flat_shRowN)) ?_
        rintro v152 w153 ⟨ho154, hst155, hob156⟩ a157 ha157; clear ha150 a150
        have hx158 := hx151.stp hst155 (by intro q hq; have hq0 := hf101.lt q hq; omega)
        have hzhx158 := hst155.size
        replace hf99 := hf99.stp hst155 (by intro q hq; have hq0 := hf101.lt q hq; omega)
        replace hf100 := hf100.stp hst155 (by intro q hq; have hq0 := hf101.lt q hq; omega)
        replace hf103 := hf103.stp hst155 (by intro q hq; have hq0 := hf101.lt q hq; omega)
        replace hf104 := hf104.stp hst155 (by intro q hq; have hq0 := hf101.lt q hq; omega)
        replace hf102 := hf102.stp hst155 (by intro q hq; have hq0 := hf101.lt q hq; omega)
        replace hn118 := hn118.stp hst155 (by intro q hq; have hq0 := hf101.lt q hq; omega)
        replace ho147 := ho147.stp hst155 (by intro q hq; have hq0 := hf101.lt q hq; omega)
        have hsp159 : ∀ q, Value.ownBlock v152 = some q → Value.ownBlock u59 ≠ some q := by intro q hq hb; have hq0 := hf103.lt q hb; rcases hob156 with h | h; (rw [h] at hq; first | (have hq1 := hf101.lt q hq; omega) | exact hsp105 q hq hb); (rw [h] at hq; cases hq; omega)
        have hsp160 : ∀ q, Value.ownBlock v152 = some q → Value.ownBlock v145 ≠ some q := by intro q hq hb; have hq0 := ho147.lt q hb; rcases hob156 with h | h; (rw [h] at hq; first | (have hq1 := hf101.lt q hq; omega)); (rw [h] at hq; cases hq; omega)
        refine wl_val ha157 rfl rfl rfl (op_fieldAddr (sz := 0) ha157 rfl Try.underlying28 rfl rfl ti23 rfl) ?_
        intro a161 ha161; clear ha157 a157
        refine wl_effS ha161 rfl rfl (op_store' (off := 1) ha161 rfl ti23 rfl rfl hf102 ho154.cells1 rfl (by intro u hu; have hu : u ∈ ([v152] : List Value) := hu; simp only [List.mem_cons, List.mem_nil_iff, or_false] at hu; rcases hu with rfl <;> first | rfl | exact ho154.one) (Nat.le_of_ble_eq_true rfl)) ?_
        rintro w162 ⟨hb164, hst163, hz165⟩
        have hx166 := hx158.stp hst163 (by intro q hq; cases hq; exact (by omega))
        have hzhx166 := hst163.size
        replace hf99 := hf99.stp hst163 (by intro q hq; cases hq; omega)
        replace hf100 := hf100.stp hst163 (by intro q hq; cases hq; omega)
        replace hf103 := hf103.stp hst163 (by intro q hq; cases hq; omega)
        replace hf104 := hf104.stp hst163 (by intro q hq; cases hq; omega)
        replace hn118 := hn118.stp hst163 (by intro q hq; cases hq; omega)
        replace ho147 := ho147.stp hst163 (by intro q hq; cases hq; omega)
        replace ho154 := ho154.stp hst163 (by intro q hq; cases hq; omega)
        clear hf102
        refine wpList_nil ?_
        refine block_n ?_
        refine then_n ?_
        refine wp_region_lit ?_
        refine wl_val ha161 rfl rfl rfl ((op_add ha161 rfl rfl rfl).int (IntWalk.i64_in _ (by omega))) ?_
        intro a167 ha167; clear ha161 a161
        refine wl_val ha167 rfl rfl rfl (op_move ha167 rfl rfl) ?_
        intro a168 ha168; clear ha167 a167
        refine wpList_nil ?_
        refine round_end (x := (i, v, zs)) ((i + 1), v152, (zs ++ [((x110.1 : List Int), (x110.2 : Value))])) ?_ ?_
        ·
         refine ⟨(Sl.cons_ ha168 rfl rfl (Sl.cons_ ha168 rfl rfl (Sl.cons_ ha168 rfl rfl (Sl.cons_ ha168 rfl rfl (Sl.cons_ ha168 rfl rfl (Sl.cons_ ha168 rfl rfl (Sl.cons_ ha168 rfl rfl (Sl.cons_ ha168 rfl (int_eq (by omega)) (Sl.nil_ ha168))))))))), hx166, hf99, hf100, hf103, hf104, (ho154.fin (by omega) (by omega) (by omega)), hb164, (by omega), (by intro q hq; first | (intro hb; have hq0 := ho154.lt q hq; have hq1 := hf103.lt q hb; omega) | exact hsp159 q hq), (by omega), (by first | omega | (simp; omega)), (by rw [drop_cons hzx110, flR_cons ((inC_eq hx124).trans c141)] at hF; rw [List.map_append, List.append_assoc]; exact hF), (by rw [take_snoc hx110]; exact List.Sublist.append hS (List.Sublist.refl _))⟩
        ·show (z61.length - ((i + 1)) : Nat) < z61.length - i; omega
       ·
        rw [c141] at ha139
        refine cond_f ha139 rfl ?_
        refine wp_skip ?_
        refine block_n ?_
        refine then_n ?_
        refine wp_region_lit ?_
        refine wl_val ha139 rfl rfl rfl ((op_add ha139 rfl rfl rfl).int (IntWalk.i64_in _ (by omega))) ?_
        intro a169 ha169; clear ha139 a139
        refine wl_val ha169 rfl rfl rfl (op_move ha169 rfl rfl) ?_
        intro a170 ha170; clear ha169 a169
        refine wpList_nil ?_
        refine round_end (x := (i, v, zs)) ((i + 1), v, zs) ?_ ?_
        ·
         refine ⟨(Sl.cons_ ha170 rfl rfl (Sl.cons_ ha170 rfl rfl (Sl.cons_ ha170 rfl rfl (Sl.cons_ ha170 rfl rfl (Sl.cons_ ha170 rfl rfl (Sl.cons_ ha170 rfl rfl (Sl.cons_ ha170 rfl rfl (Sl.cons_ ha170 rfl (int_eq (by omega)) (Sl.nil_ ha170))))))))), hx140, hf99, hf100, hf103, hf104, (hf101.fin (by omega) (by omega) (by omega)), hf102, (by omega), (by intro q hq; first | (intro hb; have hq0 := hf101.lt q hq; have hq1 := hf103.lt q hb; omega) | exact hsp105 q hq), (by omega), (by first | omega | (simp; omega)), (by rw [drop_cons hzx110, flR_skip ((inC_eq hx124).trans c141)] at hF; exact hF), (by rw [take_snoc hx110]; exact hS.trans (List.sublist_append_left _ _))⟩
        ·show (z61.length - ((i + 1)) : Nat) < z61.length - i; omega
      ·
       rw [decide_eq_false c109] at ha108
       refine cond_f ha108 rfl ?_
       refine wp_exit ?_
       refine then_e ?_
       refine then_e ?_
       refine block_hit ?_
       refine then_n ?_
       refine wp_seq ?_
       refine wp_region_lit ?_
       refine wl_val ha108 rfl rfl rfl (op_loadS ha108 rfl Try.underlying28 ti28 rfl rfl hf102.cells) ?_
       intro a171 ha171; clear ha108 a108
       refine wl_effS ha171 rfl rfl (op_storeAll' ha171 rfl ti28 rfl rfl hf99 rfl rfl (by intro u hu; have hu : u ∈ ([u57, v] : List Value) := hu; simp only [List.mem_cons, List.mem_nil_iff, or_false] at hu; rcases hu with rfl | rfl <;> first | rfl | exact hf100.one | exact hf101.one) rfl) ?_
       rintro w172 ⟨hb174, hst173, hz175⟩
       have hx176 := hx98.stp hst173 (by intro q hq; cases hq; exact (by omega))
       have hzhx176 := hst173.size
       replace hf100 := hf100.stp hst173 (by intro q hq; cases hq; omega)
       replace hf103 := hf103.stp hst173 (by intro q hq; cases hq; omega)
       replace hf104 := hf104.stp hst173 (by intro q hq; cases hq; omega)
       replace hf101 := hf101.stp hst173 (by intro q hq; cases hq; omega)
       replace hf102 := hf102.stp hst173 (by intro q hq; cases hq; omega)
       clear hf99
       refine wl_val ha171 rfl rfl rfl (op_assign ha171 rfl rfl) ?_
       intro a177 ha177; clear ha171 a171
       refine wpList_nil ?_
       refine then_n ?_
       refine wp_ret ?_
       refine retct ha177 rfl rfl rfl Try.underlying28 ti28 rfl hb174.cells ?_
       clear ha177 a177
       have hr : cdR t column low high = _ := (cdR_0 c23 c33 c43 c52)
       have hF2 : zs.map (·.1) = flR column low high t.2 := (by rw [drop_nil (by omega)] at hF; simpa [flR] using hF)
       refine ret_mk hx176 ⟨u57, v, zs, (tup2_eq (by rfl) (int_eq (by first | exact hr.symm | omega))), ?_, hf101.fin (by omega) (by omega) (by omega), ?_, ?_⟩
       ·
        refine (hf100.fin (by omega) (by omega) (by omega)).cast ?_
        rw [flT_ok hr]
       ·
        exact (hf104.fin (by omega) (by omega)).sub (hS.trans (List.take_sublist _ _))
       ·
        rw [flT_ok hr]; exact hF2
    ·
     rw [c52] at ha51
     refine cond_t ha51 rfl ?_
     refine wp_seq ?_
     refine wp_region_lit ?_
     refine wl_val ha51 rfl rfl rfl (op_build (vs := []) (cs := #[.slice none 0 0, .slice none 0 0]) ha51 rfl Try.underlying28 ti28 bp28 rfl rfl) ?_
     intro a178 ha178; clear ha51 a51
     refine wl_effS ha178 rfl rfl (op_storeAll' ha178 rfl ti28 rfl rfl hb11 rfl rfl (by simp [Value.oneCell']) rfl) ?_
     rintro w179 ⟨hb181, hst180, hz182⟩
     have hx183 := hx49.stp hst180 (by intro q hq; cases hq; exact (by omega))
     have hzhx183 := hst180.size
     replace hb4 := hb4.stp hst180 (by intro q hq; cases hq; omega)
     clear hb11
     refine wl_val ha178 rfl rfl rfl (op_assign ha178 rfl rfl) ?_
     intro a184 ha184; clear ha178 a178
     refine wpList_nil ?_
     refine then_n ?_
     refine wp_ret ?_
     refine then_r ?_
     refine retct ha184 rfl rfl rfl Try.underlying28 ti28 rfl hb181.cells ?_
     clear ha184 a184
     have hr : cdR t column low high = _ := (cdR_2 c23 (.inr (.inr c52)))
     refine ret_mk hx183 ⟨(.slice none 0 0), (.slice none 0 0), [], (tup2_eq (by rfl) (int_eq (by first | exact hr.symm | omega))), ?_, Own.nil _ _ _ _ _ _, Nst.nil _ _ _ _ _ _, ?_⟩
     ·
      refine Own.nil_ _ _ _ _ _ _ ?_
      rw [flT_no (by rw [hr]; first | decide | assumption)]
     ·
      rw [flT_no (by rw [hr]; first | decide | assumption)]; rfl
   ·
    rw [c43] at ha42
    refine wl_skip ha42 rfl rfl rfl ?_
    intro a185 ha185; clear ha42 a42
    refine wl_skip ha185 rfl rfl rfl ?_
    intro a186 ha186; clear ha185 a185
    refine wl_skip ha186 rfl rfl rfl ?_
    intro a187 ha187; clear ha186 a186
    refine wl_val ha187 rfl rfl rfl (op_pick_t ha187 rfl rfl rfl) ?_
    intro a188 ha188; clear ha187 a187
    refine wpList_nil ?_
    refine then_n ?_
    refine cond_t ha188 rfl ?_
    refine wp_seq ?_
    refine wp_region_lit ?_
    refine wl_val ha188 rfl rfl rfl (op_build (vs := []) (cs := #[.slice none 0 0, .slice none 0 0]) ha188 rfl Try.underlying28 ti28 bp28 rfl rfl) ?_
    intro a189 ha189; clear ha188 a188
    refine wl_effS ha189 rfl rfl (op_storeAll' ha189 rfl ti28 rfl rfl hb11 rfl rfl (by simp [Value.oneCell']) rfl) ?_
    rintro w190 ⟨hb192, hst191, hz193⟩
    have hx194 := hx39.stp hst191 (by intro q hq; cases hq; exact (by omega))
    have hzhx194 := hst191.size
    replace hb4 := hb4.stp hst191 (by intro q hq; cases hq; omega)
    clear hb11
    refine wl_val ha189 rfl rfl rfl (op_assign ha189 rfl rfl) ?_
    intro a195 ha195; clear ha189 a189
    refine wpList_nil ?_
    refine then_n ?_
    refine wp_ret ?_
    refine then_r ?_
    refine retct ha195 rfl rfl rfl Try.underlying28 ti28 rfl hb192.cells ?_
    clear ha195 a195
    have hr : cdR t column low high = _ := (cdR_2 c23 (.inr (.inl c43)))
    refine ret_mk hx194 ⟨(.slice none 0 0), (.slice none 0 0), [], (tup2_eq (by rfl) (int_eq (by first | exact hr.symm | omega))), ?_, Own.nil _ _ _ _ _ _, Nst.nil _ _ _ _ _ _, ?_⟩
    ·
     refine Own.nil_ _ _ _ _ _ _ ?_
     rw [flT_no (by rw [hr]; first | decide | assumption)]
    ·
     rw [flT_no (by rw [hr]; first | decide | assumption)]; rfl
  ·
   rw [c33] at ha32
   refine wl_skip ha32 rfl rfl rfl ?_
   intro a196 ha196; clear ha32 a32
   refine wl_skip ha196 rfl rfl rfl ?_
   intro a197 ha197; clear ha196 a196
   refine wl_skip ha197 rfl rfl rfl ?_
   intro a198 ha198; clear ha197 a197
   refine wl_val ha198 rfl rfl rfl (op_pick_t ha198 rfl rfl rfl) ?_
   intro a199 ha199; clear ha198 a198
   refine wl_val ha199 rfl rfl rfl (op_move ha199 rfl rfl) ?_
   intro a200 ha200; clear ha199 a199
   refine wl_skip ha200 rfl rfl rfl ?_
   intro a201 ha201; clear ha200 a200
   refine wl_skip ha201 rfl rfl rfl ?_
   intro a202 ha202; clear ha201 a201
   refine wl_skip ha202 rfl rfl rfl ?_
   intro a203 ha203; clear ha202 a202
   refine wl_val ha203 rfl rfl rfl (op_pick_t ha203 rfl rfl rfl) ?_
   intro a204 ha204; clear ha203 a203
   refine wpList_nil ?_
   refine then_n ?_
   refine cond_t ha204 rfl ?_
   refine wp_seq ?_
   refine wp_region_lit ?_
   refine wl_val ha204 rfl rfl rfl (op_build (vs := []) (cs := #[.slice none 0 0, .slice none 0 0]) ha204 rfl Try.underlying28 ti28 bp28 rfl rfl) ?_
   intro a205 ha205; clear ha204 a204
   refine wl_effS ha205 rfl rfl (op_storeAll' ha205 rfl ti28 rfl rfl hb11 rfl rfl (by simp [Value.oneCell']) rfl) ?_
   rintro w206 ⟨hb208, hst207, hz209⟩
   have hx210 := hx30.stp hst207 (by intro q hq; cases hq; exact (by omega))
   have hzhx210 := hst207.size
   replace hb4 := hb4.stp hst207 (by intro q hq; cases hq; omega)
   clear hb11
   refine wl_val ha205 rfl rfl rfl (op_assign ha205 rfl rfl) ?_
   intro a211 ha211; clear ha205 a205
   refine wpList_nil ?_
   refine then_n ?_
   refine wp_ret ?_
   refine then_r ?_
   refine retct ha211 rfl rfl rfl Try.underlying28 ti28 rfl hb208.cells ?_
   clear ha211 a211
   have hr : cdR t column low high = _ := (cdR_2 c23 (.inl c33))
   refine ret_mk hx210 ⟨(.slice none 0 0), (.slice none 0 0), [], (tup2_eq (by rfl) (int_eq (by first | exact hr.symm | omega))), ?_, Own.nil _ _ _ _ _ _, Nst.nil _ _ _ _ _ _, ?_⟩
   ·
    refine Own.nil_ _ _ _ _ _ _ ?_
    rw [flT_no (by rw [hr]; first | decide | assumption)]
   ·
    rw [flT_no (by rw [hr]; first | decide | assumption)]; rfl
 ·
  rw [c23] at ha22
  refine cond_t ha22 rfl ?_
  refine wp_seq ?_
  refine wp_region_lit ?_
  refine wl_val ha22 rfl rfl rfl (op_build (vs := []) (cs := #[.slice none 0 0, .slice none 0 0]) ha22 rfl Try.underlying28 ti28 bp28 rfl rfl) ?_
  intro a212 ha212; clear ha22 a22
  refine wl_effS ha212 rfl rfl (op_storeAll' ha212 rfl ti28 rfl rfl hb11 rfl rfl (by simp [Value.oneCell']) rfl) ?_
  rintro w213 ⟨hb215, hst214, hz216⟩
  have hx217 := hx21.stp hst214 (by intro q hq; cases hq; exact (by omega))
  have hzhx217 := hst214.size
  replace hb4 := hb4.stp hst214 (by intro q hq; cases hq; omega)
  clear hb11
  refine wl_val ha212 rfl rfl rfl (op_assign ha212 rfl rfl) ?_
  intro a218 ha218; clear ha212 a212
  refine wpList_nil ?_
  refine then_n ?_
  refine wp_ret ?_
  refine then_r ?_
  refine retct ha218 rfl rfl rfl Try.underlying28 ti28 rfl hb215.cells ?_
  clear ha218 a218
  have hr : cdR t column low high = _ := (cdR_1 c23)
  refine ret_mk hx217 ⟨(.slice none 0 0), (.slice none 0 0), [], (tup2_eq (by rfl) (int_eq (by first | exact hr.symm | omega))), ?_, Own.nil _ _ _ _ _ _, Nst.nil _ _ _ _ _ _, ?_⟩
  ·
   refine Own.nil_ _ _ _ _ _ _ ?_
   rw [flT_no (by rw [hr]; first | decide | assumption)]
  ·
   rw [flT_no (by rw [hr]; first | decide | assumption)]; rfl


end Go.Proofs.Ytjpldgicibnkcaa
