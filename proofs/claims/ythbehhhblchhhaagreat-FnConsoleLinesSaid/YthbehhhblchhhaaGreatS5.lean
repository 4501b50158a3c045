/- What is ordered, as a text. -/
import Derived.Test.YthbehhhblchhhaaGreatS4
namespace Go.Proofs.YthbehhhblchhhaaGreat
open Go Go.RowKit
set_option maxHeartbeats 16000000

def orW (xs : List Bin) : List Str := ((ocL xs).zip (oqL xs)).map fun q => q.1 ++ [58] ++ decS q.2
def orT (xs : List Bin) : Str := if (ocL xs).length = 0 then [45] else joinG [44] 0 (orW xs)
theorem orW_len (xs : List Bin) : (orW xs).length = (ocL xs).length := by
  have := (ocL_len xs).2; unfold orW; simp only [List.length_map, List.length_zip]; omega
theorem orW_at {xs : List Bin} {i : Nat} {c : Str} {p : Int} (h1 : (ocL xs)[i]? = some c) (h2 : (oqL xs)[i]? = some p) : (orW xs)[i]? = some (c ++ [58] ++ decS p) := by
  have e : ((ocL xs).zip (oqL xs))[i]? = some (c, p) := List.getElem?_zip_eq_some.2 ⟨h1, h2⟩
  unfold orW; rw [List.getElem?_map, e]; rfl
theorem oc_mem {xs : List Bin} {β : Type} {f : Bin → β} {i : Nat} {z : β} (h : (if stB xs then (xs.filter orB).map f else [])[i]? = some z) : ∃ b, stB xs = true ∧ orB b = true ∧ binB b = true ∧ f b = z := by
  split at h
  · obtain ⟨b, hb, rfl⟩ := List.mem_map.1 (List.mem_of_getElem? h)
    obtain ⟨hb1, hb2⟩ := List.mem_filter.1 hb
    obtain ⟨j, hj⟩ := List.getElem?_of_mem hb1
    exact ⟨b, ‹_›, hb2, (stB_at ‹_› hj).1, rfl⟩
  · simp at h
theorem ocL_at {xs : List Bin} {i : Nat} {c : Str} (h : (ocL xs)[i]? = some c) : c.length ≤ 16 := by
  obtain ⟨b, _, _, h3, rfl⟩ := oc_mem (f := fun b => b.1) h
  have := (binB_bd h3).1
  unfold wordB at this; simp only [Bool.and_eq_true, decide_eq_true_eq] at this; exact this.1.2
theorem oqL_at {xs : List Bin} {i : Nat} {p : Int} (h : (oqL xs)[i]? = some p) : 0 ≤ p ∧ p ≤ 400000 := by
  obtain ⟨b, _, h2, h3, rfl⟩ := oc_mem (f := orP) h
  obtain ⟨_, h4, h5, h6, h7⟩ := binB_bd h3
  have h8 : 0 < orN b := of_decide_eq_true h2
  have h9 := ceI_bd (a := orN b) (b := b.2.2.2.2) (by omega) (by unfold orN; omega) (by omega) (by omega)
  unfold orP; omega
theorem joinG_len {b : Str} {m : Nat} : ∀ {ws : List Str} {i : Nat}, (∀ w ∈ ws, w.length ≤ m) → (joinG b i ws).length ≤ (b.length + m) * ws.length
  | [], _, _ => by simp [joinG]
  | w :: ws, i, h => by
    have h1 := joinG_len (b := b) (ws := ws) (i := i + 1) fun z hz => h z (by simp [hz])
    have h2 := h w (by simp)
    rw [joinG, List.length_append, List.length_append, List.length_cons, Nat.mul_succ]
    split
    · omega
    · rw [List.length_nil]; omega
theorem orJ_len {xs : List Bin} (h : xs.length ≤ 1048576) (hb : stB xs = true ∨ (ocL xs).length = 0) : (joinG [44] 0 (orW xs)).length ≤ 1048576 := by
  have h1 := joinG_len (b := [44]) (m := 60) (ws := orW xs) (i := 0) fun w hw => by
    unfold orW at hw
    obtain ⟨⟨c, p⟩, hq, rfl⟩ := List.mem_map.1 hw
    obtain ⟨j, hj⟩ := List.getElem?_of_mem hq
    obtain ⟨hj1, hj2⟩ := List.getElem?_zip_eq_some.1 hj
    have h3 := ocL_at hj1; have h4 := oqL_at hj2; have h5 := decS_len (n := p) (by omega)
    simp only [List.length_append, List.length_cons, List.length_nil] at h3 h4 h5 ⊢; omega
  rw [orW_len] at h1
  have h2 := (ocL_len xs).1
  simp only [List.length_cons, List.length_nil] at h1
  rcases hb with hb | hb
  · have := stB_len hb; omega
  · omega
theorem oc_st (xs : List Bin) : stB xs = true ∨ (ocL xs).length = 0 := by
  cases h : stB xs with
  | true => exact .inl rfl
  | false => right; unfold ocL; rw [h]; rfl

theorem c_impl_orderText (w0 : World) (v_list : Value) (list : List (Str × Int × Int × Int × Int)) {S_list : Nat → Prop} (h_list : Rds shBin S_list w0 v_list list) (g0 : list.length ≤ 1048576) :
    Calls Tryz.prog 100 #[v_list] w0 (Ret w0 (fun v _ => v = St (orT list))) := by
 refine enter (N := 39) Tryz.func100 rfl rfl rfl ?_
 intro A H
 have hx0 := Ext.rfl' w0
 have hl_list := h_list.length_le
 have hoc := ocL_len list
 revert A; refine go ?_; intro A H
 refine wc H cb117 (c_impl_OrderList _ v_list list (h_list.ext pos_shBin hx0)) ?_
 clear H A; rintro v3 w4 he5 ⟨v6, v8, rfl, ho7, ho9⟩ A H
 obtain ⟨hx11, _⟩ := nx hx0 he5
 revert A; refine go ?_; intro A H
 refine wv H (ln H U25 (ho7.rds pos_shStr)) ?_
 clear H A; refine go ?_; intro A H
 by_cases c22 : ((((ocL list)).length : Nat) : Int) = (0 : Int)
 rw [decide_eq_true c22] at H
 revert A; refine go ?_; intro A H
 refine ret1 H rfl rfl ?_
 clear H A
 exact ret_mk hx11 (congrArg St (by unfold orT; rw [if_pos (by omega)]))
 rw [decide_eq_false c22] at H
 revert A; refine go ?_; intro A H
 refine wv H (ln H U25 (ho7.rds pos_shStr)) ?_
 clear H A; refine go ?_; intro A H
 refine loop_inv (X := Nat × Value × (List Str)) (fun ⟨i, v, acc⟩ fr wl => Sl 39 fr [(4, v8), (6, v), (18, v6), (19, .int .i64 ((((ocL list)).length : Nat) : Int)), (20, .int .i64 ((i : Nat) : Int))] ∧ Ext w0 wl ∧ Own shI64 2 w0.heap.size w0.heap.size w4.heap.size wl v8 ((oqL list)) ∧ Own shStr 9 w0.heap.size w0.heap.size w4.heap.size wl v6 ((ocL list)) ∧ Own shStr 9 w4.heap.size w4.heap.size wl.heap.size wl v acc ∧ w4.heap.size ≤ wl.heap.size ∧ (∀ q, Value.ownBlock v = some q → Value.ownBlock v6 ≠ some q) ∧ (i ≤ (ocL list).length) ∧ (acc = (orW list).take i) ∧ (acc.length ≤ i)) (fun ⟨i, v, acc⟩ => (ocL list).length - i) (0, (.slice none 0 0), []) ?_ ?_
 exact ⟨(sl H), hx11, ho9, ho7, (Own.nil _ _ _ _ _ _), (by omega), (by intro q hq; cases hq), (by omega), (by simp), (by simp)⟩
 clear H A
 rintro ⟨i, v, acc⟩ A w28 ⟨H, hx29, hf30, hf32, hf31, hzl35, hsp33, hi, hA, hl⟩
 have hzhx29 := hx29.size
 revert A; refine go ?_; intro A H
 by_cases c37 : ((i : Nat) : Int) < ((((ocL list)).length : Nat) : Int)
 rw [decide_eq_true c37] at H
 revert A; refine go ?_; intro A H
 obtain ⟨x39, hx39⟩ := get_ex (xs := (ocL list)) (j := i) (by omega)
 obtain ⟨p40, hi42, hc43, b46, _, _⟩ := at_shStr (hf32.rds pos_shStr) hx39
 have hbx39 := ocL_at hx39
 refine wv H (ix H U25 ti9 hi42) ?_
 clear H A; intro A H
 refine wv H (lh H U9 hc43) ?_
 clear H A; refine go ?_; intro A H
 refine wv H (op_sadd H rfl rfl rfl (by simp only [List.length_cons, List.length_nil]; omega)) ?_
 clear H A; refine go ?_; intro A H
 obtain ⟨x56, hx56⟩ := get_ex (xs := (oqL list)) (j := i) (by omega)
 obtain ⟨p57, hi59, hc60, b63, _, _⟩ := at_shI64 (hf30.rds pos_shI64) hx56
 have hbx56 := oqL_at hx56
 have hdx56 := decS_len (n := x56) (by omega)
 refine wv H (ix H U55 ti2 hi59) ?_
 clear H A; intro A H
 refine wv H (lh H U2 hc60) ?_
 clear H A; intro A H
 refine wc H cb61 (c_impl_decimal _ x56 (by omega) (by omega)) ?_
 clear H A; rintro v66 w67 he68 rfl A H
 obtain ⟨hx70, _⟩ := nx hx29 he68
 replace hf30 := hf30.ext he68
 replace hf32 := hf32.ext he68
 replace hf31 := hf31.ext he68
 replace hc43 := hc43.ext he68
 replace hc60 := hc60.ext he68
 refine wv H (op_sadd H rfl rfl rfl (by simp only [List.length_append, List.length_cons, List.length_nil]; omega)) ?_
 clear H A; intro A H
 refine we H (op_b1 (mk_shStr ((x39 ++ (([58] : Str))) ++ ((decS x56))) (by simp; omega)) H pos_shStr U25 ti9) ?_
 clear H A; rintro v72 w73 ⟨ho74, he75, hob76⟩ A H
 obtain ⟨hx78, _⟩ := nx hx70 he75
 replace hf30 := hf30.ext he75
 replace hf32 := hf32.ext he75
 replace hf31 := hf31.ext he75
 replace hc43 := hc43.ext he75
 replace hc60 := hc60.ext he75
 refine we H (op_ap (ts := #[]) H U25 ti9 pos_shStr hf31 (ho74.rds pos_shStr) flat_shStr) ?_
 clear H A; rintro v79 w80 ⟨ho81, hst82, hob83⟩ A H
 obtain ⟨hx85, _⟩ := no hx78 hf31 hst82
 replace hf30 := hf30.stp hst82 (by intro q hq; have hq0 := hf31.lt q hq; omega)
 replace hf32 := hf32.stp hst82 (by intro q hq; have hq0 := hf31.lt q hq; omega)
 replace ho74 := ho74.stp hst82 (by intro q hq; have hq0 := hf31.lt q hq; omega)
 have hsp86 : ∀ q, Value.ownBlock v79 = some q → Value.ownBlock v6 ≠ some q := by intro q hq hb; have hq0 := hf32.lt q hb; rcases hob83 with h | h; (rw [h] at hq; (have hq1 := hf31.lt q hq; omega)); (rw [h] at hq; cases hq; omega)
 have hsp87 : ∀ q, Value.ownBlock v79 = some q → Value.ownBlock v72 ≠ some q := by intro q hq hb; have hq0 := ho74.lt q hb; rcases hob83 with h | h; (rw [h] at hq; first | (have hq1 := hf31.lt q hq; omega)); (rw [h] at hq; cases hq; omega)
 revert A; refine go ?_; intro A H
 refine wv H ((op_add H rfl rfl rfl).int (IntWalk.i64_in _ (by omega))) ?_
 clear H A; refine go ?_; intro A H
 refine ⟨((i + 1), v79, (acc ++ [(x39 ++ (([58] : Str))) ++ ((decS x56))])), ?_, ?_⟩
 refine ⟨(sl H), hx85, hf30, hf32, (fi ho81), (by omega), (by intro q hq; (intro hb; have hq0 := ho81.lt q hq; have hq1 := hf32.lt q hb; omega)), (by omega), (by rw [take_snoc (orW_at hx39 hx56), ← hA]), (by simp; omega)⟩
 show ((ocL list).length - ((i + 1)) : Nat) < (ocL list).length - i; omega
 rw [decide_eq_false c37] at H
 revert A; refine go ?_; intro A H
 refine wc H cb118 (c_impl_joinWith _ v acc (([44] : Str)) (hf31.rds pos_shStr) (by rw [hA, List.take_of_length_le (by rw [orW_len]; omega)]; exact orJ_len (by omega) (oc_st _))) ?_
 clear H A; rintro v92 w93 he94 rfl A H
 obtain ⟨hx96, _⟩ := nx hx29 he94
 replace hf30 := hf30.ext he94
 replace hf32 := hf32.ext he94
 replace hf31 := hf31.ext he94
 revert A; refine go ?_; intro A H
 refine ret1 H rfl rfl ?_
 clear H A
 exact ret_mk hx96 (congrArg St (by have h9 := congrArg List.length hA; rw [List.length_take, orW_len] at h9; unfold orT; rw [if_neg (by omega), hA, List.take_of_length_le (by rw [orW_len]; omega)]))



theorem c_spec_l34Order (w0 : World) (v_d0 : Value) (v_d1 : Value) (v_d2 : Value) (d : List (Str × Int × Int × Int × Int) × List (Str × Int × Int) × List (Int × Int × Str × Int)) {S_d0 : Nat → Prop} {S_d1 : Nat → Prop} {S_d2 : Nat → Prop} (h_d0 : Rds shBin S_d0 w0 v_d0 d.1) (h_d1 : Rds shProm S_d1 w0 v_d1 d.2.1) (h_d2 : Rds shEnt S_d2 w0 v_d2 d.2.2) (g0 : d.1.length ≤ 1048576) :
    Calls Tryz.prog 133 #[.agg #[v_d0, v_d1, v_d2]] w0 (Ret w0 (fun v _ => v = St (orT d.1))) := by
 refine enter (N := 41) Tryz.func133 rfl rfl rfl ?_
 intro A H
 have hx0 := Ext.rfl' w0
 have hl_d0 := h_d0.length_le
 have hl_d1 := h_d1.length_le
 have hl_d2 := h_d2.length_le
 have hoc := ocL_len d.1
 revert A; refine go ?_; intro A H
 refine we H (op_box' H rfl rfl rfl) ?_
 clear H A; rintro _ w2 ⟨rfl, he3, hb4, hz5⟩ A H
 obtain ⟨hx7, _⟩ := nx hx0 he3
 revert A; refine go ?_; intro A H
 refine fl 0 H U34 ti30 U30 hb4.cells ?_
 clear H A; intro A H
 refine wc H cb151 (c_spec_OrderList _ v_d0 d.1 (h_d0.ext pos_shBin hx7)) ?_
 clear H A; rintro v11 w12 he13 ⟨v14, v16, rfl, ho15, ho17⟩ A H
 obtain ⟨hx19, _⟩ := nx hx7 he13
 replace hb4 := hb4.ext he13
 revert A; refine go ?_; intro A H
 refine we H (op_b0 H pos_shStr U25 ti9) ?_
 clear H A; rintro v27 w28 ⟨ho29, he30, hob31⟩ A H
 obtain ⟨hx33, _⟩ := nx hx19 he30
 replace hb4 := hb4.ext he30
 replace ho15 := ho15.ext he30
 replace ho17 := ho17.ext he30
 revert A; refine go ?_; intro A H
 refine loop_inv (X := Nat × Value × (List Str)) (fun ⟨i, v, acc⟩ fr wl => Sl 41 fr [(3, v14), (4, v16), (6, v), (7, .int .i64 ((i : Nat) : Int))] ∧ Ext w0 wl ∧ Own shStr 9 w2.heap.size w2.heap.size w12.heap.size wl v14 ((ocL d.1)) ∧ Own shI64 2 w2.heap.size w2.heap.size w12.heap.size wl v16 ((oqL d.1)) ∧ Own shStr 9 w12.heap.size w12.heap.size wl.heap.size wl v acc ∧ w28.heap.size ≤ wl.heap.size ∧ (∀ q, Value.ownBlock v = some q → Value.ownBlock v14 ≠ some q) ∧ (i ≤ (ocL d.1).length) ∧ (acc = (orW d.1).take i) ∧ (acc.length ≤ i)) (fun ⟨i, v, acc⟩ => (ocL d.1).length - i) (0, v27, ([] : List Str)) ?_ ?_
 exact ⟨(sl H), hx33, ho15, ho17, (fi ho29), (by omega), (by intro q hq; first | (intro hb; have hq0 := ho29.lt q hq; have hq1 := ho15.lt q hb; omega)), (by omega), (by simp), (by simp)⟩
 clear H A
 rintro ⟨i, v, acc⟩ A w36 ⟨H, hx37, hf38, hf39, hf40, hzl43, hsp41, hi, hA, hl⟩
 have hzhx37 := hx37.size
 revert A; refine go ?_; intro A H
 refine wv H (ln H U25 (hf38.rds pos_shStr)) ?_
 clear H A; refine go ?_; intro A H
 by_cases c48 : ((i : Nat) : Int) < ((((ocL d.1)).length : Nat) : Int)
 rw [decide_eq_true c48] at H
 revert A; refine go ?_; intro A H
 refine dre (fun wa_ wb_ => Stp wa_ wb_ (Value.ownBlock v)) follows_mixed ?_
 intro w49 he50 hs52
 obtain ⟨hx51, _⟩ := nx hx37 he50
 replace hf38 := hf38.ext he50
 replace hf39 := hf39.ext he50
 replace hf40 := hf40.ext he50
 revert A; refine dgo [0, 1, 2] (Stp.of_ext hs52 _) ?_; intro A H
 obtain ⟨x56, hx56⟩ := get_ex (xs := (ocL d.1)) (j := i) (by omega)
 obtain ⟨p57, hi59, hc60, b63, _, _⟩ := at_shStr (hf38.rds pos_shStr) hx56
 have hbx56 := ocL_at hx56
 refine dw 3 H rfl (Stp.of_ext hs52 _) (ix H U25 ti9 hi59) ?_
 clear H A; refine dgo [6, 7] (Stp.of_ext hs52 _) ?_; intro A H
 obtain ⟨x67, hx67⟩ := get_ex (xs := (oqL d.1)) (j := i) (by omega)
 obtain ⟨p68, hi70, hc71, b74, _, _⟩ := at_shI64 (hf39.rds pos_shI64) hx67
 have hbx67 := oqL_at hx67
 have hdx67 := decS_len (n := x67) (by omega)
 refine dw 8 H rfl (Stp.of_ext hs52 _) (ix H U55 ti2 hi70) ?_
 clear H A; intro A H
 refine dr_two (i := 4) (j := 9) (by kernel_rfl) ?_ ?_
 refine po_to H rfl rfl rfl rfl (lh H U9 (hc60.ext hs52)) ?_
 clear H A; intro A H
 refine ⟨(Stp.of_ext hs52 _), ?_⟩
 refine dw 5 H rfl (Stp.of_ext hs52 _) (op_sadd H rfl rfl rfl (by simp only [List.length_cons, List.length_nil]; omega)) ?_
 clear H A; intro A H
 refine dr_one (i := 9) (by kernel_rfl) ?_
 refine po_to H rfl rfl rfl rfl (lh H U2 (hc71.ext hs52)) ?_
 clear H A; intro A H
 refine ⟨(Stp.of_ext hs52 _), ?_⟩
 refine dr_one (i := 10) (by kernel_rfl) ?_
 refine pc H cb67 rfl (c_spec_l01Dec _ x67 (by omega) (by omega)) ?_
 clear H A; rintro v79 w80 he81 rfl A H
 have hs83 := hs52.trans' he81
 obtain ⟨hx84, _⟩ := nx hx51 he81
 refine ⟨(Stp.of_ext hs83 _), ?_⟩
 refine dw 11 H rfl (Stp.of_ext hs83 _) (op_sadd H rfl rfl rfl (by simp only [List.length_append, List.length_cons, List.length_nil]; omega)) ?_
 clear H A; intro A H
 refine dr_one (i := 12) (by kernel_rfl) ?_
 refine pe H rfl (op_b1 (mk_shStr ((x56 ++ (([58] : Str))) ++ ((decS x67))) (by simp; omega)) H pos_shStr U25 ti9) ?_
 clear H A; rintro v86 w87 ⟨ho88, he89, hob90⟩ A H
 have hs92 := hs83.trans' he89
 obtain ⟨hx93, _⟩ := nx hx84 he89
 refine ⟨(Stp.of_ext hs92 _), ?_⟩
 refine dr_one (i := 13) (by kernel_rfl) ?_
 replace hf38 := hf38.ext hs92
 replace hf39 := hf39.ext hs92
 replace hf40 := hf40.ext hs92
 replace hc60 := hc60.ext hs92
 replace hc71 := hc71.ext hs92
 refine pe H rfl (op_ap (ts := #[]) H U25 ti9 pos_shStr hf40 (ho88.rds pos_shStr) flat_shStr) ?_
 clear H A; rintro v94 w95 ⟨ho96, hst97, hob98⟩ A H
 have hs100 := (Stp.of_ext hs92 (Value.ownBlock v)).trans' hst97
 obtain ⟨hx101, _⟩ := no hx93 hf40 hst97
 replace hf38 := hf38.stp hst97 (by intro q hq; have hq0 := hf40.lt q hq; omega)
 replace hf39 := hf39.stp hst97 (by intro q hq; have hq0 := hf40.lt q hq; omega)
 replace ho88 := ho88.stp hst97 (by intro q hq; have hq0 := hf40.lt q hq; omega)
 have hsp102 : ∀ q, Value.ownBlock v94 = some q → Value.ownBlock v14 ≠ some q := by intro q hq hb; have hq0 := hf38.lt q hb; rcases hob98 with h | h; (rw [h] at hq; (have hq1 := hf40.lt q hq; omega)); (rw [h] at hq; cases hq; omega)
 have hsp103 : ∀ q, Value.ownBlock v94 = some q → Value.ownBlock v86 ≠ some q := by intro q hq hb; have hq0 := ho88.lt q hb; rcases hob98 with h | h; (rw [h] at hq; first | (have hq1 := hf40.lt q hq; omega)); (rw [h] at hq; cases hq; omega)
 refine ⟨hs100, ?_⟩
 refine dw 14 H rfl hs100 (op_assign H rfl rfl) ?_
 clear H A; intro A H
 refine dr_end (by kernel_rfl) ?_
 revert A; refine go ?_; intro A H
 refine wv H ((op_add H rfl rfl rfl).int (IntWalk.i64_in _ (by omega))) ?_
 clear H A; refine go ?_; intro A H
 refine ⟨((i + 1), v94, (acc ++ [(x56 ++ (([58] : Str))) ++ ((decS x67))])), ?_, ?_⟩
 refine ⟨(sl H), hx101, hf38, hf39, (fi ho96), (by omega), (by intro q hq; (intro hb; have hq0 := ho96.lt q hq; have hq1 := hf38.lt q hb; omega)), (by omega), (by rw [take_snoc (orW_at hx56 hx67), ← hA]), (by simp; omega)⟩
 show ((ocL d.1).length - ((i + 1)) : Nat) < (ocL d.1).length - i; omega
 refine po_to H rfl rfl rfl rfl (lh H U2 (hc71.ext hs52)) ?_
 clear H A; intro A H
 refine ⟨(Stp.of_ext hs52 _), ?_⟩
 refine dr_two (i := 4) (j := 10) (by kernel_rfl) ?_ ?_
 refine po_to H rfl rfl rfl rfl (lh H U9 (hc60.ext hs52)) ?_
 clear H A; intro A H
 refine ⟨(Stp.of_ext hs52 _), ?_⟩
 refine dw 5 H rfl (Stp.of_ext hs52 _) (op_sadd H rfl rfl rfl (by simp only [List.length_cons, List.length_nil]; omega)) ?_
 clear H A; intro A H
 refine dr_one (i := 10) (by kernel_rfl) ?_
 refine pc H cb67 rfl (c_spec_l01Dec _ x67 (by omega) (by omega)) ?_
 clear H A; rintro v111 w112 he113 rfl A H
 have hs115 := hs52.trans' he113
 obtain ⟨hx116, _⟩ := nx hx51 he113
 refine ⟨(Stp.of_ext hs115 _), ?_⟩
 refine dw 11 H rfl (Stp.of_ext hs115 _) (op_sadd H rfl rfl rfl (by simp only [List.length_append, List.length_cons, List.length_nil]; omega)) ?_
 clear H A; intro A H
 refine dr_one (i := 12) (by kernel_rfl) ?_
 refine pe H rfl (op_b1 (mk_shStr ((x56 ++ (([58] : Str))) ++ ((decS x67))) (by simp; omega)) H pos_shStr U25 ti9) ?_
 clear H A; rintro v118 w119 ⟨ho120, he121, hob122⟩ A H
 have hs124 := hs115.trans' he121
 obtain ⟨hx125, _⟩ := nx hx116 he121
 refine ⟨(Stp.of_ext hs124 _), ?_⟩
 refine dr_one (i := 13) (by kernel_rfl) ?_
 replace hf38 := hf38.ext hs124
 replace hf39 := hf39.ext hs124
 replace hf40 := hf40.ext hs124
 replace hc60 := hc60.ext hs124
 replace hc71 := hc71.ext hs124
 refine pe H rfl (op_ap (ts := #[]) H U25 ti9 pos_shStr hf40 (ho120.rds pos_shStr) flat_shStr) ?_
 clear H A; rintro v126 w127 ⟨ho128, hst129, hob130⟩ A H
 have hs132 := (Stp.of_ext hs124 (Value.ownBlock v)).trans' hst129
 obtain ⟨hx133, _⟩ := no hx125 hf40 hst129
 replace hf38 := hf38.stp hst129 (by intro q hq; have hq0 := hf40.lt q hq; omega)
 replace hf39 := hf39.stp hst129 (by intro q hq; have hq0 := hf40.lt q hq; omega)
 replace ho120 := ho120.stp hst129 (by intro q hq; have hq0 := hf40.lt q hq; omega)
 have hsp134 : ∀ q, Value.ownBlock v126 = some q → Value.ownBlock v14 ≠ some q := by intro q hq hb; have hq0 := hf38.lt q hb; rcases hob130 with h | h; (rw [h] at hq; (have hq1 := hf40.lt q hq; omega)); (rw [h] at hq; cases hq; omega)
 have hsp135 : ∀ q, Value.ownBlock v126 = some q → Value.ownBlock v118 ≠ some q := by intro q hq hb; have hq0 := ho120.lt q hb; rcases hob130 with h | h; (rw [h] at hq; first | (have hq1 := hf40.lt q hq; omega)); (rw [h] at hq; cases hq; omega)
 refine ⟨hs132, ?_⟩
 refine dw 14 H rfl hs132 (op_assign H rfl rfl) ?_
 clear H A; intro A H
 refine dr_end (by kernel_rfl) ?_
 revert A; refine go ?_; intro A H
 refine wv H ((op_add H rfl rfl rfl).int (IntWalk.i64_in _ (by omega))) ?_
 clear H A; refine go ?_; intro A H
 refine ⟨((i + 1), v126, (acc ++ [(x56 ++ (([58] : Str))) ++ ((decS x67))])), ?_, ?_⟩
 refine ⟨(sl H), hx133, hf38, hf39, (fi ho128), (by omega), (by intro q hq; (intro hb; have hq0 := ho128.lt q hq; have hq1 := hf38.lt q hb; omega)), (by omega), (by rw [take_snoc (orW_at hx56 hx67), ← hA]), (by simp; omega)⟩
 show ((ocL d.1).length - ((i + 1)) : Nat) < (ocL d.1).length - i; omega
 refine pc H cb67 rfl (c_spec_l01Dec _ x67 (by omega) (by omega)) ?_
 clear H A; rintro v140 w141 he142 rfl A H
 have hs144 := hs52.trans' he142
 obtain ⟨hx145, _⟩ := nx hx51 he142
 refine ⟨(Stp.of_ext hs144 _), ?_⟩
 refine dr_one (i := 4) (by kernel_rfl) ?_
 refine po_to H rfl rfl rfl rfl (lh H U9 (hc60.ext hs144)) ?_
 clear H A; intro A H
 refine ⟨(Stp.of_ext hs144 _), ?_⟩
 refine dw 5 H rfl (Stp.of_ext hs144 _) (op_sadd H rfl rfl rfl (by simp only [List.length_cons, List.length_nil]; omega)) ?_
 clear H A; intro A H
 refine dw 11 H rfl (Stp.of_ext hs144 _) (op_sadd H rfl rfl rfl (by simp only [List.length_append, List.length_cons, List.length_nil]; omega)) ?_
 clear H A; intro A H
 refine dr_one (i := 12) (by kernel_rfl) ?_
 refine pe H rfl (op_b1 (mk_shStr ((x56 ++ (([58] : Str))) ++ ((decS x67))) (by simp; omega)) H pos_shStr U25 ti9) ?_
 clear H A; rintro v149 w150 ⟨ho151, he152, hob153⟩ A H
 have hs155 := hs144.trans' he152
 obtain ⟨hx156, _⟩ := nx hx145 he152
 refine ⟨(Stp.of_ext hs155 _), ?_⟩
 refine dr_one (i := 13) (by kernel_rfl) ?_
 replace hf38 := hf38.ext hs155
 replace hf39 := hf39.ext hs155
 replace hf40 := hf40.ext hs155
 replace hc60 := hc60.ext hs155
 replace hc71 := hc71.ext hs155
 refine pe H rfl (op_ap (ts := #[]) H U25 ti9 pos_shStr hf40 (ho151.rds pos_shStr) flat_shStr) ?_
 clear H A; rintro v157 w158 ⟨ho159, hst160, hob161⟩ A H
 have hs163 := (Stp.of_ext hs155 (Value.ownBlock v)).trans' hst160
 obtain ⟨hx164, _⟩ := no hx156 hf40 hst160
 replace hf38 := hf38.stp hst160 (by intro q hq; have hq0 := hf40.lt q hq; omega)
 replace hf39 := hf39.stp hst160 (by intro q hq; have hq0 := hf40.lt q hq; omega)
 replace ho151 := ho151.stp hst160 (by intro q hq; have hq0 := hf40.lt q hq; omega)
 have hsp165 : ∀ q, Value.ownBlock v157 = some q → Value.ownBlock v14 ≠ some q := by intro q hq hb; have hq0 := hf38.lt q hb; rcases hob161 with h | h; (rw [h] at hq; (have hq1 := hf40.lt q hq; omega)); (rw [h] at hq; cases hq; omega)
 have hsp166 : ∀ q, Value.ownBlock v157 = some q → Value.ownBlock v149 ≠ some q := by intro q hq hb; have hq0 := ho151.lt q hb; rcases hob161 with h | h; (rw [h] at hq; first | (have hq1 := hf40.lt q hq; omega)); (rw [h] at hq; cases hq; omega)
 refine ⟨hs163, ?_⟩
 refine dw 14 H rfl hs163 (op_assign H rfl rfl) ?_
 clear H A; intro A H
 refine dr_end (by kernel_rfl) ?_
 revert A; refine go ?_; intro A H
 refine wv H ((op_add H rfl rfl rfl).int (IntWalk.i64_in _ (by omega))) ?_
 clear H A; refine go ?_; intro A H
 refine ⟨((i + 1), v157, (acc ++ [(x56 ++ (([58] : Str))) ++ ((decS x67))])), ?_, ?_⟩
 refine ⟨(sl H), hx164, hf38, hf39, (fi ho159), (by omega), (by intro q hq; (intro hb; have hq0 := ho159.lt q hq; have hq1 := hf38.lt q hb; omega)), (by omega), (by rw [take_snoc (orW_at hx56 hx67), ← hA]), (by simp; omega)⟩
 show ((ocL d.1).length - ((i + 1)) : Nat) < (ocL d.1).length - i; omega
 rw [decide_eq_false c48] at H
 revert A; refine go ?_; intro A H
 refine wv H (ln H U25 (hf40.rds pos_shStr)) ?_
 clear H A; refine go ?_; intro A H
 by_cases c174 : ((acc.length : Nat) : Int) = (0 : Int)
 rw [decide_eq_true c174] at H
 revert A; refine go ?_; intro A H
 refine ret1 H rfl rfl ?_
 clear H A
 exact ret_mk hx37 (congrArg St (by have h9 := congrArg List.length hA; rw [List.length_take, orW_len] at h9; unfold orT; rw [if_pos (by omega)]))
 rw [decide_eq_false c174] at H
 revert A; refine go ?_; intro A H
 refine wc H cb152 (c_spec_l01Words _ v acc (([44] : Str)) (hf40.rds pos_shStr) (by rw [hA, List.take_of_length_le (by rw [orW_len]; omega)]; exact orJ_len (by omega) (oc_st _))) ?_
 clear H A; rintro v177 w178 he179 rfl A H
 obtain ⟨hx181, _⟩ := nx hx37 he179
 replace hf38 := hf38.ext he179
 replace hf39 := hf39.ext he179
 replace hf40 := hf40.ext he179
 revert A; refine go ?_; intro A H
 refine ret1 H rfl rfl ?_
 clear H A
 exact ret_mk hx181 (congrArg St (by have h9 := congrArg List.length hA; rw [List.length_take, orW_len] at h9; unfold orT; rw [if_neg (by omega), hA, List.take_of_length_le (by rw [orW_len]; omega)]))




end Go.Proofs.YthbehhhblchhhaaGreat
