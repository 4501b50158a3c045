/- What is ordered. -/
import Derived.Test.YthbehhhblchhhaaGreatS3
import Derived.Test.YthbehhhblchhhaaGreatN1
namespace Go.Proofs.YthbehhhblchhhaaGreat
open Go Go.RowKit
set_option maxHeartbeats 16000000

theorem ceI_all {a b : Int} (h1 : -300000 ≤ a) (h2 : a ≤ 300000) (hb : 1 ≤ b) (hb2 : b ≤ 100000) : -400000 ≤ ceI a b ∧ ceI a b ≤ 400000 ∧ -400000 ≤ ceI a b * b ∧ ceI a b * b ≤ 400000 ∧ b * ceI a b = ceI a b * b := by
  have h3 := Int.emod_add_mul_ediv (a + b - 1) b
  have h4 := Int.emod_nonneg (a + b - 1) (b := b) (by omega)
  have h5 := Int.emod_lt_of_pos (a + b - 1) (b := b) (by omega)
  have h6 : b * ceI a b = ceI a b * b := Int.mul_comm _ _
  have h7 := ediv_bd (a + b - 1) (b := b) (by omega)
  change _ + b * ceI a b = _ at h3
  change (_ → 0 ≤ ceI a b ∧ ceI a b ≤ _) ∧ (_ → _ ≤ ceI a b ∧ ceI a b ≤ 0) at h7
  omega
def orN (b : Bin) : Int := b.2.2.2.1 - (b.2.1 - b.2.2.1)
def orB (b : Bin) : Bool := decide (0 < orN b)
def orP (b : Bin) : Int := ceI (orN b) b.2.2.2.2 * b.2.2.2.2
def ocL (xs : List Bin) : List Str := if stB xs then (xs.filter orB).map (·.1) else []
def oqL (xs : List Bin) : List Int := if stB xs then (xs.filter orB).map orP else []
theorem flt_in {xs : List Bin} {i : Nat} {x : Bin} {β : Type} (f : Bin → β) (h : xs[i]? = some x) (hx : orB x = true) : ((xs.take (i + 1)).filter orB).map f = ((xs.take i).filter orB).map f ++ [f x] := by
  rw [take_snoc h, List.filter_append, List.map_append]; simp [hx]
theorem flt_out {xs : List Bin} {i : Nat} {x : Bin} {β : Type} (f : Bin → β) (h : xs[i]? = some x) (hx : orB x = false) : ((xs.take (i + 1)).filter orB).map f = ((xs.take i).filter orB).map f := by
  rw [take_snoc h, List.filter_append, List.map_append]; simp [hx]
theorem flt_len {xs : List Bin} {i : Nat} {β : Type} (f : Bin → β) : (((xs.take i).filter orB).map f).length ≤ i := by
  rw [List.length_map]; exact Nat.le_trans (List.length_filter_le _ _) (by rw [List.length_take]; omega)
theorem ocL_len (xs : List Bin) : (ocL xs).length ≤ xs.length ∧ (oqL xs).length = (ocL xs).length := by
  unfold ocL oqL; split
  · simp only [List.length_map]; exact ⟨List.length_filter_le _ _, trivial⟩
  · simp

theorem c_impl_OrderList (w0 : World) (v_list : Value) (list : List (Str × Int × Int × Int × Int)) {S_list : Nat → Prop} (h_list : Rds shBin S_list w0 v_list list) :
    Calls Tryz.prog 117 #[v_list] w0 (Ret w0 (fun v w1 => ∃ r0 r1, v = .tuple #[r0, r1, .int .i64 (if stB list then 0 else 1)] ∧ Own shStr 9 w0.heap.size w0.heap.size w1.heap.size w1 r0 (ocL list) ∧ Own shI64 2 w0.heap.size w0.heap.size w1.heap.size w1 r1 (oqL list))) := by
 refine enter (N := 47) Tryz.func117 rfl rfl rfl ?_
 intro A H
 have hx0 := Ext.rfl' w0
 have hl_list := h_list.length_le
 revert A; refine go ?_; intro A H
 refine wc H cb53 (c_impl_IsStock _ v_list list (h_list.ext pos_shBin hx0)) ?_
 clear H A; rintro v5 w6 he7 rfl A H
 obtain ⟨hx9, _⟩ := nx hx0 he7
 revert A; refine go ?_; intro A H
 rcases Bool.eq_false_or_eq_true (stB list) with c11 | c11
 rw [c11] at H
 have hlenc11 := stB_len c11
 revert A; refine go ?_; intro A H
 refine wv H (ln H U30 h_list) ?_
 clear H A; refine go ?_; intro A H
 refine loop_inv (X := Nat × Value × (List Str) × Value × (List Int)) (fun ⟨i, v, acc, u, bcc⟩ fr wl => Sl 47 fr [(5, v), (6, u), (13, v_list), (14, .int .i64 ((list.length : Nat) : Int)), (15, .int .i64 ((i : Nat) : Int))] ∧ Ext w0 wl ∧ Own shStr 9 w6.heap.size w6.heap.size wl.heap.size wl v acc ∧ Own shI64 2 w6.heap.size w6.heap.size wl.heap.size wl u bcc ∧ w6.heap.size ≤ wl.heap.size ∧ (i ≤ list.length) ∧ (acc = ((list.take i).filter orB).map (·.1)) ∧ (bcc = ((list.take i).filter orB).map orP) ∧ (acc.length ≤ i) ∧ (bcc.length ≤ i) ∧ (list.length ≤ 20)) (fun ⟨i, v, acc, u, bcc⟩ => list.length - i) (0, (.slice none 0 0), [], (.slice none 0 0), []) ?_ ?_
 exact ⟨(sl H), hx9, (Own.nil _ _ _ _ _ _), (Own.nil _ _ _ _ _ _), (by omega), (by omega), (by simp), (by simp), (by simp), (by simp), (by assumption)⟩
 clear H A
 rintro ⟨i, v, acc, u, bcc⟩ A w17 ⟨H, hx18, hf19, hf20, hzl22, hi, hA, hB, hl1, hl2, hn⟩
 have hzhx18 := hx18.size
 revert A; refine go ?_; intro A H
 by_cases c24 : ((i : Nat) : Int) < ((list.length : Nat) : Int)
 rw [decide_eq_true c24] at H
 revert A; refine go ?_; intro A H
 obtain ⟨x25, hx25⟩ := get_ex (xs := list) (j := i) (by omega)
 obtain ⟨p26, hi28, hc29, b32, b33, b34, b35, b36, hs31⟩ := at_shBin h_list hx25
 have hbx25 := stB_bd c11 hx25
 have ho1x25 : orN x25 = x25.2.2.2.1 - (x25.2.1 - x25.2.2.1) := rfl
 have hpx25 := ceI_all (a := x25.2.2.2.1 - (x25.2.1 - x25.2.2.1)) (b := x25.2.2.2.2) (by omega) (by omega) (by omega) (by omega)
 refine wv H (ix H U30 ti65 hi28) ?_
 clear H A; intro A H
 refine wv H (ls H U65 ti65 (hc29.ext hx18)) ?_
 clear H A; intro A H
 refine we H (op_alloc' rfl ti65 rfl) ?_
 clear H A; rintro _ w40 ⟨rfl, he41, hb42, hz43⟩ A H
 obtain ⟨hx45, _⟩ := nx hx18 he41
 replace hf19 := hf19.ext he41
 replace hf20 := hf20.ext he41
 refine ws H (op_sa H ti65 hb42) ?_
 rintro w46 ⟨hb48, hst47, hz49⟩
 obtain ⟨hx50, _⟩ := nb hx45 hst47
 replace hf19 := hf19.stp hst47 (by intro q hq; cases hq; omega)
 replace hf20 := hf20.stp hst47 (by intro q hq; cases hq; omega)
 clear hb42
 revert A; refine go ?_; intro A H
 refine fl 3 H U65 ti2 U2 hb48.cells ?_
 clear H A; intro A H
 refine fl 1 H U65 ti2 U2 hb48.cells ?_
 clear H A; intro A H
 refine fl 2 H U65 ti2 U2 hb48.cells ?_
 clear H A; intro A H
 refine wv H ((op_sub H rfl rfl rfl).int (IntWalk.i64_in _ (by omega))) ?_
 clear H A; intro A H
 refine wv H ((op_sub H rfl rfl rfl).int (IntWalk.i64_in _ (by omega))) ?_
 clear H A; refine go ?_; intro A H
 by_cases c62 : (0 : Int) < (x25.2.2.2.1 - (x25.2.1 - x25.2.2.1))
 rw [decide_eq_true c62] at H
 revert A; refine go ?_; intro A H
 refine fl 0 H U65 ti9 U9 hb48.cells ?_
 clear H A; intro A H
 refine we H (op_b1 (mk_shStr x25.1 (by assumption)) H pos_shStr U25 ti9) ?_
 clear H A; rintro v66 w67 ⟨ho68, he69, hob70⟩ A H
 obtain ⟨hx72, _⟩ := nx hx50 he69
 replace hf19 := hf19.ext he69
 replace hf20 := hf20.ext he69
 replace hb48 := hb48.ext he69
 refine we H (op_ap (ts := #[]) H U25 ti9 pos_shStr hf19 (ho68.rds pos_shStr) flat_shStr) ?_
 clear H A; rintro v73 w74 ⟨ho75, hst76, hob77⟩ A H
 obtain ⟨hx79, _⟩ := no hx72 hf19 hst76
 replace hf20 := oo hf20 flat_shI64 hf19 hst76
 replace hb48 := hb48.stp hst76 (by intro q hq; have hq0 := hf19.lt q hq; omega)
 replace ho68 := ho68.stp hst76 (by intro q hq; have hq0 := hf19.lt q hq; omega)
 have hsp80 : ∀ q, Value.ownBlock v73 = some q → Value.ownBlock v66 ≠ some q := by intro q hq hb; have hq0 := ho68.lt q hb; rcases hob77 with h | h; (rw [h] at hq; first | (have hq1 := hf19.lt q hq; omega)); (rw [h] at hq; cases hq; omega)
 revert A; refine go ?_; intro A H
 refine dre (fun wa_ wb_ => Stp wa_ wb_ (Value.ownBlock u)) follows_mixed ?_
 intro w82 he83 hs85
 obtain ⟨hx84, _⟩ := nx hx79 he83
 replace hf20 := hf20.ext he83
 replace hb48 := hb48.ext he83
 replace ho68 := ho68.ext he83
 replace ho75 := ho75.ext he83
 revert A; refine dgo [0, 1] (Stp.of_ext hs85 _) ?_; intro A H
 refine dw 2 H rfl (Stp.of_ext hs85 _) (fa H U65 ti2) ?_
 clear H A; intro A H
 refine dv 3 H rfl (Stp.of_ext hs85 _) (fun w' hw' => lf 4 H U2 (hb48.stp hw' (by intro q hq; (have hq0 := hf20.lt q hq; omega))).cells) ?_
 clear H A; intro A H
 refine dw 5 H rfl (Stp.of_ext hs85 _) (fa H U65 ti2) ?_
 clear H A; intro A H
 refine dv 6 H rfl (Stp.of_ext hs85 _) (fun w' hw' => lf 4 H U2 (hb48.stp hw' (by intro q hq; (have hq0 := hf20.lt q hq; omega))).cells) ?_
 clear H A; intro A H
 refine dr_one (i := 4) (by kernel_rfl) ?_
 refine pc H cb142 rfl (c_impl_ceilDiv _ (x25.2.2.2.1 - (x25.2.1 - x25.2.2.1)) x25.2.2.2.2 (by omega) (by omega)) ?_
 clear H A; rintro v92 w93 he94 rfl A H
 have hs96 := hs85.trans' he94
 obtain ⟨hx97, _⟩ := nx hx84 he94
 refine ⟨(Stp.of_ext hs96 _), ?_⟩
 refine dw 7 H rfl (Stp.of_ext hs96 _) ((op_mul H rfl rfl rfl).int (IntWalk.i64_in _ (by omega))) ?_
 clear H A; intro A H
 refine dr_one (i := 8) (by kernel_rfl) ?_
 refine pe H rfl (op_b1 (mk_shI64 (((ceI (x25.2.2.2.1 - (x25.2.1 - x25.2.2.1)) x25.2.2.2.2 : Int) * x25.2.2.2.2)) (by omega)) H pos_shI64 U55 ti2) ?_
 clear H A; rintro v99 w100 ⟨ho101, he102, hob103⟩ A H
 have hs105 := hs96.trans' he102
 obtain ⟨hx106, _⟩ := nx hx97 he102
 refine ⟨(Stp.of_ext hs105 _), ?_⟩
 refine dr_one (i := 9) (by kernel_rfl) ?_
 replace hf20 := hf20.ext hs105
 replace hb48 := hb48.ext hs105
 replace ho68 := ho68.ext hs105
 replace ho75 := ho75.ext hs105
 refine pe H rfl (op_ap (ts := #[]) H U55 ti2 pos_shI64 hf20 (ho101.rds pos_shI64) flat_shI64) ?_
 clear H A; rintro v107 w108 ⟨ho109, hst110, hob111⟩ A H
 have hs113 := (Stp.of_ext hs105 (Value.ownBlock u)).trans' hst110
 obtain ⟨hx114, _⟩ := no hx106 hf20 hst110
 replace hb48 := hb48.stp hst110 (by intro q hq; have hq0 := hf20.lt q hq; omega)
 replace ho68 := ho68.stp hst110 (by intro q hq; have hq0 := hf20.lt q hq; omega)
 replace ho75 := oo ho75 flat_shStr hf20 hst110
 replace ho101 := ho101.stp hst110 (by intro q hq; have hq0 := hf20.lt q hq; omega)
 have hsp115 : ∀ q, Value.ownBlock v107 = some q → Value.ownBlock v99 ≠ some q := by intro q hq hb; have hq0 := ho101.lt q hb; rcases hob111 with h | h; (rw [h] at hq; first | (have hq1 := hf20.lt q hq; omega)); (rw [h] at hq; cases hq; omega)
 refine ⟨hs113, ?_⟩
 refine dw 10 H rfl hs113 (op_assign H rfl rfl) ?_
 clear H A; intro A H
 refine dr_end (by kernel_rfl) ?_
 revert A; refine go ?_; intro A H
 refine wv H ((op_add H rfl rfl rfl).int (IntWalk.i64_in _ (by omega))) ?_
 clear H A; refine go ?_; intro A H
 refine ⟨((i + 1), v73, (acc ++ [x25.1]), v107, (bcc ++ [((ceI (x25.2.2.2.1 - (x25.2.1 - x25.2.2.1)) x25.2.2.2.2 : Int) * x25.2.2.2.2)])), ?_, ?_⟩
 refine ⟨(sl H), hx114, (fi ho75), (fi ho109), (by omega), (by omega), (by rw [flt_in (·.1) hx25 (decide_eq_true (by omega)), ← hA]), (by rw [flt_in orP hx25 (decide_eq_true (by omega)), ← hB]; exact congrArg (fun z => bcc ++ [z]) (by rfl)), (by simp; omega), (by simp; omega), (by exact hn)⟩
 show (list.length - ((i + 1)) : Nat) < list.length - i; omega
 rw [decide_eq_false c62] at H
 revert A; refine go ?_; intro A H
 refine wv H ((op_add H rfl rfl rfl).int (IntWalk.i64_in _ (by omega))) ?_
 clear H A; refine go ?_; intro A H
 refine ⟨((i + 1), v, acc, u, bcc), ?_, ?_⟩
 refine ⟨(sl H), hx50, (fi hf19), (fi hf20), (by omega), (by omega), (by rw [flt_out (·.1) hx25 (decide_eq_false (by omega))]; exact hA), (by rw [flt_out orP hx25 (decide_eq_false (by omega))]; exact hB), (by omega), (by omega), (by exact hn)⟩
 show (list.length - ((i + 1)) : Nat) < list.length - i; omega
 rw [decide_eq_false c24] at H
 revert A; refine go ?_; intro A H
 refine ret3 H rfl rfl rfl rfl ?_
 clear H A
 refine ret_mk hx18 ⟨v, u, (tup3_eq rfl rfl (int_eq (by simp [c11]))), ?_, ?_⟩
 refine (fi hf19).cast ?_
 rw [hA, List.take_of_length_le (by omega)]; simp [ocL, c11]
 refine (fi hf20).cast ?_
 rw [hB, List.take_of_length_le (by omega)]; simp [oqL, c11]
 rw [c11] at H
 revert A; refine go ?_; intro A H
 refine ret3 H rfl rfl rfl rfl ?_
 clear H A
 refine ret_mk hx9 ⟨.slice none 0 0, .slice none 0 0, (tup3_eq rfl rfl (int_eq (by simp [c11]))), ?_, ?_⟩
 refine Own.nil_ _ _ _ _ _ _ ?_
 simp [ocL, c11]
 refine Own.nil_ _ _ _ _ _ _ ?_
 simp [oqL, c11]



theorem c_spec_OrderList (w0 : World) (v_list : Value) (list : List (Str × Int × Int × Int × Int)) {S_list : Nat → Prop} (h_list : Rds shBin S_list w0 v_list list) :
    Calls Tryz.prog 151 #[v_list] w0 (Ret w0 (fun v w1 => ∃ r0 r1, v = .tuple #[r0, r1, .int .i64 (if stB list then 0 else 1)] ∧ Own shStr 9 w0.heap.size w0.heap.size w1.heap.size w1 r0 (ocL list) ∧ Own shI64 2 w0.heap.size w0.heap.size w1.heap.size w1 r1 (oqL list))) := by
 refine enter (N := 50) Tryz.func151 rfl rfl rfl ?_
 intro A H
 have hx0 := Ext.rfl' w0
 have hl_list := h_list.length_le
 revert A; refine go ?_; intro A H
 refine wc H cb56 (c_spec_IsStock _ v_list list (h_list.ext pos_shBin hx0)) ?_
 clear H A; rintro v5 w6 he7 rfl A H
 obtain ⟨hx9, _⟩ := nx hx0 he7
 revert A; refine go ?_; intro A H
 rcases Bool.eq_false_or_eq_true (stB list) with c11 | c11
 rw [c11] at H
 have hlenc11 := stB_len c11
 revert A; refine go ?_; intro A H
 refine we H (op_b0 H pos_shStr U25 ti9) ?_
 clear H A; rintro v12 w13 ⟨ho14, he15, hob16⟩ A H
 obtain ⟨hx18, _⟩ := nx hx9 he15
 refine we H (op_b0 H pos_shI64 U55 ti2) ?_
 clear H A; rintro v19 w20 ⟨ho21, he22, hob23⟩ A H
 obtain ⟨hx25, _⟩ := nx hx18 he22
 replace ho14 := ho14.ext he22
 revert A; refine go ?_; intro A H
 refine loop_inv (X := Nat × Value × (List Str) × Value × (List Int)) (fun ⟨i, v, acc, u, bcc⟩ fr wl => Sl 50 fr [(0, v_list), (5, v), (6, u), (7, .int .i64 ((i : Nat) : Int))] ∧ Ext w0 wl ∧ Own shStr 9 w6.heap.size w6.heap.size wl.heap.size wl v acc ∧ Own shI64 2 w13.heap.size w13.heap.size wl.heap.size wl u bcc ∧ w20.heap.size ≤ wl.heap.size ∧ (i ≤ list.length) ∧ (acc = ((list.take i).filter orB).map (·.1)) ∧ (bcc = ((list.take i).filter orB).map orP) ∧ (acc.length ≤ i) ∧ (bcc.length ≤ i) ∧ (list.length ≤ 20)) (fun ⟨i, v, acc, u, bcc⟩ => list.length - i) (0, v12, ([] : List Str), v19, ([] : List Int)) ?_ ?_
 exact ⟨(sl H), hx25, (fi ho14), (fi ho21), (by omega), (by omega), (by simp), (by simp), (by simp), (by simp), (by assumption)⟩
 clear H A
 rintro ⟨i, v, acc, u, bcc⟩ A w29 ⟨H, hx30, hf31, hf32, hzl34, hi, hA, hB, hl1, hl2, hn⟩
 have hzhx30 := hx30.size
 revert A; refine go ?_; intro A H
 refine wv H (ln H U30 h_list) ?_
 clear H A; refine go ?_; intro A H
 by_cases c39 : ((i : Nat) : Int) < ((list.length : Nat) : Int)
 rw [decide_eq_true c39] at H
 revert A; refine go ?_; intro A H
 obtain ⟨x42, hx42⟩ := get_ex (xs := list) (j := i) (by omega)
 obtain ⟨p43, hi45, hc46, b49, b50, b51, b52, b53, hs48⟩ := at_shBin h_list hx42
 have hbx42 := stB_bd c11 hx42
 have ho1x42 : orN x42 = x42.2.2.2.1 - (x42.2.1 - x42.2.2.1) := rfl
 have hpx42 := ceI_all (a := x42.2.2.2.1 - (x42.2.1 - x42.2.2.1)) (b := x42.2.2.2.2) (by omega) (by omega) (by omega) (by omega)
 refine wv H (ix H U30 ti65 hi45) ?_
 clear H A; intro A H
 refine wv H (ls H U65 ti65 (hc46.ext hx30)) ?_
 clear H A; intro A H
 refine we H (op_alloc' rfl ti65 rfl) ?_
 clear H A; rintro _ w57 ⟨rfl, he58, hb59, hz60⟩ A H
 obtain ⟨hx62, _⟩ := nx hx30 he58
 replace hf31 := hf31.ext he58
 replace hf32 := hf32.ext he58
 refine ws H (op_sa H ti65 hb59) ?_
 rintro w63 ⟨hb65, hst64, hz66⟩
 obtain ⟨hx67, _⟩ := nb hx62 hst64
 replace hf31 := hf31.stp hst64 (by intro q hq; cases hq; omega)
 replace hf32 := hf32.stp hst64 (by intro q hq; cases hq; omega)
 clear hb59
 revert A; refine go ?_; intro A H
 refine dre Ext follows_mixed ?_
 intro w68 he69 hs71
 obtain ⟨hx70, _⟩ := nx hx67 he69
 replace hf31 := hf31.ext he69
 replace hf32 := hf32.ext he69
 replace hb65 := hb65.ext he69
 refine dv 0 H rfl hs71 (fun w' hw' => ls H U65 ti65 (hb65.ext hw').cells) ?_
 clear H A; intro A H
 refine dw 2 H rfl hs71 (fa H U65 ti2) ?_
 clear H A; intro A H
 refine dv 3 H rfl hs71 (fun w' hw' => lf 3 H U2 (hb65.ext hw').cells) ?_
 clear H A; intro A H
 refine dr_one (i := 1) (by kernel_rfl) ?_
 refine pc H cb148 rfl (c_spec_l24Free _ x42 (by omega) (by omega)) ?_
 clear H A; rintro v75 w76 he77 rfl A H
 have hs79 := hs71.trans' he77
 obtain ⟨hx80, _⟩ := nx hx70 he77
 refine ⟨hs79, ?_⟩
 refine dw 4 H rfl hs79 (op_lss H rfl rfl rfl) ?_
 clear H A; intro A H
 refine dr_end (by kernel_rfl) ?_
 replace hf31 := hf31.ext hs79
 replace hf32 := hf32.ext hs79
 replace hb65 := hb65.ext hs79
 refine then_n ?_
 by_cases c82 : (x42.2.1 - x42.2.2.1 : Int) < x42.2.2.2.1
 rw [decide_eq_true c82] at H
 revert A; refine go ?_; intro A H
 refine fl 0 H U65 ti9 U9 hb65.cells ?_
 clear H A; intro A H
 refine we H (op_b1 (mk_shStr x42.1 (by assumption)) H pos_shStr U25 ti9) ?_
 clear H A; rintro v86 w87 ⟨ho88, he89, hob90⟩ A H
 obtain ⟨hx92, _⟩ := nx hx80 he89
 replace hf31 := hf31.ext he89
 replace hf32 := hf32.ext he89
 replace hb65 := hb65.ext he89
 refine we H (op_ap (ts := #[]) H U25 ti9 pos_shStr hf31 (ho88.rds pos_shStr) flat_shStr) ?_
 clear H A; rintro v93 w94 ⟨ho95, hst96, hob97⟩ A H
 obtain ⟨hx99, _⟩ := no hx92 hf31 hst96
 replace hf32 := oo hf32 flat_shI64 hf31 hst96
 replace hb65 := hb65.stp hst96 (by intro q hq; have hq0 := hf31.lt q hq; omega)
 replace ho88 := ho88.stp hst96 (by intro q hq; have hq0 := hf31.lt q hq; omega)
 have hsp100 : ∀ q, Value.ownBlock v93 = some q → Value.ownBlock v86 ≠ some q := by intro q hq hb; have hq0 := ho88.lt q hb; rcases hob97 with h | h; (rw [h] at hq; first | (have hq1 := hf31.lt q hq; omega)); (rw [h] at hq; cases hq; omega)
 revert A; refine go ?_; intro A H
 refine dre (fun wa_ wb_ => Stp wa_ wb_ (Value.ownBlock u)) follows_mixed ?_
 intro w102 he103 hs105
 obtain ⟨hx104, _⟩ := nx hx99 he103
 replace hf32 := hf32.ext he103
 replace hb65 := hb65.ext he103
 replace ho88 := ho88.ext he103
 replace ho95 := ho95.ext he103
 refine dw 0 H rfl (Stp.of_ext hs105 _) (op_move H rfl rfl) ?_
 clear H A; intro A H
 refine dw 1 H rfl (Stp.of_ext hs105 _) (fa H U65 ti2) ?_
 clear H A; intro A H
 refine dv 2 H rfl (Stp.of_ext hs105 _) (fun w' hw' => lf 4 H U2 (hb65.stp hw' (by intro q hq; (have hq0 := hf32.lt q hq; omega))).cells) ?_
 clear H A; intro A H
 refine dw 3 H rfl (Stp.of_ext hs105 _) (fa H U65 ti2) ?_
 clear H A; intro A H
 refine dv 4 H rfl (Stp.of_ext hs105 _) (fun w' hw' => lf 3 H U2 (hb65.stp hw' (by intro q hq; (have hq0 := hf32.lt q hq; omega))).cells) ?_
 clear H A; intro A H
 refine dv 5 H rfl (Stp.of_ext hs105 _) (fun w' hw' => ls H U65 ti65 (hb65.stp hw' (by intro q hq; (have hq0 := hf32.lt q hq; omega))).cells) ?_
 clear H A; intro A H
 refine dw 8 H rfl (Stp.of_ext hs105 _) (fa H U65 ti2) ?_
 clear H A; intro A H
 refine dv 9 H rfl (Stp.of_ext hs105 _) (fun w' hw' => lf 4 H U2 (hb65.stp hw' (by intro q hq; (have hq0 := hf32.lt q hq; omega))).cells) ?_
 clear H A; intro A H
 refine dr_one (i := 6) (by kernel_rfl) ?_
 refine pc H cb148 rfl (c_spec_l24Free _ x42 (by omega) (by omega)) ?_
 clear H A; rintro v114 w115 he116 rfl A H
 have hs118 := hs105.trans' he116
 obtain ⟨hx119, _⟩ := nx hx104 he116
 refine ⟨(Stp.of_ext hs118 _), ?_⟩
 refine dw 7 H rfl (Stp.of_ext hs118 _) ((op_sub H rfl rfl rfl).int (IntWalk.i64_in _ (by omega))) ?_
 clear H A; intro A H
 refine dr_one (i := 10) (by kernel_rfl) ?_
 refine pc H cb162 rfl (c_spec_l01Ceil _ (x42.2.2.2.1 - (x42.2.1 - x42.2.2.1 : Int)) x42.2.2.2.2 (by omega) (by omega)) ?_
 clear H A; rintro v121 w122 he123 rfl A H
 have hs125 := hs118.trans' he123
 obtain ⟨hx126, _⟩ := nx hx119 he123
 refine ⟨(Stp.of_ext hs125 _), ?_⟩
 refine dw 11 H rfl (Stp.of_ext hs125 _) ((op_mul H rfl rfl rfl).int (IntWalk.i64_in _ (by omega))) ?_
 clear H A; intro A H
 refine dr_one (i := 12) (by kernel_rfl) ?_
 refine pe H rfl (op_b1 (mk_shI64 ((x42.2.2.2.2 * (ceI (x42.2.2.2.1 - (x42.2.1 - x42.2.2.1 : Int)) x42.2.2.2.2 : Int))) (by omega)) H pos_shI64 U55 ti2) ?_
 clear H A; rintro v128 w129 ⟨ho130, he131, hob132⟩ A H
 have hs134 := hs125.trans' he131
 obtain ⟨hx135, _⟩ := nx hx126 he131
 refine ⟨(Stp.of_ext hs134 _), ?_⟩
 refine dr_one (i := 13) (by kernel_rfl) ?_
 replace hf32 := hf32.ext hs134
 replace hb65 := hb65.ext hs134
 replace ho88 := ho88.ext hs134
 replace ho95 := ho95.ext hs134
 refine pe H rfl (op_ap (ts := #[]) H U55 ti2 pos_shI64 hf32 (ho130.rds pos_shI64) flat_shI64) ?_
 clear H A; rintro v136 w137 ⟨ho138, hst139, hob140⟩ A H
 have hs142 := (Stp.of_ext hs134 (Value.ownBlock u)).trans' hst139
 obtain ⟨hx143, _⟩ := no hx135 hf32 hst139
 replace hb65 := hb65.stp hst139 (by intro q hq; have hq0 := hf32.lt q hq; omega)
 replace ho88 := ho88.stp hst139 (by intro q hq; have hq0 := hf32.lt q hq; omega)
 replace ho95 := oo ho95 flat_shStr hf32 hst139
 replace ho130 := ho130.stp hst139 (by intro q hq; have hq0 := hf32.lt q hq; omega)
 have hsp144 : ∀ q, Value.ownBlock v136 = some q → Value.ownBlock v128 ≠ some q := by intro q hq hb; have hq0 := ho130.lt q hb; rcases hob140 with h | h; (rw [h] at hq; first | (have hq1 := hf32.lt q hq; omega)); (rw [h] at hq; cases hq; omega)
 refine ⟨hs142, ?_⟩
 refine dw 14 H rfl hs142 (op_assign H rfl rfl) ?_
 clear H A; intro A H
 refine dr_end (by kernel_rfl) ?_
 revert A; refine go ?_; intro A H
 refine wv H ((op_add H rfl rfl rfl).int (IntWalk.i64_in _ (by omega))) ?_
 clear H A; refine go ?_; intro A H
 refine ⟨((i + 1), v93, (acc ++ [x42.1]), v136, (bcc ++ [(x42.2.2.2.2 * (ceI (x42.2.2.2.1 - (x42.2.1 - x42.2.2.1 : Int)) x42.2.2.2.2 : Int))])), ?_, ?_⟩
 refine ⟨(sl H), hx143, (fi ho95), (fi ho138), (by omega), (by omega), (by rw [flt_in (·.1) hx42 (decide_eq_true (by omega)), ← hA]), (by rw [flt_in orP hx42 (decide_eq_true (by omega)), ← hB]; exact congrArg (fun z => bcc ++ [z]) (by exact Int.mul_comm _ _)), (by simp; omega), (by simp; omega), (by exact hn)⟩
 show (list.length - ((i + 1)) : Nat) < list.length - i; omega
 rw [decide_eq_false c82] at H
 revert A; refine go ?_; intro A H
 refine wv H ((op_add H rfl rfl rfl).int (IntWalk.i64_in _ (by omega))) ?_
 clear H A; refine go ?_; intro A H
 refine ⟨((i + 1), v, acc, u, bcc), ?_, ?_⟩
 refine ⟨(sl H), hx80, (fi hf31), (fi hf32), (by omega), (by omega), (by rw [flt_out (·.1) hx42 (decide_eq_false (by omega))]; exact hA), (by rw [flt_out orP hx42 (decide_eq_false (by omega))]; exact hB), (by omega), (by omega), (by exact hn)⟩
 show (list.length - ((i + 1)) : Nat) < list.length - i; omega
 rw [decide_eq_false c39] at H
 revert A; refine go ?_; intro A H
 refine ret3 H rfl rfl rfl rfl ?_
 clear H A
 refine ret_mk hx30 ⟨v, u, (tup3_eq rfl rfl (int_eq (by simp [c11]))), ?_, ?_⟩
 refine (fi hf31).cast ?_
 rw [hA, List.take_of_length_le (by omega)]; simp [ocL, c11]
 refine (fi hf32).cast ?_
 rw [hB, List.take_of_length_le (by omega)]; simp [oqL, c11]
 rw [c11] at H
 revert A; refine go ?_; intro A H
 refine ret3 H rfl rfl rfl rfl ?_
 clear H A
 refine ret_mk hx9 ⟨.slice none 0 0, .slice none 0 0, (tup3_eq rfl rfl (int_eq (by simp [c11]))), ?_, ?_⟩
 refine Own.nil_ _ _ _ _ _ _ ?_
 simp [ocL, c11]
 refine Own.nil_ _ _ _ _ _ _ ?_
 simp [oqL, c11]




end Go.Proofs.YthbehhhblchhhaaGreat
