/- A further bin. -/
import Derived.Test.YthbehhhblchhhaaGreatS3
import Derived.Test.YthbehhhblchhhaaGreatNarrow
namespace Go.Proofs.YthbehhhblchhhaaGreat
open Go Go.RowKit
set_option maxHeartbeats 16000000

theorem swap_abs {α : Type} {L M : List α} {c a : α} {k : Nat} (hM : M = L.take (k + 1) ++ c :: L.drop (k + 1)) (ha : L[k]? = some a) : (M.set k c).set (k + 1) a = L.take k ++ c :: L.drop k := by
  have hk : k < L.length := (List.getElem?_eq_some_iff.1 ha).1
  subst hM
  rw [take_snoc ha, List.append_assoc, List.set_append_right _ _ (by rw [List.length_take]; omega), List.set_append_right _ _ (by rw [List.length_take]; omega), List.length_take, Nat.min_eq_left (by omega), Nat.sub_self, show k + 1 - k = 1 by omega, drop_cons ha]
  rfl
theorem swap_at {α : Type} {L M : List α} {c : α} {k : Nat} (hM : M = L.take k ++ c :: L.drop k) (hk : k ≤ L.length) : M[k]? = some c ∧ ∀ j, j < k → M[j]? = L[j]? := by
  subst hM
  refine ⟨?_, fun j hj => ?_⟩
  · rw [List.getElem?_append_right (by rw [List.length_take]; omega), List.length_take, Nat.min_eq_left hk, Nat.sub_self]; rfl
  · rw [List.getElem?_append_left (by rw [List.length_take]; omega), List.getElem?_take, if_pos hj]
theorem pw_swap' {α : Type} {xs : List α} {j k : Nat} {x y : α} (hk : k = j + 1) (hx : xs[j]? = some x) (hy : xs[k]? = some y) : ((xs.set j y).set k x).Perm xs := by subst hk; exact pw_swap hx hy

theorem stB_lt {xs : List Bin} (h : stB xs = true) : ∀ {j i : Nat} {c d : Bin}, i < j → xs[i]? = some c → xs[j]? = some d → c.1 < d.1
  | 0, i, _, _, hij, _, _ => by omega
  | j + 1, i, c, d, hij, hc, hd => by
    rcases (stB_at h hd).2 with q | ⟨a, ha, q⟩
    · omega
    · rw [Nat.add_sub_cancel] at ha
      rcases Nat.lt_or_ge i j with e | e
      · exact str_tr (stB_lt h e hc ha) q
      · have e2 : i = j := by omega
        subst e2; rw [hc] at ha; cases ha; exact q
def inB (b : Bin) : List Bin → List Bin
  | [] => [b]
  | y :: ys => if y.1 < b.1 then y :: inB b ys else b :: y :: ys
theorem inB_cut {c : Bin} : ∀ {xs : List Bin} {k : Nat}, (∀ j y, j < k → xs[j]? = some y → y.1 < c.1) → (xs.length ≤ k ∨ ∃ y, xs[k]? = some y ∧ ¬ y.1 < c.1) → inB c xs = xs.take k ++ c :: xs.drop k
  | [], k, _, _ => by simp [inB]
  | y :: ys, 0, _, h => by
    rcases h with h | ⟨z, hz, h⟩
    · simp at h
    · simp at hz; subst hz; rw [inB, if_neg h]; rfl
  | y :: ys, k + 1, h, h' => by
    rw [inB, if_pos (h 0 y (by omega) rfl), inB_cut (k := k) (fun j z hj hz => h (j + 1) z (by omega) (by simpa using hz)) (by
      rcases h' with h' | ⟨z, hz, h'⟩
      · left; simpa using h'
      · right; exact ⟨z, by simpa using hz, h'⟩)]
    rfl
theorem inB_back {xs : List Bin} {c : Bin} {k : Nat} (h : stB xs = true) (hn : fnB xs c.1 < 0) (hk : ∀ (j : Nat) (y : Bin), k ≤ j → xs[j]? = some y → c.1 < y.1) (h0 : k = 0 ∨ ∃ b, xs[k - 1]? = some b ∧ ¬ c.1 < b.1) : inB c xs = xs.take k ++ c :: xs.drop k := by
  have hne : ∀ (j : Nat) (y : Bin), xs[j]? = some y → y.1 ≠ c.1 := fun j y hy => by
    have := fdF_neg.1 hn y (List.mem_of_getElem? hy); simpa [cnB] using this
  refine inB_cut (fun j y hj hy => ?_) ?_
  · rcases h0 with h0 | ⟨b, hb, h1⟩
    · omega
    · have hbc := (str_le h1).resolve_right (hne _ _ hb)
      by_cases e : j = k - 1
      · subst e; rw [hb] at hy; cases hy; exact hbc
      · exact str_tr (stB_lt h (by omega) hy hb) hbc
  · rcases Nat.lt_or_ge k xs.length with q | q
    · obtain ⟨y, hy⟩ := get_ex q
      exact .inr ⟨y, hy, str_as (hk k y (Nat.le_refl _) hy)⟩
    · exact .inl q
def adC (xs : List Bin) (b : Bin) : Int := if stB [b] = true then (if 0 ≤ fnB xs b.1 then 5 else if xs.length = 20 then 3 else 0) else 1
def adL (xs : List Bin) (b : Bin) : List Bin := if adC xs b = 0 then inB b xs else []

theorem c_impl_addBin (w0 : World) (v_list : Value) (list : List (Str × Int × Int × Int × Int)) {S_list : Nat → Prop} (b : Str × Int × Int × Int × Int) (h_list : Rds shBin S_list w0 v_list list) (g0 : stB list = true) (g1 : b.1.length ≤ 9223372036854775807) (g2 : I64 b.2.1) (g3 : I64 b.2.2.1) (g4 : I64 b.2.2.2.1) (g5 : I64 b.2.2.2.2) :
    Calls Tryz.prog 92 #[v_list, .agg #[St b.1, .int .i64 b.2.1, .int .i64 b.2.2.1, .int .i64 b.2.2.2.1, .int .i64 b.2.2.2.2]] w0 (Ret w0 (fun v w1 => ∃ r0, v = .tuple #[r0, .int .i64 (adC list b)] ∧ Own shBin 65 w0.heap.size w0.heap.size w1.heap.size w1 r0 (adL list b))) := by
 refine enter (N := 64) Tryz.func92 rfl rfl rfl ?_
 intro A H
 have hx0 := Ext.rfl' w0
 have hl_list := h_list.length_le
 have hlen := stB_len g0
 have hfb := fnB_bd list b.1
 have hla : (list ++ [b]).length = list.length + 1 := by simp
 revert A; refine go ?_; intro A H
 refine we H (op_box' H rfl rfl rfl) ?_
 clear H A; rintro _ w2 ⟨rfl, he3, hb4, hz5⟩ A H
 obtain ⟨hx7, _⟩ := nx hx0 he3
 revert A; refine go ?_; intro A H
 refine wv H (ls H U65 ti65 hb4.cells) ?_
 clear H A; intro A H
 refine we H (op_b1 (mk_shBin b (by assumption) (by assumption) (by assumption) (by assumption) (by assumption)) H pos_shBin U30 ti65) ?_
 clear H A; rintro v11 w12 ⟨ho13, he14, hob15⟩ A H
 obtain ⟨hx17, _⟩ := nx hx7 he14
 replace hb4 := hb4.ext he14
 refine wc H cb53 (c_impl_IsStock _ v11 ([b]) (ho13.rds pos_shBin)) ?_
 clear H A; rintro v18 w19 he20 rfl A H
 obtain ⟨hx22, _⟩ := nx hx17 he20
 replace hb4 := hb4.ext he20
 replace ho13 := ho13.ext he20
 revert A; refine go ?_; intro A H
 rcases Bool.eq_false_or_eq_true (stB ([b])) with c24 | c24
 rw [c24] at H
 clear ho13
 revert A; refine go ?_; intro A H
 refine fl 0 H U65 ti9 U9 hb4.cells ?_
 clear H A; intro A H
 refine wc H cb115 (c_impl_findBin _ v_list list b.1 (h_list.ext pos_shBin hx22)) ?_
 clear H A; rintro v28 w29 he30 rfl A H
 obtain ⟨hx32, _⟩ := nx hx22 he30
 replace hb4 := hb4.ext he30
 revert A; refine go ?_; intro A H
 by_cases c34 : (0 : Int) ≤ (fnB list b.1 : Int)
 rw [decide_eq_true c34] at H
 clear hb4
 revert A; refine go ?_; intro A H
 refine ret2 H rfl rfl rfl ?_
 clear H A
 refine ret_mk hx32 ⟨.slice none 0 0, (tup2_eq rfl (int_eq (by symm; unfold adC; rw [if_pos c24, if_pos c34]))), ?_⟩
 refine Own.nil_ _ _ _ _ _ _ ?_
 have hr : ¬ adC list b = 0 := by (simp [adC, c24, c34]; done)
 unfold adL; rw [if_neg hr]
 rw [decide_eq_false c34] at H
 revert A; refine go ?_; intro A H
 refine wv H (ln H U30 h_list) ?_
 clear H A; refine go ?_; intro A H
 by_cases c40 : ((list.length : Nat) : Int) = (20 : Int)
 rw [decide_eq_true c40] at H
 clear hb4
 revert A; refine go ?_; intro A H
 refine ret2 H rfl rfl rfl ?_
 clear H A
 refine ret_mk hx32 ⟨.slice none 0 0, (tup2_eq rfl (int_eq (by symm; unfold adC; rw [if_pos c24, if_neg c34, if_pos (by omega)]))), ?_⟩
 refine Own.nil_ _ _ _ _ _ _ ?_
 have hr : ¬ adC list b = 0 := by (simp [adC, c24, c34]; omega)
 unfold adL; rw [if_neg hr]
 rw [decide_eq_false c40] at H
 revert A; refine go ?_; intro A H
 refine dre Ext follows_mixed ?_
 intro w43 he44 hs46
 obtain ⟨hx45, _⟩ := nx hx32 he44
 replace hb4 := hb4.ext he44
 refine dr_share (fun fr wl S => ∃ (q47 : Value) (q48 : Value) (n51 n52 : Nat) (n53 n54 : Nat), S = (fun w' => StpL wl w' (fun i => Value.ownBlock q47 = some i)) ∧ Sl 64 fr [(22, q47), (24, q48)] ∧ Ext w0 wl ∧ Own shBin 65 n51 n51 n52 wl q47 list ∧ Own shBin 65 n53 n53 n54 wl q48 ([b]) ∧ (w43.heap.size ≤ n51) ∧ (n52 ≤ wl.heap.size) ∧ (n51 ≤ n52) ∧ (w43.heap.size ≤ n53) ∧ (n54 ≤ wl.heap.size) ∧ (∀ q, Value.ownBlock q47 = some q → Value.ownBlock q48 ≠ some q) ∧ w43.heap.size ≤ wl.heap.size) 2 #[true, true, true, true, true, false, false] ?_ ?_
 clear H A
 rintro A w49 _ ⟨q47, q48, n51, n52, n53, n54, rfl, H, hx50, hf55, hf56, hg59, hg60, hg61, hg62, hg63, hsp57, hzl58⟩
 have hzhx50 := hx50.size
 have hs65 : Ext w49 w49 := Ext.rfl' _
 refine dr_one (i := 5) (by kernel_rfl) ?_
 refine pe H rfl (op_append (ts := #[]) (s := shBin) H rfl U30 ti65 rfl pos_shBin rfl rfl hf55 (hf56.rds pos_shBin) (by omega) (by omega) (by simp; omega) (by simp; omega) (.inl flat_shBin)) ?_
 clear H A; rintro v66 w67 ⟨ho68, hst69, hob70⟩ A H
 obtain ⟨hx72, _⟩ := no hx50 hf55 hst69
 replace hf56 := hf56.stpF flat_shBin hst69 (fun q hq => hsp57 q hq)
 have hsp73 : ∀ q, Value.ownBlock v66 = some q → Value.ownBlock q48 ≠ some q := by intro q hq hb; have hq0 := hf56.lt q hb; rcases hob70 with h | h; (rw [h] at hq; exact hsp57 q hq hb); (rw [h] at hq; cases hq; omega)
 have hs74 := (StpL.of_ext (B := fun i => Value.ownBlock q47 = some i) hs65).trans' (Stp.toL hst69 (by intro q hq; exact hq))
 refine ⟨hs74, ?_⟩
 refine dr_narrow (S' := fun w' => Ext w67 w') (fun w' h' => StpL.trans' hs74 (StpL.of_ext h')) _ _ _ _ ?_
 have hs75 : Ext w67 w67 := Ext.rfl' _
 refine dw 6 H rfl hs75 (op_assign H rfl rfl) ?_
 clear H A; intro A H
 refine dr_end (by kernel_rfl) ?_
 clear hf56
 revert A; refine go ?_; intro A H
 refine wv H (ln H U30 (ho68.rds pos_shBin)) ?_
 clear H A; intro A H
 refine wv H ((op_sub H rfl rfl rfl).int (IntWalk.i64_in _ (by omega))) ?_
 clear H A; refine go ?_; intro A H
 refine loop_inv (X := Nat × (List Bin)) (fun ⟨k, zs⟩ fr wl => Sl 64 fr [(6, v66), (7, .int .i64 ((k : Nat) : Int))] ∧ Ext w0 wl ∧ Own shBin 65 n51 n51 w67.heap.size wl v66 zs ∧ w67.heap.size ≤ wl.heap.size ∧ (k ≤ list.length) ∧ (zs.length = list.length + 1) ∧ (zs = list.take k ++ b :: list.drop k) ∧ (∀ (j : Nat) (y : Bin), k ≤ j → list[j]? = some y → b.1 < y.1)) (fun ⟨k, zs⟩ => k) ((((list ++ [b])).length - 1), (list ++ [b])) ?_ ?_
 exact ⟨(sl H), hx72, ho68, (by omega), (by simp), (by simp), (by simp), (by intro j y hj hy; have := (List.getElem?_eq_some_iff.1 hy).1; simp at hj; omega)⟩
 clear H A
 rintro ⟨k, zs⟩ A w81 ⟨H, hx82, hf83, hzl85, hk, hl, hF, hk2⟩
 have hzhx82 := hx82.size
 revert A; refine go ?_; intro A H
 refine dre Ext follows_mixed ?_
 intro w86 he87 hs89
 obtain ⟨hx88, _⟩ := nx hx82 he87
 replace hf83 := hf83.ext he87
 revert A; refine dgo [0, 1, 2] hs89 ?_; intro A H
 by_cases c93 : (0 : Int) < ((k : Nat) : Int)
 rw [decide_eq_true c93] at H
 revert A; refine dgo [3, 4] hs89 ?_; intro A H
 refine dw 5 H rfl hs89 ((op_sub H rfl rfl rfl).int (IntWalk.i64_in _ (by omega))) ?_
 clear H A; intro A H
 obtain ⟨x97, hx97⟩ := get_ex (xs := zs) (j := (k - 1)) (by omega)
 obtain ⟨p98, hi100, hc101, b104, b105, b106, b107, b108, _, _⟩ := at_shBin (hf83.rds pos_shBin) hx97
 refine dw 6 H rfl hs89 (op_indexAddr H rfl U30 ti65 rfl rfl (by omega) hi100) ?_
 clear H A; intro A H
 refine dw 7 H rfl hs89 (fa H U65 ti9) ?_
 clear H A; intro A H
 refine dv 8 H rfl hs89 (fun w' hw' => lf 0 H U9 (hc101.ext hw')) ?_
 clear H A; refine dgo [9, 10] hs89 ?_; intro A H
 obtain ⟨x114, hx114⟩ := get_ex (xs := zs) (j := k) (by omega)
 obtain ⟨p115, hi117, hc118, b121, b122, b123, b124, b125, _, _⟩ := at_shBin (hf83.rds pos_shBin) hx114
 refine dw 11 H rfl hs89 (op_indexAddr H rfl U30 ti65 rfl rfl (by omega) hi117) ?_
 clear H A; intro A H
 refine dw 12 H rfl hs89 (fa H U65 ti9) ?_
 clear H A; intro A H
 refine dv 13 H rfl hs89 (fun w' hw' => lf 0 H U9 (hc118.ext hw')) ?_
 clear H A; intro A H
 refine dv 14 H rfl hs89 (fun w' hw' => (op_sgtr H rfl rfl rfl).to (congrArg Value.bool (str_gtr _ _))) ?_
 clear H A; intro A H
 refine dw 15 H rfl hs89 (op_pick_t H rfl rfl rfl) ?_
 clear H A; intro A H
 refine dr_end (by kernel_rfl) ?_
 refine then_n ?_
 by_cases c131 : x114.1 < x97.1
 rw [decide_eq_true c131] at H
 revert A; refine go ?_; intro A H
 clear hc101 hc118
 refine dre (fun wa_ wb_ => Stp wa_ wb_ (Value.ownBlock v66)) follows_mixed ?_
 intro w132 he133 hs135
 obtain ⟨hx134, _⟩ := nx hx88 he133
 replace hf83 := hf83.ext he133
 revert A; refine dgo [0, 1] (Stp.of_ext hs135 _) ?_; intro A H
 refine dw 2 H rfl (Stp.of_ext hs135 _) ((op_sub H rfl rfl rfl).int (IntWalk.i64_in _ (by omega))) ?_
 clear H A; refine dgo [3, 4, 5, 6] (Stp.of_ext hs135 _) ?_; intro A H
 obtain ⟨p143, hi145, hc146, b149, b150, b151, b152, b153, _, _⟩ := at_shBin (hf83.rds pos_shBin) hx114
 refine dw 7 H rfl (Stp.of_ext hs135 _) (op_indexAddr H rfl U30 ti65 rfl rfl (by omega) hi145) ?_
 clear H A; refine dgo [9, 10] (Stp.of_ext hs135 _) ?_; intro A H
 refine dw 11 H rfl (Stp.of_ext hs135 _) ((op_sub H rfl rfl rfl).int (IntWalk.i64_in _ (by omega))) ?_
 clear H A; intro A H
 obtain ⟨p158, hi160, hc161, b164, b165, b166, b167, b168, _, _⟩ := at_shBin (hf83.rds pos_shBin) hx97
 refine dw 12 H rfl (Stp.of_ext hs135 _) (op_indexAddr H rfl U30 ti65 rfl rfl (by omega) hi160) ?_
 clear H A; intro A H
 refine dr_two (i := 8) (j := 13) (by kernel_rfl) ?_ ?_
 refine po_to H rfl rfl rfl rfl (ls H U65 ti65 (hc146.ext hs135)) ?_
 clear H A; intro A H
 refine ⟨(Stp.of_ext hs135 _), ?_⟩
 refine dr_one (i := 13) (by kernel_rfl) ?_
 refine po_to H rfl rfl rfl rfl (ls H U65 ti65 (hc161.ext hs135)) ?_
 clear H A; intro A H
 refine ⟨(Stp.of_ext hs135 _), ?_⟩
 refine dw 14 H rfl (Stp.of_ext hs135 _) (op_indexAddr H rfl U30 ti65 rfl rfl (by omega) hi160) ?_
 clear H A; intro A H
 refine dr_one (i := 15) (by kernel_rfl) ?_
 replace hf83 := hf83.ext hs135
 replace hc146 := hc146.ext hs135
 replace hc161 := hc161.ext hs135
 refine po_effS H rfl rfl rfl (op_setElem (s := shBin) (ds := [St x114.1, .int .i64 x114.2.1, .int .i64 x114.2.2.1, .int .i64 x114.2.2.2.1, .int .i64 x114.2.2.2.2]) (S' := fun _ => False) H rfl ti65 rfl rfl rfl hf83 pos_shBin hi160 (by omega) (mk_shBin x114 (by assumption) (by assumption) (by assumption) (by assumption) (by assumption)) (fun _ h => h.elim)) ?_
 rintro w173 ⟨ho175, hst174, hz176⟩
 obtain ⟨hx177, _⟩ := no hx134 hf83 hst174
 clear hf83
 have hlsho175 : ((zs.set ((k - 1)) x114)).length = zs.length := List.length_set
 have hs178 := (Stp.of_ext hs135 (Value.ownBlock v66)).trans' hst174
 refine ⟨hs178, ?_⟩
 refine drs hs178 ?_
 intro hs179
 obtain ⟨x180, hx180⟩ := get_ex (xs := (zs.set ((k - 1)) x114)) (j := k) (by omega)
 obtain ⟨p181, hi183, hc184, b187, b188, b189, b190, b191, _, _⟩ := at_shBin (ho175.rds pos_shBin) hx180
 refine dw 16 H rfl (Stp.of_ext hs179 _) (op_indexAddr H rfl U30 ti65 rfl rfl (by omega) hi183) ?_
 clear H A; intro A H
 refine dr_one (i := 17) (by kernel_rfl) ?_
 replace ho175 := ho175.ext hs179
 replace hc184 := hc184.ext hs179
 refine po_effS H rfl rfl rfl (op_setElem (s := shBin) (ds := [St x97.1, .int .i64 x97.2.1, .int .i64 x97.2.2.1, .int .i64 x97.2.2.2.1, .int .i64 x97.2.2.2.2]) (S' := fun _ => False) H rfl ti65 rfl rfl rfl ho175 pos_shBin hi183 (by omega) (mk_shBin x97 (by assumption) (by assumption) (by assumption) (by assumption) (by assumption)) (fun _ h => h.elim)) ?_
 rintro w193 ⟨ho195, hst194, hz196⟩
 obtain ⟨hx197, _⟩ := no hx177 ho175 hst194
 clear ho175
 have hlsho195 : ((((zs.set ((k - 1)) x114)).set k x97)).length = ((zs.set ((k - 1)) x114)).length := List.length_set
 have hs198 := (Stp.of_ext hs179 (Value.ownBlock v66)).trans' hst194
 refine ⟨hs198, ?_⟩
 refine drs hs198 ?_
 intro hs199
 refine dr_end (by kernel_rfl) ?_
 revert A; refine go ?_; intro A H
 refine wv H ((op_sub H rfl rfl rfl).int (IntWalk.i64_in _ (by omega))) ?_
 clear H A; refine go ?_; intro A H
 refine ⟨((k - 1), (((zs.set ((k - 1)) x114)).set k x97)), ?_, ?_⟩
 refine ⟨(sl H), hx197, ho195, (by omega), (by omega), (by simp only [List.length_set]; exact hl), (by obtain ⟨j, hj⟩ : ∃ j, k = j + 1 := ⟨k - 1, (by omega)⟩; subst hj; obtain ⟨hs1, hs2⟩ := swap_at hF (by omega); have hc1 := hx114; rw [hs1] at hc1; have hc2 := hx97; rw [Nat.add_sub_cancel] at hc2; rw [hs2 j (by omega)] at hc2; have hc3 := (Option.some.inj hc1).symm; rw [hc3, Nat.add_sub_cancel]; exact swap_abs hF hc2), (by obtain ⟨j, hj⟩ : ∃ j, k = j + 1 := ⟨k - 1, (by omega)⟩; subst hj; obtain ⟨hs1, hs2⟩ := swap_at hF (by omega); have hc1 := hx114; rw [hs1] at hc1; have hc2 := hx97; rw [Nat.add_sub_cancel] at hc2; rw [hs2 j (by omega)] at hc2; have hc3 := (Option.some.inj hc1).symm; intro q y hq hy; by_cases e : q = j; (subst e; rw [hc2] at hy; cases hy; rw [hc3] at c131; exact c131); exact hk2 q y (by omega) hy)⟩
 show (((k - 1)) : Nat) < k; omega
 refine po_to H rfl rfl rfl rfl (ls H U65 ti65 (hc161.ext hs135)) ?_
 clear H A; intro A H
 refine ⟨(Stp.of_ext hs135 _), ?_⟩
 refine dr_one (i := 8) (by kernel_rfl) ?_
 refine po_to H rfl rfl rfl rfl (ls H U65 ti65 (hc146.ext hs135)) ?_
 clear H A; intro A H
 refine ⟨(Stp.of_ext hs135 _), ?_⟩
 refine dw 14 H rfl (Stp.of_ext hs135 _) (op_indexAddr H rfl U30 ti65 rfl rfl (by omega) hi160) ?_
 clear H A; intro A H
 refine dr_one (i := 15) (by kernel_rfl) ?_
 replace hf83 := hf83.ext hs135
 replace hc146 := hc146.ext hs135
 replace hc161 := hc161.ext hs135
 refine po_effS H rfl rfl rfl (op_setElem (s := shBin) (ds := [St x114.1, .int .i64 x114.2.1, .int .i64 x114.2.2.1, .int .i64 x114.2.2.2.1, .int .i64 x114.2.2.2.2]) (S' := fun _ => False) H rfl ti65 rfl rfl rfl hf83 pos_shBin hi160 (by omega) (mk_shBin x114 (by assumption) (by assumption) (by assumption) (by assumption) (by assumption)) (fun _ h => h.elim)) ?_
 rintro w206 ⟨ho208, hst207, hz209⟩
 obtain ⟨hx210, _⟩ := no hx134 hf83 hst207
 clear hf83
 have hlsho208 : ((zs.set ((k - 1)) x114)).length = zs.length := List.length_set
 have hs211 := (Stp.of_ext hs135 (Value.ownBlock v66)).trans' hst207
 refine ⟨hs211, ?_⟩
 refine drs hs211 ?_
 intro hs212
 obtain ⟨x213, hx213⟩ := get_ex (xs := (zs.set ((k - 1)) x114)) (j := k) (by omega)
 obtain ⟨p214, hi216, hc217, b220, b221, b222, b223, b224, _, _⟩ := at_shBin (ho208.rds pos_shBin) hx213
 refine dw 16 H rfl (Stp.of_ext hs212 _) (op_indexAddr H rfl U30 ti65 rfl rfl (by omega) hi216) ?_
 clear H A; intro A H
 refine dr_one (i := 17) (by kernel_rfl) ?_
 replace ho208 := ho208.ext hs212
 replace hc217 := hc217.ext hs212
 refine po_effS H rfl rfl rfl (op_setElem (s := shBin) (ds := [St x97.1, .int .i64 x97.2.1, .int .i64 x97.2.2.1, .int .i64 x97.2.2.2.1, .int .i64 x97.2.2.2.2]) (S' := fun _ => False) H rfl ti65 rfl rfl rfl ho208 pos_shBin hi216 (by omega) (mk_shBin x97 (by assumption) (by assumption) (by assumption) (by assumption) (by assumption)) (fun _ h => h.elim)) ?_
 rintro w226 ⟨ho228, hst227, hz229⟩
 obtain ⟨hx230, _⟩ := no hx210 ho208 hst227
 clear ho208
 have hlsho228 : ((((zs.set ((k - 1)) x114)).set k x97)).length = ((zs.set ((k - 1)) x114)).length := List.length_set
 have hs231 := (Stp.of_ext hs212 (Value.ownBlock v66)).trans' hst227
 refine ⟨hs231, ?_⟩
 refine drs hs231 ?_
 intro hs232
 refine dr_end (by kernel_rfl) ?_
 revert A; refine go ?_; intro A H
 refine wv H ((op_sub H rfl rfl rfl).int (IntWalk.i64_in _ (by omega))) ?_
 clear H A; refine go ?_; intro A H
 refine ⟨((k - 1), (((zs.set ((k - 1)) x114)).set k x97)), ?_, ?_⟩
 refine ⟨(sl H), hx230, ho228, (by omega), (by omega), (by simp only [List.length_set]; exact hl), (by obtain ⟨j, hj⟩ : ∃ j, k = j + 1 := ⟨k - 1, (by omega)⟩; subst hj; obtain ⟨hs1, hs2⟩ := swap_at hF (by omega); have hc1 := hx114; rw [hs1] at hc1; have hc2 := hx97; rw [Nat.add_sub_cancel] at hc2; rw [hs2 j (by omega)] at hc2; have hc3 := (Option.some.inj hc1).symm; rw [hc3, Nat.add_sub_cancel]; exact swap_abs hF hc2), (by obtain ⟨j, hj⟩ : ∃ j, k = j + 1 := ⟨k - 1, (by omega)⟩; subst hj; obtain ⟨hs1, hs2⟩ := swap_at hF (by omega); have hc1 := hx114; rw [hs1] at hc1; have hc2 := hx97; rw [Nat.add_sub_cancel] at hc2; rw [hs2 j (by omega)] at hc2; have hc3 := (Option.some.inj hc1).symm; intro q y hq hy; by_cases e : q = j; (subst e; rw [hc2] at hy; cases hy; rw [hc3] at c131; exact c131); exact hk2 q y (by omega) hy)⟩
 show (((k - 1)) : Nat) < k; omega
 rw [decide_eq_false c131] at H
 clear hc101 hc118
 revert A; refine go ?_; intro A H
 refine ret2 H rfl rfl rfl ?_
 clear H A
 refine ret_mk hx88 ⟨v66, (tup2_eq rfl (int_eq (by symm; unfold adC; rw [if_pos c24, if_neg c34, if_neg (by omega)]))), ?_⟩
 refine (fi hf83).cast ?_
 have hr : adC list b = 0 := by (simp [adC, c24, c34]; omega)
 have hic := inB_back (c := b) g0 (by omega) hk2 (.inr (by obtain ⟨j, hj⟩ : ∃ j, k = j + 1 := ⟨k - 1, (by omega)⟩; subst hj; obtain ⟨hs1, hs2⟩ := swap_at hF (by omega); have hc1 := hx114; rw [hs1] at hc1; have hc2 := hx97; rw [Nat.add_sub_cancel] at hc2; rw [hs2 j (by omega)] at hc2; have hc3 := (Option.some.inj hc1).symm; exact ⟨_, by rw [Nat.add_sub_cancel]; exact hc2, by rw [hc3] at c131; exact c131⟩))
 rw [hF, ← hic]; unfold adL; rw [if_pos hr]
 rw [decide_eq_false c93] at H
 revert A; refine dgo [3, 4, 5, 6, 7, 8, 9, 10, 11, 12, 13, 14, 15] hs89 ?_; intro A H
 refine dr_end (by kernel_rfl) ?_
 revert A; refine go ?_; intro A H
 refine ret2 H rfl rfl rfl ?_
 clear H A
 refine ret_mk hx88 ⟨v66, (tup2_eq rfl (int_eq (by symm; unfold adC; rw [if_pos c24, if_neg c34, if_neg (by omega)]))), ?_⟩
 refine (fi hf83).cast ?_
 have hr : adC list b = 0 := by (simp [adC, c24, c34]; omega)
 have hic := inB_back (c := b) g0 (by omega) hk2 (.inl (by omega))
 rw [hF, ← hic]; unfold adL; rw [if_pos hr]
 intro hk255
 refine dr_share (fun fr wl S => ∃ (q256 : Value) (q257 : Value) (n260 n261 : Nat) (n262 n263 : Nat), S = (fun w' => StpL wl w' (fun i => Value.ownBlock q256 = some i)) ∧ Sl 64 fr [(20, q256), (21, v_list), (24, q257)] ∧ Ext w0 wl ∧ Own shBin 65 n260 n260 n261 wl q256 (([] : List (Str × Int × Int × Int × Int))) ∧ Own shBin 65 n262 n262 n263 wl q257 ([b]) ∧ (w43.heap.size ≤ n260) ∧ (n261 ≤ wl.heap.size) ∧ (n260 ≤ n261) ∧ (w43.heap.size ≤ n262) ∧ (n263 ≤ wl.heap.size) ∧ (n263 ≤ n260 ∨ n261 ≤ n262) ∧ w43.heap.size ≤ wl.heap.size) 3 #[true, true, false, true, true, false, false] ?_ ?_
 clear H A
 rintro A w258 _ ⟨q256, q257, n260, n261, n262, n263, rfl, H, hx259, hf264, hf265, hg267, hg268, hg269, hg270, hg271, hg272, hzl266⟩
 have hzhx259 := hx259.size
 have hs274 : Ext w258 w258 := Ext.rfl' _
 refine dr_one (i := 2) (by kernel_rfl) ?_
 refine pe H rfl (op_append (ts := #[]) (s := shBin) H rfl U30 ti65 rfl pos_shBin rfl rfl hf264 (h_list.ext pos_shBin hx259) (by omega) (by omega) (by simp; omega) (by simp; omega) (.inl flat_shBin)) ?_
 clear H A; rintro v275 w276 ⟨ho277, hst278, hob279⟩ A H
 replace ho277 := ho277.cast (List.nil_append _)
 obtain ⟨hx281, _⟩ := no hx259 hf264 hst278
 replace hf265 := hf265.stp hst278 (by intro q hq; have hq0 := hf264.lt q hq; omega)
 have hsp282 : ∀ q, Value.ownBlock v275 = some q → Value.ownBlock q257 ≠ some q := by intro q hq hb; have hq0 := hf265.lt q hb; rcases hob279 with h | h; (rw [h] at hq; first | (have hq1 := hf264.lt q hq; omega)); (rw [h] at hq; cases hq; omega)
 have hs283 := (StpL.of_ext (B := fun i => Value.ownBlock q256 = some i) hs274).trans' (Stp.toL hst278 (by intro q hq; exact hq))
 refine ⟨hs283, ?_⟩
 refine dr_narrow (S' := fun w' => StpL w276 w' (fun i => Value.ownBlock v275 = some i)) (fun w' h' => hs283.freshL h' (by intro i q; first | (rcases hob279 with h9 | h9; (exact Or.inl (h9.symm.trans q)); (rw [h9] at q; cases q; right; omega)))) _ _ _ _ ?_
 have hs284 : Ext w276 w276 := Ext.rfl' _
 exact dr_listed (by kernel_rfl) (hk255 _ _ _ ⟨v275, q257, n260, w276.heap.size, n262, n263, rfl, (sl H), hx281, ho277, hf265, (by omega), (by omega), (by omega), (by omega), (by omega), (by intro q hq hb; exact hsp282 q hq hb), (by omega)⟩)
 intro hk285
 refine dw 1 H rfl hs46 (op_move H rfl rfl) ?_
 clear H A; intro A H
 refine dv 3 H rfl hs46 (fun w' hw' => ls H U65 ti65 (hb4.ext hw').cells) ?_
 clear H A; intro A H
 refine dr_two (i := 0) (j := 4) (by kernel_rfl) ?_ ?_
 refine pe H rfl (op_b0 H pos_shBin U30 ti65) ?_
 clear H A; rintro v288 w289 ⟨ho290, he291, hob292⟩ A H
 have hs294 := hs46.trans' he291
 obtain ⟨hx295, _⟩ := nx hx45 he291
 refine ⟨hs294, ?_⟩
 replace hb4 := hb4.ext hs294
 refine dr_narrow (S' := fun w' => StpL w289 w' (fun i => Value.ownBlock v288 = some i)) (fun w' h' => hs294.freshL h' (by intro i q; first | (right; have hq0 := ho290.lt _ q; omega))) _ _ _ _ ?_
 have hs296 : Ext w289 w289 := Ext.rfl' _
 refine dr_two (i := 2) (j := 4) (by kernel_rfl) ?_ ?_
 refine pe H rfl (op_append (ts := #[]) (s := shBin) H rfl U30 ti65 rfl pos_shBin rfl rfl ho290 (h_list.ext pos_shBin hx295) (by omega) (by omega) (by simp; omega) (by simp; omega) (.inl flat_shBin)) ?_
 clear H A; rintro v297 w298 ⟨ho299, hst300, hob301⟩ A H
 replace ho299 := ho299.cast (List.nil_append _)
 obtain ⟨hx303, _⟩ := no hx295 ho290 hst300
 replace hb4 := hb4.stp hst300 (by intro q hq; have hq0 := ho290.lt q hq; omega)
 have hsp304 : ∀ q, Value.ownBlock v297 = some q → q ≠ w0.heap.size := by intro q hq; have hq0 := hb4.lt; rcases hob301 with h | h; (rw [h] at hq; first | (have hq1 := ho290.lt q hq; omega)); (rw [h] at hq; cases hq; omega)
 have hs305 := (StpL.of_ext (B := fun i => Value.ownBlock v288 = some i) hs296).trans' (Stp.toL hst300 (by intro q hq; exact hq))
 refine ⟨hs305, ?_⟩
 refine dr_narrow (S' := fun w' => StpL w298 w' (fun i => Value.ownBlock v297 = some i)) (fun w' h' => hs305.freshL h' (by intro i q; first | (rcases hob301 with h9 | h9; (exact Or.inl (h9.symm.trans q)); (rw [h9] at q; cases q; right; omega)))) _ _ _ _ ?_
 have hs306 : Ext w298 w298 := Ext.rfl' _
 refine dr_one (i := 4) (by kernel_rfl) ?_
 refine pe H rfl (op_b1 (mk_shBin b (by assumption) (by assumption) (by assumption) (by assumption) (by assumption)) H pos_shBin U30 ti65) ?_
 clear H A; rintro v307 w308 ⟨ho309, he310, hob311⟩ A H
 have hs313 := hs306.trans' he310
 obtain ⟨hx314, _⟩ := nx hx303 he310
 refine ⟨(StpL.of_ext hs313), ?_⟩
 replace hb4 := hb4.ext hs313
 replace ho299 := ho299.ext hs313
 refine dr_narrow (S' := fun w' => StpL w308 w' (fun i => Value.ownBlock v297 = some i)) (fun w' h' => ((StpL.of_ext hs313)).freshL h' (by intro i q; first | (exact Or.inl q))) _ _ _ _ ?_
 have hs315 : Ext w308 w308 := Ext.rfl' _
 exact dr_listed (by kernel_rfl) (hk255 _ _ _ ⟨v297, v307, w43.heap.size, w298.heap.size, w298.heap.size, w308.heap.size, rfl, (sl H), hx314, ho299, ho309, (by omega), (by omega), (by omega), (by omega), (by omega), (by intro q hq hb; first | (have hq0 := ho299.lt q hq; have hq1 := ho309.lt q hb; omega)), (by omega)⟩)
 refine pe H rfl (op_b1 (mk_shBin b (by assumption) (by assumption) (by assumption) (by assumption) (by assumption)) H pos_shBin U30 ti65) ?_
 clear H A; rintro v316 w317 ⟨ho318, he319, hob320⟩ A H
 have hs322 := hs296.trans' he319
 obtain ⟨hx323, _⟩ := nx hx295 he319
 refine ⟨(StpL.of_ext hs322), ?_⟩
 replace hb4 := hb4.ext hs322
 replace ho290 := ho290.ext hs322
 refine dr_narrow (S' := fun w' => StpL w317 w' (fun i => Value.ownBlock v288 = some i)) (fun w' h' => ((StpL.of_ext hs322)).freshL h' (by intro i q; first | (exact Or.inl q))) _ _ _ _ ?_
 have hs324 : Ext w317 w317 := Ext.rfl' _
 exact dr_listed (by kernel_rfl) (hk285 _ _ _ ⟨v288, v316, w43.heap.size, w289.heap.size, w289.heap.size, w317.heap.size, rfl, (sl H), hx323, ho290, ho318, (by omega), (by omega), (by omega), (by omega), (by omega), (by omega), (by omega)⟩)
 refine pe H rfl (op_b1 (mk_shBin b (by assumption) (by assumption) (by assumption) (by assumption) (by assumption)) H pos_shBin U30 ti65) ?_
 clear H A; rintro v325 w326 ⟨ho327, he328, hob329⟩ A H
 have hs331 := hs46.trans' he328
 obtain ⟨hx332, _⟩ := nx hx45 he328
 refine ⟨hs331, ?_⟩
 replace hb4 := hb4.ext hs331
 refine drn hs331 ?_
 intro hs333
 refine dr_one (i := 0) (by kernel_rfl) ?_
 refine pe H rfl (op_b0 H pos_shBin U30 ti65) ?_
 clear H A; rintro v334 w335 ⟨ho336, he337, hob338⟩ A H
 have hs340 := hs333.trans' he337
 obtain ⟨hx341, _⟩ := nx hx332 he337
 refine ⟨hs340, ?_⟩
 replace hb4 := hb4.ext hs340
 replace ho327 := ho327.ext hs340
 refine dr_narrow (S' := fun w' => StpL w335 w' (fun i => Value.ownBlock v334 = some i)) (fun w' h' => hs340.freshL h' (by intro i q; first | (right; have hq0 := ho336.lt _ q; omega))) _ _ _ _ ?_
 have hs342 : Ext w335 w335 := Ext.rfl' _
 exact dr_listed (by kernel_rfl) (hk285 _ _ _ ⟨v334, v325, w326.heap.size, w335.heap.size, w43.heap.size, w326.heap.size, rfl, (sl H), hx341, ho336, ho327, (by omega), (by omega), (by omega), (by omega), (by omega), (by omega), (by omega)⟩)
 rw [c24] at H
 clear hb4 ho13
 revert A; refine go ?_; intro A H
 refine ret2 H rfl rfl rfl ?_
 clear H A
 refine ret_mk hx22 ⟨.slice none 0 0, (tup2_eq rfl (int_eq (by symm; unfold adC; rw [if_neg (by rw [c24]; decide)]))), ?_⟩
 refine Own.nil_ _ _ _ _ _ _ ?_
 have hr : ¬ adC list b = 0 := by (simp [adC, c24]; done)
 unfold adL; rw [if_neg hr]



theorem c_spec_l34Bin (w0 : World) (v_list : Value) (list : List (Str × Int × Int × Int × Int)) {S_list : Nat → Prop} (b : Str × Int × Int × Int × Int) (h_list : Rds shBin S_list w0 v_list list) (g0 : stB list = true) (g1 : b.1.length ≤ 9223372036854775807) (g2 : I64 b.2.1) (g3 : I64 b.2.2.1) (g4 : I64 b.2.2.2.1) (g5 : I64 b.2.2.2.2) :
    Calls Tryz.prog 127 #[v_list, .agg #[St b.1, .int .i64 b.2.1, .int .i64 b.2.2.1, .int .i64 b.2.2.2.1, .int .i64 b.2.2.2.2]] w0 (Ret w0 (fun v w1 => ∃ r0, v = .tuple #[r0, .int .i64 (adC list b)] ∧ Own shBin 65 w0.heap.size w0.heap.size w1.heap.size w1 r0 (adL list b))) := by
 refine enter (N := 50) Tryz.func127 rfl rfl rfl ?_
 intro A H
 have hx0 := Ext.rfl' w0
 have hl_list := h_list.length_le
 have hlen := stB_len g0
 have hfb := fnB_bd list b.1
 have hla : (list ++ [b]).length = list.length + 1 := by simp
 revert A; refine go ?_; intro A H
 refine we H (op_box' H rfl rfl rfl) ?_
 clear H A; rintro _ w2 ⟨rfl, he3, hb4, hz5⟩ A H
 obtain ⟨hx7, _⟩ := nx hx0 he3
 revert A; refine go ?_; intro A H
 refine wv H (ls H U65 ti65 hb4.cells) ?_
 clear H A; intro A H
 refine we H (op_b1 (mk_shBin b (by assumption) (by assumption) (by assumption) (by assumption) (by assumption)) H pos_shBin U30 ti65) ?_
 clear H A; rintro v11 w12 ⟨ho13, he14, hob15⟩ A H
 obtain ⟨hx17, _⟩ := nx hx7 he14
 replace hb4 := hb4.ext he14
 refine wc H cb56 (c_spec_IsStock _ v11 ([b]) (ho13.rds pos_shBin)) ?_
 clear H A; rintro v18 w19 he20 rfl A H
 obtain ⟨hx22, _⟩ := nx hx17 he20
 replace hb4 := hb4.ext he20
 replace ho13 := ho13.ext he20
 revert A; refine go ?_; intro A H
 rcases Bool.eq_false_or_eq_true (stB ([b])) with c25 | c25
 rw [c25] at H
 clear ho13
 revert A; refine go ?_; intro A H
 refine fl 0 H U65 ti9 U9 hb4.cells ?_
 clear H A; intro A H
 refine wc H cb145 (c_spec_l24Find _ v_list list b.1 (h_list.ext pos_shBin hx22)) ?_
 clear H A; rintro v29 w30 he31 rfl A H
 obtain ⟨hx33, _⟩ := nx hx22 he31
 replace hb4 := hb4.ext he31
 revert A; refine go ?_; intro A H
 by_cases c36 : (0 : Int) ≤ (fnB list b.1 : Int)
 rw [decide_eq_true c36] at H
 clear hb4
 revert A; refine go ?_; intro A H
 refine ret2 H rfl rfl rfl ?_
 clear H A
 refine ret_mk hx33 ⟨.slice none 0 0, (tup2_eq rfl (int_eq (by symm; unfold adC; rw [if_pos c25, if_pos c36]))), ?_⟩
 refine Own.nil_ _ _ _ _ _ _ ?_
 have hr : ¬ adC list b = 0 := by (simp [adC, c25, c36]; done)
 unfold adL; rw [if_neg hr]
 rw [decide_eq_false c36] at H
 revert A; refine go ?_; intro A H
 refine wv H (ln H U30 h_list) ?_
 clear H A; refine go ?_; intro A H
 by_cases c43 : ((list.length : Nat) : Int) = (20 : Int)
 rw [decide_eq_true c43] at H
 clear hb4
 revert A; refine go ?_; intro A H
 refine ret2 H rfl rfl rfl ?_
 clear H A
 refine ret_mk hx33 ⟨.slice none 0 0, (tup2_eq rfl (int_eq (by symm; unfold adC; rw [if_pos c25, if_neg c36, if_pos (by omega)]))), ?_⟩
 refine Own.nil_ _ _ _ _ _ _ ?_
 have hr : ¬ adC list b = 0 := by (simp [adC, c25, c36]; omega)
 unfold adL; rw [if_neg hr]
 rw [decide_eq_false c43] at H
 refine cond_f H rfl ?_
 refine wp_skip ?_
 refine block_n ?_
 refine then_n ?_
 refine wp_seq ?_
 refine wp_region_lit ?_
 refine wv H (op_assign H rfl rfl) ?_
 clear H A; intro A H
 refine wpList_nil ?_
 refine then_n ?_
 refine seq_mid (fun fr wl => ∃ (k : Nat), Sl 50 fr [(0, v_list), (3, .pointer (some (⟨w0.heap.size, 0, none⟩ : Addr))), (6, .int .i64 ((k : Nat) : Int))] ∧ Ext w0 wl ∧ Box wl w0.heap.size 65 [St b.1, .int .i64 b.2.1, .int .i64 b.2.2.1, .int .i64 b.2.2.2.1, .int .i64 b.2.2.2.2] ∧ w30.heap.size ≤ wl.heap.size ∧ (k ≤ list.length) ∧ (∀ (j : Nat) (y : Bin), j < k → list[j]? = some y → y.1 < b.1) ∧ (list.length ≤ k ∨ ∃ y, list[k]? = some y ∧ ¬ y.1 < b.1)) ?_ ?_
 refine wp_block ?_
 refine loop_inv (X := Nat) (fun k fr wl => Sl 50 fr [(0, v_list), (3, .pointer (some (⟨w0.heap.size, 0, none⟩ : Addr))), (6, .int .i64 ((k : Nat) : Int))] ∧ Ext w0 wl ∧ Box wl w0.heap.size 65 [St b.1, .int .i64 b.2.1, .int .i64 b.2.2.1, .int .i64 b.2.2.2.1, .int .i64 b.2.2.2.2] ∧ w30.heap.size ≤ wl.heap.size ∧ (k ≤ list.length) ∧ (∀ (j : Nat) (y : Bin), j < k → list[j]? = some y → y.1 < b.1)) (fun k => list.length - k) (0) ?_ ?_
 exact ⟨(sl H), hx33, hb4, (by omega), (by omega), (by exact all_zero)⟩
 clear H A
 rintro k A w50 ⟨H, hx51, hf52, hzl54, hk, hk2⟩
 have hzhx51 := hx51.size
 revert A; refine go ?_; intro A H
 refine dre Ext follows_mixed ?_
 intro w55 he56 hs58
 obtain ⟨hx57, _⟩ := nx hx51 he56
 replace hf52 := hf52.ext he56
 revert A; refine dgo [0, 1] hs58 ?_; intro A H
 refine dw 2 H rfl hs58 (ln H U30 h_list) ?_
 clear H A; refine dgo [3, 4] hs58 ?_; intro A H
 by_cases c64 : ((k : Nat) : Int) < ((list.length : Nat) : Int)
 rw [decide_eq_true c64] at H
 revert A; refine dgo [5, 6] hs58 ?_; intro A H
 obtain ⟨x67, hx67⟩ := get_ex (xs := list) (j := k) (by omega)
 obtain ⟨p68, hi70, hc71, b74, b75, b76, b77, b78, hs73⟩ := at_shBin h_list hx67
 refine dw 7 H rfl hs58 (op_indexAddr H rfl U30 ti65 rfl rfl (by omega) hi70) ?_
 clear H A; intro A H
 refine dw 8 H rfl hs58 (fa H U65 ti9) ?_
 clear H A; intro A H
 refine dv 9 H rfl hs58 (fun w' hw' => lf 0 H U9 (hc71.ext (hx57.trans' hw'))) ?_
 clear H A; intro A H
 refine dw 10 H rfl hs58 (fa H U65 ti9) ?_
 clear H A; intro A H
 refine dv 11 H rfl hs58 (fun w' hw' => lf 0 H U9 (hf52.ext hw').cells) ?_
 clear H A; intro A H
 refine dv 12 H rfl hs58 (fun w' hw' => (op_slss H rfl rfl rfl).to (congrArg Value.bool (bytesLess_lt _ _))) ?_
 clear H A; intro A H
 refine dw 13 H rfl hs58 (op_pick_t H rfl rfl rfl) ?_
 clear H A; intro A H
 refine dr_end (by kernel_rfl) ?_
 refine then_n ?_
 by_cases c86 : x67.1 < b.1
 rw [decide_eq_true c86] at H
 revert A; refine go ?_; intro A H
 refine wv H ((op_add H rfl rfl rfl).int (IntWalk.i64_in _ (by omega))) ?_
 clear H A; refine go ?_; intro A H
 refine ⟨((k + 1)), ?_, ?_⟩
 refine ⟨(sl H), hx57, hf52, (by omega), (by omega), (by exact all_snoc (p := fun y => y.1 < b.1) hk2 hx67 (by assumption))⟩
 show (list.length - ((k + 1)) : Nat) < list.length - k; omega
 rw [decide_eq_false c86] at H
 revert A; refine go ?_; intro A H
 refine ⟨k, (sl H), hx57, hf52, (by omega), (by omega), (by exact hk2), (by exact .inr ⟨_, hx67, by assumption⟩)⟩
 rw [decide_eq_false c64] at H
 revert A; refine dgo [5, 6, 7, 8, 9, 10, 11, 12, 13] hs58 ?_; intro A H
 refine dr_end (by kernel_rfl) ?_
 revert A; refine go ?_; intro A H
 refine ⟨k, (sl H), hx57, hf52, (by omega), (by omega), (by exact hk2), (by exact .inl (by omega))⟩
 clear H A
 rintro A w47 ⟨k, H, hx48, hf49, hzl100, hk, hk2, h0⟩
 have hzhx48 := hx48.size
 refine wp_seq ?_
 refine dre Ext follows_mixed ?_
 intro w101 he102 hs104
 obtain ⟨hx103, _⟩ := nx hx48 he102
 replace hf49 := hf49.ext he102
 refine dr_share (fun fr wl S => ∃ (q105 : Value) (q106 : Value) (q107 : Value) (n110 n111 : Nat) (n112 n113 : Nat), S = (fun w' => StpL wl w' (fun i => Value.ownBlock q105 = some i)) ∧ Sl 50 fr [(42, q105), (44, q106), (48, q107)] ∧ Ext w0 wl ∧ Own shBin 65 n110 n110 n111 wl q105 (list.take k) ∧ Own shBin 65 n112 n112 n113 wl q106 ([b]) ∧ Rds shBin S_list w0 q107 (list.drop k) ∧ (w101.heap.size ≤ n110) ∧ (n111 ≤ wl.heap.size) ∧ (n110 ≤ n111) ∧ (w101.heap.size ≤ n112) ∧ (n113 ≤ wl.heap.size) ∧ (∀ q, Value.ownBlock q105 = some q → Value.ownBlock q106 ≠ some q) ∧ w101.heap.size ≤ wl.heap.size) 4 #[true, true, true, true, true, true, true, false, true, true, true, false, false, false] ?_ ?_
 clear H A
 rintro A w108 _ ⟨q105, q106, q107, n110, n111, n112, n113, rfl, H, hx109, hf114, hf115, hf116, hg119, hg120, hg121, hg122, hg123, hsp117, hzl118⟩
 have hzhx109 := hx109.size
 have hs125 : Ext w108 w108 := Ext.rfl' _
 refine dr_one (i := 7) (by kernel_rfl) ?_
 refine pe H rfl (op_append (ts := #[]) (s := shBin) H rfl U30 ti65 rfl pos_shBin rfl rfl hf114 (hf115.rds pos_shBin) (by omega) (by omega) (by simp; omega) (by simp; omega) (.inl flat_shBin)) ?_
 clear H A; rintro v126 w127 ⟨ho128, hst129, hob130⟩ A H
 obtain ⟨hx132, _⟩ := no hx109 hf114 hst129
 replace hf115 := hf115.stpF flat_shBin hst129 (fun q hq => hsp117 q hq)
 have hsp133 : ∀ q, Value.ownBlock v126 = some q → Value.ownBlock q106 ≠ some q := by intro q hq hb; have hq0 := hf115.lt q hb; rcases hob130 with h | h; (rw [h] at hq; exact hsp117 q hq hb); (rw [h] at hq; cases hq; omega)
 have hs134 := (StpL.of_ext (B := fun i => Value.ownBlock q105 = some i) hs125).trans' (Stp.toL hst129 (by intro q hq; exact hq))
 refine ⟨hs134, ?_⟩
 refine dr_narrow (S' := fun w' => StpL w127 w' (fun i => Value.ownBlock v126 = some i)) (fun w' h' => hs134.freshL h' (by intro i q; first | (rcases hob130 with h9 | h9; (exact Or.inl (h9.symm.trans q)); (rw [h9] at q; cases q; right; omega)))) _ _ _ _ ?_
 have hs135 : Ext w127 w127 := Ext.rfl' _
 refine dr_one (i := 11) (by kernel_rfl) ?_
 refine pe H rfl (op_append (ts := #[]) (s := shBin) H rfl U30 ti65 rfl pos_shBin rfl rfl ho128 (hf116.ext pos_shBin hx132) (by omega) (by omega) (by simp; omega) (by simp; omega) (.inl flat_shBin)) ?_
 clear H A; rintro v136 w137 ⟨ho138, hst139, hob140⟩ A H
 obtain ⟨hx142, _⟩ := no hx132 ho128 hst139
 replace hf115 := hf115.stpF flat_shBin hst139 (fun q hq => hsp133 q hq)
 have hsp143 : ∀ q, Value.ownBlock v136 = some q → Value.ownBlock q106 ≠ some q := by intro q hq hb; have hq0 := hf115.lt q hb; rcases hob140 with h | h; (rw [h] at hq; exact hsp133 q hq hb); (rw [h] at hq; cases hq; omega)
 have hs144 := (StpL.of_ext (B := fun i => Value.ownBlock v126 = some i) hs135).trans' (Stp.toL hst139 (by intro q hq; exact hq))
 refine ⟨hs144, ?_⟩
 refine dr_narrow (S' := fun w' => Ext w137 w') (fun w' h' => StpL.trans' hs144 (StpL.of_ext h')) _ _ _ _ ?_
 have hs145 : Ext w137 w137 := Ext.rfl' _
 revert A; refine dgo [12, 13] hs145 ?_; intro A H
 refine dr_end (by kernel_rfl) ?_
 revert A; refine go ?_; intro A H
 refine ret2 H rfl rfl rfl ?_
 clear H A
 refine ret_mk hx142 ⟨v136, (tup2_eq rfl (int_eq (by symm; unfold adC; rw [if_pos c25, if_neg c36, if_neg (by omega)]))), ?_⟩
 refine (fi ho138).cast ?_
 have hr : adC list b = 0 := by (simp [adC, c25, c36]; omega)
 have hic := inB_cut (c := b) hk2 h0
 unfold adL; rw [if_pos hr, hic]; simp
 intro hk148
 refine dr_share (fun fr wl S => ∃ (q149 : Value) (q150 : Value) (q151 : Value) (q152 : Value) (n155 n156 : Nat) (n157 n158 : Nat), S = (fun w' => StpL wl w' (fun i => Value.ownBlock q149 = some i)) ∧ Sl 50 fr [(38, q149), (41, q150), (44, q151), (48, q152)] ∧ Ext w0 wl ∧ Own shBin 65 n155 n155 n156 wl q149 (([] : List (Str × Int × Int × Int × Int))) ∧ Rds shBin S_list w0 q150 (list.take k) ∧ Own shBin 65 n157 n157 n158 wl q151 ([b]) ∧ Rds shBin S_list w0 q152 (list.drop k) ∧ (w101.heap.size ≤ n155) ∧ (n156 ≤ wl.heap.size) ∧ (n155 ≤ n156) ∧ (w101.heap.size ≤ n157) ∧ (n158 ≤ wl.heap.size) ∧ (n158 ≤ n155 ∨ n156 ≤ n157) ∧ w101.heap.size ≤ wl.heap.size) 5 #[true, true, true, true, false, true, true, false, true, true, true, false, false, false] ?_ ?_
 clear H A
 rintro A w153 _ ⟨q149, q150, q151, q152, n155, n156, n157, n158, rfl, H, hx154, hf159, hf160, hf161, hf162, hg164, hg165, hg166, hg167, hg168, hg169, hzl163⟩
 have hzhx154 := hx154.size
 have hs171 : Ext w153 w153 := Ext.rfl' _
 refine dr_one (i := 4) (by kernel_rfl) ?_
 refine pe H rfl (op_append (ts := #[]) (s := shBin) H rfl U30 ti65 rfl pos_shBin rfl rfl hf159 (hf160.ext pos_shBin hx154) (by omega) (by omega) (by simp; omega) (by simp; omega) (.inl flat_shBin)) ?_
 clear H A; rintro v172 w173 ⟨ho174, hst175, hob176⟩ A H
 replace ho174 := ho174.cast (List.nil_append _)
 obtain ⟨hx178, _⟩ := no hx154 hf159 hst175
 replace hf161 := hf161.stp hst175 (by intro q hq; have hq0 := hf159.lt q hq; omega)
 have hsp179 : ∀ q, Value.ownBlock v172 = some q → Value.ownBlock q151 ≠ some q := by intro q hq hb; have hq0 := hf161.lt q hb; rcases hob176 with h | h; (rw [h] at hq; first | (have hq1 := hf159.lt q hq; omega)); (rw [h] at hq; cases hq; omega)
 have hs180 := (StpL.of_ext (B := fun i => Value.ownBlock q149 = some i) hs171).trans' (Stp.toL hst175 (by intro q hq; exact hq))
 refine ⟨hs180, ?_⟩
 refine dr_narrow (S' := fun w' => StpL w173 w' (fun i => Value.ownBlock v172 = some i)) (fun w' h' => hs180.freshL h' (by intro i q; first | (rcases hob176 with h9 | h9; (exact Or.inl (h9.symm.trans q)); (rw [h9] at q; cases q; right; omega)))) _ _ _ _ ?_
 have hs181 : Ext w173 w173 := Ext.rfl' _
 exact dr_listed (by kernel_rfl) (hk148 _ _ _ ⟨v172, q151, q152, n155, w173.heap.size, n157, n158, rfl, (sl H), hx178, ho174, hf161, hf162, (by omega), (by omega), (by omega), (by omega), (by omega), (by intro q hq hb; exact hsp179 q hq hb), (by omega)⟩)
 intro hk182
 revert A; refine dgo [1, 2] hs104 ?_; intro A H
 obtain ⟨u185, hu186, hr187⟩ := Rds.part h_list U30 ti65 none (some (.int .i64 (k : Nat))) 0 k (.inl ⟨rfl, rfl⟩) (.inr ⟨.i64, rfl⟩) (by omega) (by omega)
 replace hr187 := hr187.cast (ys := list.take k) (by simp)
 refine dw 3 H rfl hs104 (op_slice_t (by omega) H rfl rfl rfl hu186) ?_
 clear H A; intro A H
 refine dv 5 H rfl hs104 (fun w' hw' => ls H U65 ti65 (hf49.ext hw').cells) ?_
 clear H A; refine dgo [8, 9] hs104 ?_; intro A H
 obtain ⟨u192, hu193, hr194⟩ := Rds.part h_list U30 ti65 (some (.int .i64 (k : Nat))) none k list.length (.inr ⟨.i64, rfl⟩) (.inl ⟨rfl, rfl⟩) (by omega) (by omega)
 replace hr194 := hr194.cast (ys := list.drop k) (by rw [List.take_length])
 refine dw 10 H rfl hs104 (op_slice_f (by omega) H rfl rfl rfl hu193) ?_
 clear H A; intro A H
 refine dr_two (i := 0) (j := 6) (by kernel_rfl) ?_ ?_
 refine pe H rfl (op_b0 H pos_shBin U30 ti65) ?_
 clear H A; rintro v196 w197 ⟨ho198, he199, hob200⟩ A H
 have hs202 := hs104.trans' he199
 obtain ⟨hx203, _⟩ := nx hx103 he199
 refine ⟨hs202, ?_⟩
 replace hf49 := hf49.ext hs202
 refine dr_narrow (S' := fun w' => StpL w197 w' (fun i => Value.ownBlock v196 = some i)) (fun w' h' => hs202.freshL h' (by intro i q; first | (right; have hq0 := ho198.lt _ q; omega))) _ _ _ _ ?_
 have hs204 : Ext w197 w197 := Ext.rfl' _
 refine dr_two (i := 4) (j := 6) (by kernel_rfl) ?_ ?_
 refine pe H rfl (op_append (ts := #[]) (s := shBin) H rfl U30 ti65 rfl pos_shBin rfl rfl ho198 (hr187.ext pos_shBin hx203) (by omega) (by omega) (by simp; omega) (by simp; omega) (.inl flat_shBin)) ?_
 clear H A; rintro v205 w206 ⟨ho207, hst208, hob209⟩ A H
 replace ho207 := ho207.cast (List.nil_append _)
 obtain ⟨hx211, _⟩ := no hx203 ho198 hst208
 replace hf49 := hf49.stp hst208 (by intro q hq; have hq0 := ho198.lt q hq; omega)
 have hsp212 : ∀ q, Value.ownBlock v205 = some q → q ≠ w0.heap.size := by intro q hq; have hq0 := hf49.lt; rcases hob209 with h | h; (rw [h] at hq; first | (have hq1 := ho198.lt q hq; omega)); (rw [h] at hq; cases hq; omega)
 have hs213 := (StpL.of_ext (B := fun i => Value.ownBlock v196 = some i) hs204).trans' (Stp.toL hst208 (by intro q hq; exact hq))
 refine ⟨hs213, ?_⟩
 refine dr_narrow (S' := fun w' => StpL w206 w' (fun i => Value.ownBlock v205 = some i)) (fun w' h' => hs213.freshL h' (by intro i q; first | (rcases hob209 with h9 | h9; (exact Or.inl (h9.symm.trans q)); (rw [h9] at q; cases q; right; omega)))) _ _ _ _ ?_
 have hs214 : Ext w206 w206 := Ext.rfl' _
 refine dr_one (i := 6) (by kernel_rfl) ?_
 refine pe H rfl (op_b1 (mk_shBin b (by assumption) (by assumption) (by assumption) (by assumption) (by assumption)) H pos_shBin U30 ti65) ?_
 clear H A; rintro v215 w216 ⟨ho217, he218, hob219⟩ A H
 have hs221 := hs214.trans' he218
 obtain ⟨hx222, _⟩ := nx hx211 he218
 refine ⟨(StpL.of_ext hs221), ?_⟩
 replace hf49 := hf49.ext hs221
 replace ho207 := ho207.ext hs221
 refine dr_narrow (S' := fun w' => StpL w216 w' (fun i => Value.ownBlock v205 = some i)) (fun w' h' => ((StpL.of_ext hs221)).freshL h' (by intro i q; first | (exact Or.inl q))) _ _ _ _ ?_
 have hs223 : Ext w216 w216 := Ext.rfl' _
 exact dr_listed (by kernel_rfl) (hk148 _ _ _ ⟨v205, v215, u192, w101.heap.size, w206.heap.size, w206.heap.size, w216.heap.size, rfl, (sl H), hx222, ho207, ho217, hr194, (by omega), (by omega), (by omega), (by omega), (by omega), (by intro q hq hb; first | (have hq0 := ho207.lt q hq; have hq1 := ho217.lt q hb; omega)), (by omega)⟩)
 refine pe H rfl (op_b1 (mk_shBin b (by assumption) (by assumption) (by assumption) (by assumption) (by assumption)) H pos_shBin U30 ti65) ?_
 clear H A; rintro v224 w225 ⟨ho226, he227, hob228⟩ A H
 have hs230 := hs204.trans' he227
 obtain ⟨hx231, _⟩ := nx hx203 he227
 refine ⟨(StpL.of_ext hs230), ?_⟩
 replace hf49 := hf49.ext hs230
 replace ho198 := ho198.ext hs230
 refine dr_narrow (S' := fun w' => StpL w225 w' (fun i => Value.ownBlock v196 = some i)) (fun w' h' => ((StpL.of_ext hs230)).freshL h' (by intro i q; first | (exact Or.inl q))) _ _ _ _ ?_
 have hs232 : Ext w225 w225 := Ext.rfl' _
 exact dr_listed (by kernel_rfl) (hk182 _ _ _ ⟨v196, u185, v224, u192, w101.heap.size, w197.heap.size, w197.heap.size, w225.heap.size, rfl, (sl H), hx231, ho198, hr187, ho226, hr194, (by omega), (by omega), (by omega), (by omega), (by omega), (by omega), (by omega)⟩)
 refine pe H rfl (op_b1 (mk_shBin b (by assumption) (by assumption) (by assumption) (by assumption) (by assumption)) H pos_shBin U30 ti65) ?_
 clear H A; rintro v233 w234 ⟨ho235, he236, hob237⟩ A H
 have hs239 := hs104.trans' he236
 obtain ⟨hx240, _⟩ := nx hx103 he236
 refine ⟨hs239, ?_⟩
 replace hf49 := hf49.ext hs239
 refine drn hs239 ?_
 intro hs241
 refine dr_one (i := 0) (by kernel_rfl) ?_
 refine pe H rfl (op_b0 H pos_shBin U30 ti65) ?_
 clear H A; rintro v242 w243 ⟨ho244, he245, hob246⟩ A H
 have hs248 := hs241.trans' he245
 obtain ⟨hx249, _⟩ := nx hx240 he245
 refine ⟨hs248, ?_⟩
 replace hf49 := hf49.ext hs248
 replace ho235 := ho235.ext hs248
 refine dr_narrow (S' := fun w' => StpL w243 w' (fun i => Value.ownBlock v242 = some i)) (fun w' h' => hs248.freshL h' (by intro i q; first | (right; have hq0 := ho244.lt _ q; omega))) _ _ _ _ ?_
 have hs250 : Ext w243 w243 := Ext.rfl' _
 exact dr_listed (by kernel_rfl) (hk182 _ _ _ ⟨v242, u185, v233, u192, w234.heap.size, w243.heap.size, w101.heap.size, w234.heap.size, rfl, (sl H), hx249, ho244, hr187, ho235, hr194, (by omega), (by omega), (by omega), (by omega), (by omega), (by omega), (by omega)⟩)
 rw [c25] at H
 clear hb4 ho13
 revert A; refine go ?_; intro A H
 refine ret2 H rfl rfl rfl ?_
 clear H A
 refine ret_mk hx22 ⟨.slice none 0 0, (tup2_eq rfl (int_eq (by symm; unfold adC; rw [if_neg (by rw [c25]; decide)]))), ?_⟩
 refine Own.nil_ _ _ _ _ _ _ ?_
 have hr : ¬ adC list b = 0 := by (simp [adC, c25]; done)
 unfold adL; rw [if_neg hr]




end Go.Proofs.YthbehhhblchhhaaGreat
