/- The law FnGroups, walked. -/
import Derived.Test.YtjpldgicibnkcaaR3
import Derived.Test.YtjpldgicibnkcaaR4
import Derived.Test.YtjpldgicibnkcaaP0
import Derived.Test.YtjpldgicibnkcaaW11
import Derived.Test.YtjpldgicibnkcaaW13
namespace Go.Proofs.Ytjpldgicibnkcaa
open Go Go.RowKit

theorem heldG_val {α : Type} {ok : α → Int → Bool} {st : Int} : ∀ {xs : List α} {k : Int}, 0 ≤ st → 0 ≤ k → heldG ok st xs k < 0 ∨ heldG ok st xs k = k + st * (xs.length : Nat)
  | [], k, _, _ => .inr (by simp [heldG])
  | x :: xs, k, h, h' => by
    rw [heldG]; split
    · rcases heldG_val (ok := ok) (xs := xs) (k := k + st) h (by omega) with q | q
      · exact .inl q
      · right; rw [q, List.length_cons, Int.natCast_add, Int.mul_add]; simp; omega
    · exact .inl (by omega)
theorem setN_take {X : Type} {zs : List (X × Value)} {a : List X} {i : Nat} {x : X} {u : Value} (h : (zs.take i).map (·.1) = a.take i) (hl : zs.length = a.length) (hx : a[i]? = some x) : ((zs.set i (x, u)).take (i + 1)).map (·.1) = a.take (i + 1) := by
  have hi : i < a.length := (List.getElem?_eq_some_iff.1 hx).1
  have : (zs.set i (x, u))[i]? = some (x, u) := by rw [List.getElem?_set_self (by omega)]
  rw [take_snoc this, List.take_set_of_le (Nat.le_refl _), List.map_append, h, take_snoc hx]
  rfl
theorem map_take_all {X : Type} {zs : List (X × Value)} {a : List X} {i : Nat} (h : (zs.take i).map (·.1) = a.take i) (hl : zs.length = a.length) (hi : a.length ≤ i) : zs.map (·.1) = a := by
  rw [List.take_of_length_le (by omega), List.take_of_length_le (by omega)] at h; exact h
theorem abs_get {X : Type} {zs : List (X × Value)} {T : List X} {i : Nat} {z : X × Value} (h : zs.map (·.1) = T) (hz : zs[i]? = some z) : T[i]? = some z.1 := by rw [← h, List.getElem?_map, hz]; rfl
theorem abs_len {X : Type} {zs : List (X × Value)} {T : List X} (h : zs.map (·.1) = T) : zs.length = T.length := by rw [← h, List.length_map]
theorem map_set_abs {X : Type} {zs : List (X × Value)} {i : Nat} {q : X × Value} : (zs.set i q).map (·.1) = (zs.map (·.1)).set i q.1 := by rw [List.map_set]
theorem mark_step {X : Type} {zs a : List (X × Value)} {i : Nat} {q : X × Value} {M L : List X} {m : X} (hd : (zs.drop i).map (·.1) = (a.map (·.1)).drop i) (hi : i < zs.length) (hF : (zs.take i).map (·.1) ++ m :: M = L) (hq : q.1 = m) :
    ((zs.set i q).drop (i + 1)).map (·.1) = (a.map (·.1)).drop (i + 1) ∧ ((zs.set i q).take (i + 1)).map (·.1) ++ M = L := by
  constructor
  · rw [List.drop_set_of_lt (by omega), ← List.drop_drop (i := 1) (j := i), ← List.drop_drop (i := 1) (j := i), List.map_drop, hd]
  · have : (zs.set i q)[i]? = some q := by rw [List.getElem?_set_self hi]
    rw [take_snoc this, List.take_set_of_le (Nat.le_refl _), List.map_append, ← hF, ← hq, List.append_assoc]; rfl
theorem mark_at {X : Type} {zs a : List (X × Value)} {i : Nat} {z : X × Value} (hd : (zs.drop i).map (·.1) = (a.map (·.1)).drop i) (hz : zs[i]? = some z) : (a.map (·.1))[i]? = some z.1 := by
  have h1 : ((zs.drop i).map (·.1))[0]? = some z.1 := by rw [List.getElem?_map, List.getElem?_drop, Nat.add_zero, hz]; rfl
  rw [hd, List.getElem?_drop, Nat.add_zero] at h1; exact h1

theorem insG_sum {k n : Int} : ∀ {xs : List (List Int)}, (∀ z ∈ xs, z.length = 2) → sumI (rowC 1) (insG k n xs) = sumI (rowC 1) xs + n
  | [], _ => by simp [insG, sumI, rowC]
  | y :: ys, h => by
    have ih := insG_sum (k := k) (n := n) (xs := ys) fun z hz => h z (by simp [hz])
    rw [insG]; split
    · simp only [sumI]; rw [ih]; omega
    · split
      · have e1 : rowC 1 (y.set 1 (rowC 1 y + n)) = rowC 1 y + n := rowC_eq (by show (y.set 1 _)[1]? = _; rw [List.getElem?_set_self (by have := h y (by simp); omega)])
        simp only [sumI]; rw [e1]; omega
      · have e1 : rowC 1 [k, n] = n := rfl
        simp only [sumI]; rw [e1]; omega
theorem grGo_sum (c a : Int) : ∀ rs acc : List (List Int), (∀ z ∈ acc, z.length = 2) → sumI (rowC 1) (grGo c a rs acc) = sumI (rowC 1) acc + sumI (rowC a) rs
  | [], acc, _ => by simp [grGo, sumI]
  | r :: rs, acc, h => by
    have h2 : ∀ z ∈ insG (rowC c r) (rowC a r) acc, z.length = 2 := grGo_two c a [r] acc h
    rw [grGo, grGo_sum c a rs _ h2, insG_sum h]; simp only [sumI]; omega
theorem grGo_up (c a : Int) : ∀ rs acc : List (List Int), UpG acc → UpG (grGo c a rs acc)
  | [], acc, h => h
  | r :: rs, acc, h => grGo_up c a rs _ (insG_up h)
theorem grGo_bd (c a : Int) : ∀ (rs acc : List (List Int)) (m : Nat), (∀ r ∈ rs, (-1000000000000 ≤ rowC c r ∧ rowC c r ≤ 1000000000000) ∧ (-1000000000000 ≤ rowC a r ∧ rowC a r ≤ 1000000000000)) → GrI m acc → GrI (m + rs.length) (grGo c a rs acc)
  | [], acc, m, _, h => h
  | r :: rs, acc, m, hr, h => by
    have h1 := hr r (by simp)
    have h2 := grGo_bd c a rs _ (m + 1) (fun q hq => hr q (by simp [hq])) (grI_ins h1.1 h1.2 h)
    rw [List.length_cons, show m + (rs.length + 1) = m + 1 + rs.length by omega]; exact h2
theorem rowC_bd {t : Tab} (h : tabB t = true) (c : Int) : ∀ r ∈ t.2, -1000000000000 ≤ rowC c r ∧ rowC c r ≤ 1000000000000 := by
  intro r hr
  unfold rowC
  cases e : r[c.toNat]? with
  | none => simp
  | some n => exact (tab_rows h r hr).2 n (List.mem_of_getElem? e)
theorem cdG_ok {t : Tab} {c a : Int} (h : cdG t c a = 0) : tabB t = true ∧ cdT t c = 0 ∧ cdT t a = 0 := by
  unfold cdG at h; split at h
  · exact ⟨(cdT_ok ‹_›).1, ‹_›, h⟩
  · exact absurd h ‹_›
/-- What is known of groups. -/
theorem gr_all {t : Tab} {c a : Int} (h : cdG t c a = 0) : UpG (grT t c a) ∧ GrI 20 (grT t c a) ∧ sumI (rowC 1) (grT t c a) = sumI (rowC a) t.2 ∧ (grT t c a).length ≤ 20 ∧ cdT t a = 0 := by
  obtain ⟨h1, h2, h3⟩ := cdG_ok h
  have hb := tab_bd h1
  rw [grT_ok h]
  refine ⟨grGo_up c a _ _ List.Pairwise.nil, ?_, ?_, ?_, h3⟩
  · have := grGo_bd c a t.2 [] 0 (fun r hr => ⟨rowC_bd h1 c r hr, rowC_bd h1 a r hr⟩) (fun z hz => by cases hz)
    intro z hz; have := this z hz; omega
  · rw [grGo_sum c a _ _ (fun z hz => by cases hz)]; simp [sumI]
  · have := grGo_len c a t.2 []; simp only [List.length_nil] at this; omega
theorem jn_all {a b : Tab} (h : cdJ a b = 0) : tabB (jcT a b) = true ∧ (jcT a b).1.length + 1 = a.1.length + b.1.length ∧ (jcT a b).2.length ≤ a.2.length * b.2.length ∧ a.2.length ≤ 20 ∧ b.2.length ≤ 20 ∧ 1 ≤ b.1.length ∧ (a.1.length ≤ 6 ∧ b.1.length ≤ 6) := by
  rw [jcT_ok h]
  unfold cdJ at h
  by_cases e : tabB a = true ∧ tabB b = true
  · rw [if_pos e] at h
    have ha := tab_bd e.1; have hb := tab_bd e.2
    split at h
    · split at h
      · refine ⟨‹_›, ?_, ?_, ha.2.2, hb.2.2, hb.1, ha.2.1, hb.2.1⟩
        · show (a.1 ++ b.1.drop 1).length + 1 = _; rw [List.length_append, List.length_drop]; omega
        · show (jnR b.2 a.2).length ≤ _; have := jnR_len b.2 a.2; rw [Nat.mul_comm]; exact this
      · cases h
    · cases h
  · rw [if_neg e] at h; cases h
theorem mul_20 {a b : Nat} (ha : a ≤ 20) (hb : b ≤ 20) : a * b ≤ 400 := Nat.mul_le_mul ha hb
theorem mul_cast {a b : Nat} : ((a : Int) * (b : Int)) = ((a * b : Nat) : Int) := (Int.natCast_mul a b).symm

set_option maxHeartbeats 8000000 in
theorem c_laws_FnGroups (w0 : World) (v_code : Value) (code : List UInt8) {S_code : Nat → Prop} (h_code : Rds shU8 S_code w0 v_code code) :
  Calls Try.prog 9 #[v_code] w0 (Ret w0 (fun v _ => v = .bool (true))) := by
 refine enter (N := 158) Try.func9 rfl rfl rfl ?_
 intro a0 ha0
 have hx0 := Ext.rfl' w0
 have hl_code := h_code.length_le
 refine wp_seq ?_
 refine wp_region_lit ?_
 refine wl_val ha0 rfl rfl rfl (op_assign ha0 rfl rfl) ?_
 intro a1 ha1; clear ha0 a0
 refine wpList_nil ?_
 refine then_n ?_
 refine wp_seq ?_
 refine wp_seq ?_
 refine wp_region_lit ?_
 refine wl_val ha1 rfl rfl rfl (op_move ha1 rfl rfl) ?_
 intro a2 ha2; clear ha1 a1
 refine wl_callR ha2 rfl rfl rfl (op_call ha2 rfl cb39 rfl) (c_laws_big _ v_code code (h_code.ext pos_shU8 hx0)) ?_
 rintro v3 w4 he5 rfl a6 ha6; clear ha2 a2
 have hx7 := hx0.trans' he5
 have hzhx7 := he5.size
 refine wpList_nil ?_
 refine then_n ?_
 rcases Bool.eq_false_or_eq_true (decide (4096 < code.length)) with c8 | c8
 ·
  rw [c8] at ha6
  refine cond_t ha6 rfl ?_
  refine wp_seq ?_
  refine wp_region_lit ?_
  refine wl_val ha6 rfl rfl rfl (op_assign ha6 rfl rfl) ?_
  intro a9 ha9; clear ha6 a6
  refine wpList_nil ?_
  refine then_n ?_
  refine wp_ret ?_
  refine then_r ?_
  refine ret1 ha9 rfl rfl ?_
  clear ha9 a9
  exact ret_mk hx7 (congrArg Value.bool (by first | rfl | (simp at c8; done) | omega | omega))
 ·
  rw [c8] at ha6
  refine cond_f ha6 rfl ?_
  refine wp_skip ?_
  refine then_n ?_
  refine wp_seq ?_
  refine wp_region_lit ?_
  refine wl_val ha6 rfl rfl rfl (op_move ha6 rfl rfl) ?_
  intro a10 ha10; clear ha6 a6
  refine wl_callR ha10 rfl rfl rfl (op_call ha10 rfl cb40 rfl) (c_spec_DrawGroupRows _ v_code code (h_code.ext pos_shU8 hx7)) ?_
  rintro v11 w12 he13 ⟨q14, q15, q16, ⟨u17, u19, z21, rfl, ho18, ho20, hN22, hE23⟩⟩ a24 ha24; clear ha10 a10
  have hx25 := hx7.trans' he13
  have hzhx25 := he13.size
  have hlhE23 := absLen hE23
  refine wl_val ha24 rfl rfl rfl (op_move ha24 rfl rfl) ?_
  intro a26 ha26; clear ha24 a24
  refine wl_val ha26 rfl rfl rfl (op_extract ha26 rfl rfl rfl) ?_
  intro a27 ha27; clear ha26 a26
  refine wl_val ha27 rfl rfl rfl (op_extract ha27 rfl rfl rfl) ?_
  intro a28 ha28; clear ha27 a27
  refine wl_val ha28 rfl rfl rfl (op_extract ha28 rfl rfl rfl) ?_
  intro a29 ha29; clear ha28 a28
  refine wl_eff ha29 rfl rfl rfl (op_alloc' rfl ti28 rfl) ?_
  rintro _ w31 ⟨rfl, he32, hb33, hz34⟩ a35 ha35; clear ha29 a29
  have hx36 := hx25.trans' he32
  have hzhx36 := he32.size
  replace ho18 := ho18.ext he32
  replace ho20 := ho20.ext he32
  replace hN22 := hN22.ext he32
  refine wl_effS ha35 rfl rfl (op_storeAll' ha35 rfl ti28 rfl rfl hb33 rfl rfl (by intro u hu; have hu : u ∈ ([u17, u19] : List Value) := hu; simp only [List.mem_cons, List.mem_nil_iff, or_false] at hu; rcases hu with rfl | rfl <;> first | rfl | exact ho18.one | exact ho20.one) rfl) ?_
  rintro w37 ⟨hb39, hst38, hz40⟩
  have hx41 := hx36.stp hst38 (by intro q hq; cases hq; exact (by omega))
  have hzhx41 := hst38.size
  replace ho18 := ho18.stp hst38 (by intro q hq; cases hq; omega)
  replace ho20 := ho20.stp hst38 (by intro q hq; cases hq; omega)
  replace hN22 := hN22.stp hst38 (by intro q hq; cases hq; omega)
  clear hb33
  refine wl_val ha35 rfl rfl rfl (op_assign ha35 rfl rfl) ?_
  intro a42 ha42; clear ha35 a35
  refine wl_val ha42 rfl rfl rfl (op_assign ha42 rfl rfl) ?_
  intro a43 ha43; clear ha42 a42
  refine wpList_nil ?_
  refine then_n ?_
  refine wp_seq ?_
  refine wp_region_lit ?_
  refine wl_val ha43 rfl rfl rfl (op_loadS ha43 rfl Try.underlying28 ti28 rfl rfl hb39.cells) ?_
  intro a44 ha44; clear ha43 a43
  refine wl_val ha44 rfl rfl rfl (op_move ha44 rfl rfl) ?_
  intro a45 ha45; clear ha44 a44
  refine wl_val ha45 rfl rfl rfl (op_move ha45 rfl rfl) ?_
  intro a46 ha46; clear ha45 a45
  refine wl_callR ha46 rfl rfl rfl (op_call ha46 rfl cb24 rfl) (c_impl_GroupRows _ u17 u19 ((q14)) (q15 : Int) (q16 : Int) (ho18.rds pos_shStr) ((rds_shRowN (ho20.fin (by omega) (by omega) (by omega)) hN22).cast hE23)) ?_
  rintro v47 w48 he49 ⟨u50, z52, rfl, ho51, hN53, hE54⟩ a55 ha55; clear ha46 a46
  have hx56 := hx41.trans' he49
  have hzhx56 := he49.size
  replace ho18 := ho18.ext he49
  replace ho20 := ho20.ext he49
  replace hN22 := hN22.ext he49
  replace hb39 := hb39.ext he49
  have hlhE54 := absLen hE54
  refine wl_val ha55 rfl rfl rfl (op_move ha55 rfl rfl) ?_
  intro a57 ha57; clear ha55 a55
  refine wl_val ha57 rfl rfl rfl (op_extract ha57 rfl rfl rfl) ?_
  intro a58 ha58; clear ha57 a57
  refine wl_val ha58 rfl rfl rfl (op_extract ha58 rfl rfl rfl) ?_
  intro a59 ha59; clear ha58 a58
  refine wl_val ha59 rfl rfl rfl (op_assign ha59 rfl rfl) ?_
  intro a60 ha60; clear ha59 a59
  refine wl_val ha60 rfl rfl rfl (op_assign ha60 rfl rfl) ?_
  intro a61 ha61; clear ha60 a60
  refine wpList_nil ?_
  refine then_n ?_
  refine wp_seq ?_
  refine wp_region_lit ?_
  refine wl_val ha61 rfl rfl rfl (op_loadS ha61 rfl Try.underlying28 ti28 rfl rfl hb39.cells) ?_
  intro a62 ha62; clear ha61 a61
  refine wl_val ha62 rfl rfl rfl (op_move ha62 rfl rfl) ?_
  intro a63 ha63; clear ha62 a62
  refine wl_val ha63 rfl rfl rfl (op_move ha63 rfl rfl) ?_
  intro a64 ha64; clear ha63 a63
  refine wl_callR ha64 rfl rfl rfl (op_call ha64 rfl cb23 rfl) (c_spec_GroupRows _ u17 u19 ((q14)) (q15 : Int) (q16 : Int) (ho18.rds pos_shStr) ((rds_shRowN (ho20.fin (by omega) (by omega) (by omega)) hN22).cast hE23)) ?_
  rintro v65 w66 he67 ⟨u68, z70, rfl, ho69, hN71, hE72⟩ a73 ha73; clear ha64 a64
  have hx74 := hx56.trans' he67
  have hzhx74 := he67.size
  replace ho18 := ho18.ext he67
  replace ho20 := ho20.ext he67
  replace hN22 := hN22.ext he67
  replace hb39 := hb39.ext he67
  replace ho51 := ho51.ext he67
  replace hN53 := hN53.ext he67
  have hlhE72 := absLen hE72
  refine wl_val ha73 rfl rfl rfl (op_move ha73 rfl rfl) ?_
  intro a75 ha75; clear ha73 a73
  refine wl_val ha75 rfl rfl rfl (op_extract ha75 rfl rfl rfl) ?_
  intro a76 ha76; clear ha75 a75
  refine wl_val ha76 rfl rfl rfl (op_extract ha76 rfl rfl rfl) ?_
  intro a77 ha77; clear ha76 a76
  refine wl_val ha77 rfl rfl rfl (op_assign ha77 rfl rfl) ?_
  intro a78 ha78; clear ha77 a77
  refine wl_val ha78 rfl rfl rfl (op_assign ha78 rfl rfl) ?_
  intro a79 ha79; clear ha78 a78
  refine wpList_nil ?_
  refine then_n ?_
  refine wp_seq ?_
  refine wp_region_lit ?_
  refine wl_val ha79 rfl rfl rfl (op_move ha79 rfl rfl) ?_
  intro a80 ha80; clear ha79 a79
  refine wl_callR ha80 rfl rfl rfl (op_call ha80 rfl cb41 rfl) (c_spec_DrawJoinTables _ v_code code (h_code.ext pos_shU8 hx74)) ?_
  rintro v81 w82 he83 ⟨q84, q85, ⟨u86, u88, z90, u93, u95, z97, rfl, ho87, ho89, hN91, hE92, ho94, ho96, hN98, hE99⟩⟩ a100 ha100; clear ha80 a80
  have hx101 := hx74.trans' he83
  have hzhx101 := he83.size
  replace ho18 := ho18.ext he83
  replace ho20 := ho20.ext he83
  replace hN22 := hN22.ext he83
  replace hb39 := hb39.ext he83
  replace ho51 := ho51.ext he83
  replace hN53 := hN53.ext he83
  replace ho69 := ho69.ext he83
  replace hN71 := hN71.ext he83
  have hlhE92 := absLen hE92
  have hlhE99 := absLen hE99
  refine wl_val ha100 rfl rfl rfl (op_move ha100 rfl rfl) ?_
  intro a102 ha102; clear ha100 a100
  refine wl_val ha102 rfl rfl rfl (op_extract ha102 rfl rfl rfl) ?_
  intro a103 ha103; clear ha102 a102
  refine wl_val ha103 rfl rfl rfl (op_extract ha103 rfl rfl rfl) ?_
  intro a104 ha104; clear ha103 a103
  refine wl_eff ha104 rfl rfl rfl (op_alloc' rfl ti28 rfl) ?_
  rintro _ w106 ⟨rfl, he107, hb108, hz109⟩ a110 ha110; clear ha104 a104
  have hx111 := hx101.trans' he107
  have hzhx111 := he107.size
  replace ho18 := ho18.ext he107
  replace ho20 := ho20.ext he107
  replace hN22 := hN22.ext he107
  replace hb39 := hb39.ext he107
  replace ho51 := ho51.ext he107
  replace hN53 := hN53.ext he107
  replace ho69 := ho69.ext he107
  replace hN71 := hN71.ext he107
  replace ho87 := ho87.ext he107
  replace ho89 := ho89.ext he107
  replace hN91 := hN91.ext he107
  replace ho94 := ho94.ext he107
  replace ho96 := ho96.ext he107
  replace hN98 := hN98.ext he107
  refine wl_eff ha110 rfl rfl rfl (op_alloc' rfl ti28 rfl) ?_
  rintro _ w113 ⟨rfl, he114, hb115, hz116⟩ a117 ha117; clear ha110 a110
  have hx118 := hx111.trans' he114
  have hzhx118 := he114.size
  replace ho18 := ho18.ext he114
  replace ho20 := ho20.ext he114
  replace hN22 := hN22.ext he114
  replace hb39 := hb39.ext he114
  replace ho51 := ho51.ext he114
  replace hN53 := hN53.ext he114
  replace ho69 := ho69.ext he114
  replace hN71 := hN71.ext he114
  replace ho87 := ho87.ext he114
  replace ho89 := ho89.ext he114
  replace hN91 := hN91.ext he114
  replace ho94 := ho94.ext he114
  replace ho96 := ho96.ext he114
  replace hN98 := hN98.ext he114
  replace hb108 := hb108.ext he114
  refine wl_effS ha117 rfl rfl (op_storeAll' ha117 rfl ti28 rfl rfl hb108 rfl rfl (by intro u hu; have hu : u ∈ ([u86, u88] : List Value) := hu; simp only [List.mem_cons, List.mem_nil_iff, or_false] at hu; rcases hu with rfl | rfl <;> first | rfl | exact ho87.one | exact ho89.one) rfl) ?_
  rintro w119 ⟨hb121, hst120, hz122⟩
  have hx123 := hx118.stp hst120 (by intro q hq; cases hq; exact (by omega))
  have hzhx123 := hst120.size
  replace ho18 := ho18.stp hst120 (by intro q hq; cases hq; omega)
  replace ho20 := ho20.stp hst120 (by intro q hq; cases hq; omega)
  replace hN22 := hN22.stp hst120 (by intro q hq; cases hq; omega)
  replace hb39 := hb39.stp hst120 (by intro q hq; cases hq; omega)
  replace ho51 := ho51.stp hst120 (by intro q hq; cases hq; omega)
  replace hN53 := hN53.stp hst120 (by intro q hq; cases hq; omega)
  replace ho69 := ho69.stp hst120 (by intro q hq; cases hq; omega)
  replace hN71 := hN71.stp hst120 (by intro q hq; cases hq; omega)
  replace ho87 := ho87.stp hst120 (by intro q hq; cases hq; omega)
  replace ho89 := ho89.stp hst120 (by intro q hq; cases hq; omega)
  replace hN91 := hN91.stp hst120 (by intro q hq; cases hq; omega)
  replace ho94 := ho94.stp hst120 (by intro q hq; cases hq; omega)
  replace ho96 := ho96.stp hst120 (by intro q hq; cases hq; omega)
  replace hN98 := hN98.stp hst120 (by intro q hq; cases hq; omega)
  replace hb115 := hb115.stp hst120 (by intro q hq; cases hq; omega)
  clear hb108
  refine wl_effS ha117 rfl rfl (op_storeAll' ha117 rfl ti28 rfl rfl hb115 rfl rfl (by intro u hu; have hu : u ∈ ([u93, u95] : List Value) := hu; simp only [List.mem_cons, List.mem_nil_iff, or_false] at hu; rcases hu with rfl | rfl <;> first | rfl | exact ho94.one | exact ho96.one) rfl) ?_
  rintro w124 ⟨hb126, hst125, hz127⟩
  have hx128 := hx123.stp hst125 (by intro q hq; cases hq; exact (by omega))
  have hzhx128 := hst125.size
  replace ho18 := ho18.stp hst125 (by intro q hq; cases hq; omega)
  replace ho20 := ho20.stp hst125 (by intro q hq; cases hq; omega)
  replace hN22 := hN22.stp hst125 (by intro q hq; cases hq; omega)
  replace hb39 := hb39.stp hst125 (by intro q hq; cases hq; omega)
  replace ho51 := ho51.stp hst125 (by intro q hq; cases hq; omega)
  replace hN53 := hN53.stp hst125 (by intro q hq; cases hq; omega)
  replace ho69 := ho69.stp hst125 (by intro q hq; cases hq; omega)
  replace hN71 := hN71.stp hst125 (by intro q hq; cases hq; omega)
  replace ho87 := ho87.stp hst125 (by intro q hq; cases hq; omega)
  replace ho89 := ho89.stp hst125 (by intro q hq; cases hq; omega)
  replace hN91 := hN91.stp hst125 (by intro q hq; cases hq; omega)
  replace ho94 := ho94.stp hst125 (by intro q hq; cases hq; omega)
  replace ho96 := ho96.stp hst125 (by intro q hq; cases hq; omega)
  replace hN98 := hN98.stp hst125 (by intro q hq; cases hq; omega)
  replace hb121 := hb121.stp hst125 (by intro q hq; cases hq; omega)
  clear hb115
  refine wpList_nil ?_
  refine then_n ?_
  refine wp_seq ?_
  refine wp_region_lit ?_
  refine wl_val ha117 rfl rfl rfl (op_loadS ha117 rfl Try.underlying28 ti28 rfl rfl hb121.cells) ?_
  intro a129 ha129; clear ha117 a117
  refine wl_val ha129 rfl rfl rfl (op_loadS ha129 rfl Try.underlying28 ti28 rfl rfl hb126.cells) ?_
  intro a130 ha130; clear ha129 a129
  refine wl_callR ha130 rfl rfl rfl (op_call ha130 rfl cb42 rfl) (c_impl_JoinTables _ u86 u88 ((q84)) u93 u95 ((q85)) (ho87.rds pos_shStr) ((rds_shRowN (ho89.fin (by omega) (by omega) (by omega)) hN91).cast hE92) (ho94.rds pos_shStr) ((rds_shRowN (ho96.fin (by omega) (by omega) (by omega)) hN98).cast hE99)) ?_
  rintro v131 w132 he133 ⟨u134, u136, z138, rfl, ho135, ho137, hN139, hE140⟩ a141 ha141; clear ha130 a130
  have hx142 := hx128.trans' he133
  have hzhx142 := he133.size
  replace ho18 := ho18.ext he133
  replace ho20 := ho20.ext he133
  replace hN22 := hN22.ext he133
  replace hb39 := hb39.ext he133
  replace ho51 := ho51.ext he133
  replace hN53 := hN53.ext he133
  replace ho69 := ho69.ext he133
  replace hN71 := hN71.ext he133
  replace ho87 := ho87.ext he133
  replace ho89 := ho89.ext he133
  replace hN91 := hN91.ext he133
  replace ho94 := ho94.ext he133
  replace ho96 := ho96.ext he133
  replace hN98 := hN98.ext he133
  replace hb121 := hb121.ext he133
  replace hb126 := hb126.ext he133
  have hlhE140 := absLen hE140
  refine wl_val ha141 rfl rfl rfl (op_move ha141 rfl rfl) ?_
  intro a143 ha143; clear ha141 a141
  refine wl_val ha143 rfl rfl rfl (op_extract ha143 rfl rfl rfl) ?_
  intro a144 ha144; clear ha143 a143
  refine wl_val ha144 rfl rfl rfl (op_extract ha144 rfl rfl rfl) ?_
  intro a145 ha145; clear ha144 a144
  refine wl_eff ha145 rfl rfl rfl (op_alloc' rfl ti28 rfl) ?_
  rintro _ w147 ⟨rfl, he148, hb149, hz150⟩ a151 ha151; clear ha145 a145
  have hx152 := hx142.trans' he148
  have hzhx152 := he148.size
  replace ho18 := ho18.ext he148
  replace ho20 := ho20.ext he148
  replace hN22 := hN22.ext he148
  replace hb39 := hb39.ext he148
  replace ho51 := ho51.ext he148
  replace hN53 := hN53.ext he148
  replace ho69 := ho69.ext he148
  replace hN71 := hN71.ext he148
  replace ho87 := ho87.ext he148
  replace ho89 := ho89.ext he148
  replace hN91 := hN91.ext he148
  replace ho94 := ho94.ext he148
  replace ho96 := ho96.ext he148
  replace hN98 := hN98.ext he148
  replace hb121 := hb121.ext he148
  replace hb126 := hb126.ext he148
  replace ho135 := ho135.ext he148
  replace ho137 := ho137.ext he148
  replace hN139 := hN139.ext he148
  refine wl_effS ha151 rfl rfl (op_storeAll' ha151 rfl ti28 rfl rfl hb149 rfl rfl (by intro u hu; have hu : u ∈ ([u134, u136] : List Value) := hu; simp only [List.mem_cons, List.mem_nil_iff, or_false] at hu; rcases hu with rfl | rfl <;> first | rfl | exact ho135.one | exact ho137.one) rfl) ?_
  rintro w153 ⟨hb155, hst154, hz156⟩
  have hx157 := hx152.stp hst154 (by intro q hq; cases hq; exact (by omega))
  have hzhx157 := hst154.size
  replace ho18 := ho18.stp hst154 (by intro q hq; cases hq; omega)
  replace ho20 := ho20.stp hst154 (by intro q hq; cases hq; omega)
  replace hN22 := hN22.stp hst154 (by intro q hq; cases hq; omega)
  replace hb39 := hb39.stp hst154 (by intro q hq; cases hq; omega)
  replace ho51 := ho51.stp hst154 (by intro q hq; cases hq; omega)
  replace hN53 := hN53.stp hst154 (by intro q hq; cases hq; omega)
  replace ho69 := ho69.stp hst154 (by intro q hq; cases hq; omega)
  replace hN71 := hN71.stp hst154 (by intro q hq; cases hq; omega)
  replace ho87 := ho87.stp hst154 (by intro q hq; cases hq; omega)
  replace ho89 := ho89.stp hst154 (by intro q hq; cases hq; omega)
  replace hN91 := hN91.stp hst154 (by intro q hq; cases hq; omega)
  replace ho94 := ho94.stp hst154 (by intro q hq; cases hq; omega)
  replace ho96 := ho96.stp hst154 (by intro q hq; cases hq; omega)
  replace hN98 := hN98.stp hst154 (by intro q hq; cases hq; omega)
  replace hb121 := hb121.stp hst154 (by intro q hq; cases hq; omega)
  replace hb126 := hb126.stp hst154 (by intro q hq; cases hq; omega)
  replace ho135 := ho135.stp hst154 (by intro q hq; cases hq; omega)
  replace ho137 := ho137.stp hst154 (by intro q hq; cases hq; omega)
  replace hN139 := hN139.stp hst154 (by intro q hq; cases hq; omega)
  clear hb149
  refine wl_val ha151 rfl rfl rfl (op_assign ha151 rfl rfl) ?_
  intro a158 ha158; clear ha151 a151
  refine wpList_nil ?_
  refine then_n ?_
  refine wp_seq ?_
  refine wp_region_lit ?_
  refine wl_val ha158 rfl rfl rfl (op_loadS ha158 rfl Try.underlying28 ti28 rfl rfl hb121.cells) ?_
  intro a159 ha159; clear ha158 a158
  refine wl_val ha159 rfl rfl rfl (op_loadS ha159 rfl Try.underlying28 ti28 rfl rfl hb126.cells) ?_
  intro a160 ha160; clear ha159 a159
  refine wl_callR ha160 rfl rfl rfl (op_call ha160 rfl cb43 rfl) (c_spec_JoinTables _ u86 u88 ((q84)) u93 u95 ((q85)) (ho87.rds pos_shStr) ((rds_shRowN (ho89.fin (by omega) (by omega) (by omega)) hN91).cast hE92) (ho94.rds pos_shStr) ((rds_shRowN (ho96.fin (by omega) (by omega) (by omega)) hN98).cast hE99)) ?_
  rintro v161 w162 he163 ⟨u164, u166, z168, rfl, ho165, ho167, hN169, hE170⟩ a171 ha171; clear ha160 a160
  have hx172 := hx157.trans' he163
  have hzhx172 := he163.size
  replace ho18 := ho18.ext he163
  replace ho20 := ho20.ext he163
  replace hN22 := hN22.ext he163
  replace hb39 := hb39.ext he163
  replace ho51 := ho51.ext he163
  replace hN53 := hN53.ext he163
  replace ho69 := ho69.ext he163
  replace hN71 := hN71.ext he163
  replace ho87 := ho87.ext he163
  replace ho89 := ho89.ext he163
  replace hN91 := hN91.ext he163
  replace ho94 := ho94.ext he163
  replace ho96 := ho96.ext he163
  replace hN98 := hN98.ext he163
  replace hb121 := hb121.ext he163
  replace hb126 := hb126.ext he163
  replace ho135 := ho135.ext he163
  replace ho137 := ho137.ext he163
  replace hN139 := hN139.ext he163
  replace hb155 := hb155.ext he163
  have hlhE170 := absLen hE170
  refine wl_val ha171 rfl rfl rfl (op_move ha171 rfl rfl) ?_
  intro a173 ha173; clear ha171 a171
  refine wl_val ha173 rfl rfl rfl (op_extract ha173 rfl rfl rfl) ?_
  intro a174 ha174; clear ha173 a173
  refine wl_val ha174 rfl rfl rfl (op_extract ha174 rfl rfl rfl) ?_
  intro a175 ha175; clear ha174 a174
  refine wl_eff ha175 rfl rfl rfl (op_alloc' rfl ti28 rfl) ?_
  rintro _ w177 ⟨rfl, he178, hb179, hz180⟩ a181 ha181; clear ha175 a175
  have hx182 := hx172.trans' he178
  have hzhx182 := he178.size
  replace ho18 := ho18.ext he178
  replace ho20 := ho20.ext he178
  replace hN22 := hN22.ext he178
  replace hb39 := hb39.ext he178
  replace ho51 := ho51.ext he178
  replace hN53 := hN53.ext he178
  replace ho69 := ho69.ext he178
  replace hN71 := hN71.ext he178
  replace ho87 := ho87.ext he178
  replace ho89 := ho89.ext he178
  replace hN91 := hN91.ext he178
  replace ho94 := ho94.ext he178
  replace ho96 := ho96.ext he178
  replace hN98 := hN98.ext he178
  replace hb121 := hb121.ext he178
  replace hb126 := hb126.ext he178
  replace ho135 := ho135.ext he178
  replace ho137 := ho137.ext he178
  replace hN139 := hN139.ext he178
  replace hb155 := hb155.ext he178
  replace ho165 := ho165.ext he178
  replace ho167 := ho167.ext he178
  replace hN169 := hN169.ext he178
  refine wl_effS ha181 rfl rfl (op_storeAll' ha181 rfl ti28 rfl rfl hb179 rfl rfl (by intro u hu; have hu : u ∈ ([u164, u166] : List Value) := hu; simp only [List.mem_cons, List.mem_nil_iff, or_false] at hu; rcases hu with rfl | rfl <;> first | rfl | exact ho165.one | exact ho167.one) rfl) ?_
  rintro w183 ⟨hb185, hst184, hz186⟩
  have hx187 := hx182.stp hst184 (by intro q hq; cases hq; exact (by omega))
  have hzhx187 := hst184.size
  replace ho18 := ho18.stp hst184 (by intro q hq; cases hq; omega)
  replace ho20 := ho20.stp hst184 (by intro q hq; cases hq; omega)
  replace hN22 := hN22.stp hst184 (by intro q hq; cases hq; omega)
  replace hb39 := hb39.stp hst184 (by intro q hq; cases hq; omega)
  replace ho51 := ho51.stp hst184 (by intro q hq; cases hq; omega)
  replace hN53 := hN53.stp hst184 (by intro q hq; cases hq; omega)
  replace ho69 := ho69.stp hst184 (by intro q hq; cases hq; omega)
  replace hN71 := hN71.stp hst184 (by intro q hq; cases hq; omega)
  replace ho87 := ho87.stp hst184 (by intro q hq; cases hq; omega)
  replace ho89 := ho89.stp hst184 (by intro q hq; cases hq; omega)
  replace hN91 := hN91.stp hst184 (by intro q hq; cases hq; omega)
  replace ho94 := ho94.stp hst184 (by intro q hq; cases hq; omega)
  replace ho96 := ho96.stp hst184 (by intro q hq; cases hq; omega)
  replace hN98 := hN98.stp hst184 (by intro q hq; cases hq; omega)
  replace hb121 := hb121.stp hst184 (by intro q hq; cases hq; omega)
  replace hb126 := hb126.stp hst184 (by intro q hq; cases hq; omega)
  replace ho135 := ho135.stp hst184 (by intro q hq; cases hq; omega)
  replace ho137 := ho137.stp hst184 (by intro q hq; cases hq; omega)
  replace hN139 := hN139.stp hst184 (by intro q hq; cases hq; omega)
  replace hb155 := hb155.stp hst184 (by intro q hq; cases hq; omega)
  replace ho165 := ho165.stp hst184 (by intro q hq; cases hq; omega)
  replace ho167 := ho167.stp hst184 (by intro q hq; cases hq; omega)
  replace hN169 := hN169.stp hst184 (by intro q hq; cases hq; omega)
  clear hb179
  refine wl_val ha181 rfl rfl rfl (op_assign ha181 rfl rfl) ?_
  intro a188 ha188; clear ha181 a181
  refine wpList_nil ?_
  refine then_n ?_
  refine wp_seq ?_
  refine wp_seq ?_
  refine wp_region_lit ?_
  refine wl_val ha188 rfl rfl rfl (op_move ha188 rfl rfl) ?_
  intro a189 ha189; clear ha188 a188
  refine wl_val ha189 rfl rfl rfl (op_move ha189 rfl rfl) ?_
  intro a190 ha190; clear ha189 a189
  refine wl_val ha190 rfl rfl rfl ((op_neq ha190 rfl rfl rfl).to (congrArg Value.bool decide_not)) ?_
  intro a191 ha191; clear ha190 a190
  refine wl_val ha191 rfl rfl rfl (op_move ha191 rfl rfl) ?_
  intro a192 ha192; clear ha191 a191
  by_cases c193 : (cdG ((q14)) (q15 : Int) (q16 : Int) : Int) = (cdG ((q14)) (q15 : Int) (q16 : Int) : Int)
  ·
   rw [decide_eq_true c193] at ha192
   refine wl_val ha192 rfl rfl rfl (op_move ha192 rfl rfl) ?_
   intro a194 ha194; clear ha192 a192
   refine wl_val ha194 rfl rfl rfl (op_move ha194 rfl rfl) ?_
   intro a195 ha195; clear ha194 a194
   refine wl_callR ha195 rfl rfl rfl (op_call ha195 rfl cb44 rfl) (c_laws_likeRows _ u50 ((grT ((q14)) (q15 : Int) (q16 : Int))) u68 ((grT ((q14)) (q15 : Int) (q16 : Int))) ((rds_shRowN (ho51.fin (by omega) (by omega) (by omega)) hN53).cast hE54) ((rds_shRowN (ho69.fin (by omega) (by omega) (by omega)) hN71).cast hE72)) ?_
   rintro v196 w197 he198 rfl a199 ha199; clear ha195 a195
   have hx200 := hx187.trans' he198
   have hzhx200 := he198.size
   replace ho18 := ho18.ext he198
   replace ho20 := ho20.ext he198
   replace hN22 := hN22.ext he198
   replace hb39 := hb39.ext he198
   replace ho51 := ho51.ext he198
   replace hN53 := hN53.ext he198
   replace ho69 := ho69.ext he198
   replace hN71 := hN71.ext he198
   replace ho87 := ho87.ext he198
   replace ho89 := ho89.ext he198
   replace hN91 := hN91.ext he198
   replace ho94 := ho94.ext he198
   replace ho96 := ho96.ext he198
   replace hN98 := hN98.ext he198
   replace hb121 := hb121.ext he198
   replace hb126 := hb126.ext he198
   replace ho135 := ho135.ext he198
   replace ho137 := ho137.ext he198
   replace hN139 := hN139.ext he198
   replace hb155 := hb155.ext he198
   replace ho165 := ho165.ext he198
   replace ho167 := ho167.ext he198
   replace hN169 := hN169.ext he198
   replace hb185 := hb185.ext he198
   refine wl_val ha199 rfl rfl rfl (op_not ha199 rfl rfl) ?_
   intro a201 ha201; clear ha199 a199
   refine wl_val ha201 rfl rfl rfl (op_pick_f ha201 rfl rfl rfl) ?_
   intro a202 ha202; clear ha201 a201
   refine wl_val ha202 rfl rfl rfl (op_move ha202 rfl rfl) ?_
   intro a203 ha203; clear ha202 a202
   rcases Bool.eq_false_or_eq_true (eqL ((grT ((q14)) (q15 : Int) (q16 : Int))) ((grT ((q14)) (q15 : Int) (q16 : Int)))) with c204 | c204
   ·
    rw [c204] at ha203
    refine wl_val ha203 rfl rfl rfl (op_move ha203 rfl rfl) ?_
    intro a205 ha205; clear ha203 a203
    refine wl_val ha205 rfl rfl rfl (op_move ha205 rfl rfl) ?_
    intro a206 ha206; clear ha205 a205
    refine wl_val ha206 rfl rfl rfl ((op_neq ha206 rfl rfl rfl).to (congrArg Value.bool decide_not)) ?_
    intro a207 ha207; clear ha206 a206
    refine wl_val ha207 rfl rfl rfl (op_pick_f ha207 rfl rfl rfl) ?_
    intro a208 ha208; clear ha207 a207
    refine wl_val ha208 rfl rfl rfl (op_move ha208 rfl rfl) ?_
    intro a209 ha209; clear ha208 a208
    by_cases c210 : (cdJ ((q84)) ((q85)) : Int) = (cdJ ((q84)) ((q85)) : Int)
    ·
     rw [decide_eq_true c210] at ha209
     refine wl_val ha209 rfl rfl rfl (op_loadS ha209 rfl Try.underlying28 ti28 rfl rfl hb155.cells) ?_
     intro a211 ha211; clear ha209 a209
     refine wl_val ha211 rfl rfl rfl (op_loadS ha211 rfl Try.underlying28 ti28 rfl rfl hb185.cells) ?_
     intro a212 ha212; clear ha211 a211
     refine wl_callR ha212 rfl rfl rfl (op_call ha212 rfl cb45 rfl) (c_laws_likeTable _ u134 u136 ((jcT ((q84)) ((q85)))) u164 u166 ((jcT ((q84)) ((q85)))) (ho135.rds pos_shStr) ((rds_shRowN (ho137.fin (by omega) (by omega) (by omega)) hN139).cast hE140) (ho165.rds pos_shStr) ((rds_shRowN (ho167.fin (by omega) (by omega) (by omega)) hN169).cast hE170)) ?_
     rintro v213 w214 he215 rfl a216 ha216; clear ha212 a212
     have hx217 := hx200.trans' he215
     have hzhx217 := he215.size
     replace ho18 := ho18.ext he215
     replace ho20 := ho20.ext he215
     replace hN22 := hN22.ext he215
     replace hb39 := hb39.ext he215
     replace ho51 := ho51.ext he215
     replace hN53 := hN53.ext he215
     replace ho69 := ho69.ext he215
     replace hN71 := hN71.ext he215
     replace ho87 := ho87.ext he215
     replace ho89 := ho89.ext he215
     replace hN91 := hN91.ext he215
     replace ho94 := ho94.ext he215
     replace ho96 := ho96.ext he215
     replace hN98 := hN98.ext he215
     replace hb121 := hb121.ext he215
     replace hb126 := hb126.ext he215
     replace ho135 := ho135.ext he215
     replace ho137 := ho137.ext he215
     replace hN139 := hN139.ext he215
     replace hb155 := hb155.ext he215
     replace ho165 := ho165.ext he215
     replace ho167 := ho167.ext he215
     replace hN169 := hN169.ext he215
     replace hb185 := hb185.ext he215
     refine wl_val ha216 rfl rfl rfl (op_not ha216 rfl rfl) ?_
     intro a218 ha218; clear ha216 a216
     refine wl_val ha218 rfl rfl rfl (op_pick_f ha218 rfl rfl rfl) ?_
     intro a219 ha219; clear ha218 a218
     refine wpList_nil ?_
     refine then_n ?_
     rcases Bool.eq_false_or_eq_true (decide (((jcT ((q84)) ((q85)))) = ((jcT ((q84)) ((q85)))))) with c220 | c220
     ·
      rw [c220] at ha219
      refine cond_f ha219 rfl ?_
      refine wp_skip ?_
      refine then_n ?_
      refine wp_seq ?_
      refine wp_seq ?_
      clear ho165 ho167 hN169 hb185
      refine wp_region_lit ?_
      refine wl_val ha219 rfl rfl rfl (op_move ha219 rfl rfl) ?_
      intro a221 ha221; clear ha219 a219
      refine wl_val ha221 rfl rfl rfl (op_eql ha221 rfl rfl rfl) ?_
      intro a222 ha222; clear ha221 a221
      refine wpList_nil ?_
      refine then_n ?_
      by_cases c223 : (cdJ ((q84)) ((q85)) : Int) = (0 : Int)
      ·
       rw [decide_eq_true c223] at ha222
       obtain ⟨hj1, hj2, hj3, hj4, hj5, hj6, hj7, hj8⟩ := jn_all c223
       have hj9 := mul_20 hj4 hj5
       have hja := absLen hE92
       have hjb := absLen hE99
       have hjc := absLen hE140
       have hjm : ((z90.length : Nat) : Int) * ((z97.length : Nat) : Int) = ((((q84).2).length * ((q85).2).length : Nat) : Int) := by rw [hja, hjb]; exact mul_cast
       refine cond_t ha222 rfl ?_
       refine wp_seq ?_
       refine wp_region_lit ?_
       refine wl_val ha222 rfl rfl rfl (op_loadS ha222 rfl Try.underlying28 ti28 rfl rfl hb155.cells) ?_
       intro a224 ha224; clear ha222 a222
       refine wl_callR ha224 rfl rfl rfl (op_call ha224 rfl cb19 rfl) (c_impl_IsTable _ u134 u136 ((jcT ((q84)) ((q85)))) (ho135.rds pos_shStr) ((rds_shRowN (ho137.fin (by omega) (by omega) (by omega)) hN139).cast hE140)) ?_
       rintro v225 w226 he227 rfl a228 ha228; clear ha224 a224
       have hx229 := hx217.trans' he227
       have hzhx229 := he227.size
       replace ho18 := ho18.ext he227
       replace ho20 := ho20.ext he227
       replace hN22 := hN22.ext he227
       replace hb39 := hb39.ext he227
       replace ho51 := ho51.ext he227
       replace hN53 := hN53.ext he227
       replace ho69 := ho69.ext he227
       replace hN71 := hN71.ext he227
       replace ho87 := ho87.ext he227
       replace ho89 := ho89.ext he227
       replace hN91 := hN91.ext he227
       replace ho94 := ho94.ext he227
       replace ho96 := ho96.ext he227
       replace hN98 := hN98.ext he227
       replace hb121 := hb121.ext he227
       replace hb126 := hb126.ext he227
       replace ho135 := ho135.ext he227
       replace ho137 := ho137.ext he227
       replace hN139 := hN139.ext he227
       replace hb155 := hb155.ext he227
       refine wl_val ha228 rfl rfl rfl (op_not ha228 rfl rfl) ?_
       intro a230 ha230; clear ha228 a228
       refine wl_val ha230 rfl rfl rfl (op_move ha230 rfl rfl) ?_
       intro a231 ha231; clear ha230 a230
       rcases Bool.eq_false_or_eq_true (tabB ((jcT ((q84)) ((q85))))) with c232 | c232
       ·
        rw [c232] at ha231
        refine wl_val ha231 rfl rfl rfl (op_fieldAddr (sz := 0) ha231 rfl Try.underlying28 rfl rfl ti22 rfl) ?_
        intro a233 ha233; clear ha231 a231
        refine wl_val ha233 rfl rfl rfl (op_loadF (off := 0) ha233 rfl Try.underlying22 rfl rfl hb155.cells rfl) ?_
        intro a234 ha234; clear ha233 a233
        refine wl_val ha234 rfl rfl rfl (op_len_sl ha234 rfl Try.underlying22 rfl (ho135.rds pos_shStr)) ?_
        intro a235 ha235; clear ha234 a234
        refine wl_val ha235 rfl rfl rfl (op_fieldAddr (sz := 0) ha235 rfl Try.underlying28 rfl rfl ti22 rfl) ?_
        intro a236 ha236; clear ha235 a235
        refine wl_val ha236 rfl rfl rfl (op_loadF (off := 0) ha236 rfl Try.underlying22 rfl rfl hb121.cells rfl) ?_
        intro a237 ha237; clear ha236 a236
        refine wl_val ha237 rfl rfl rfl (op_len_sl ha237 rfl Try.underlying22 rfl (ho87.rds pos_shStr)) ?_
        intro a238 ha238; clear ha237 a237
        refine wl_val ha238 rfl rfl rfl (op_fieldAddr (sz := 0) ha238 rfl Try.underlying28 rfl rfl ti22 rfl) ?_
        intro a239 ha239; clear ha238 a238
        refine wl_val ha239 rfl rfl rfl (op_loadF (off := 0) ha239 rfl Try.underlying22 rfl rfl hb126.cells rfl) ?_
        intro a240 ha240; clear ha239 a239
        refine wl_val ha240 rfl rfl rfl (op_len_sl ha240 rfl Try.underlying22 rfl (ho94.rds pos_shStr)) ?_
        intro a241 ha241; clear ha240 a240
        refine wl_val ha241 rfl rfl rfl ((op_add ha241 rfl rfl rfl).int (IntWalk.i64_in _ (by omega))) ?_
        intro a242 ha242; clear ha241 a241
        refine wl_val ha242 rfl rfl rfl ((op_sub ha242 rfl rfl rfl).int (IntWalk.i64_in _ (by omega))) ?_
        intro a243 ha243; clear ha242 a242
        refine wl_val ha243 rfl rfl rfl ((op_neq ha243 rfl rfl rfl).to (congrArg Value.bool decide_not)) ?_
        intro a244 ha244; clear ha243 a243
        refine wl_val ha244 rfl rfl rfl (op_pick_f ha244 rfl rfl rfl) ?_
        intro a245 ha245; clear ha244 a244
        refine wl_val ha245 rfl rfl rfl (op_move ha245 rfl rfl) ?_
        intro a246 ha246; clear ha245 a245
        by_cases c247 : (((((jcT ((q84)) ((q85))).1)).length : Nat) : Int) = (((((((q84).1)).length : Nat) : Int) + (((((q85).1)).length : Nat) : Int)) - (1 : Int))
        ·
         rw [decide_eq_true c247] at ha246
         refine wl_val ha246 rfl rfl rfl (op_fieldAddr (sz := 0) ha246 rfl Try.underlying28 rfl rfl ti23 rfl) ?_
         intro a248 ha248; clear ha246 a246
         refine wl_val ha248 rfl rfl rfl (op_loadF (off := 1) ha248 rfl Try.underlying23 rfl rfl hb155.cells rfl) ?_
         intro a249 ha249; clear ha248 a248
         refine wl_val ha249 rfl rfl rfl (op_len_sl ha249 rfl Try.underlying23 rfl (ho137.rds pos_shRowN)) ?_
         intro a250 ha250; clear ha249 a249
         refine wl_val ha250 rfl rfl rfl (op_fieldAddr (sz := 0) ha250 rfl Try.underlying28 rfl rfl ti23 rfl) ?_
         intro a251 ha251; clear ha250 a250
         refine wl_val ha251 rfl rfl rfl (op_loadF (off := 1) ha251 rfl Try.underlying23 rfl rfl hb121.cells rfl) ?_
         intro a252 ha252; clear ha251 a251
         refine wl_val ha252 rfl rfl rfl (op_len_sl ha252 rfl Try.underlying23 rfl (ho89.rds pos_shRowN)) ?_
         intro a253 ha253; clear ha252 a252
         refine wl_val ha253 rfl rfl rfl (op_fieldAddr (sz := 0) ha253 rfl Try.underlying28 rfl rfl ti23 rfl) ?_
         intro a254 ha254; clear ha253 a253
         refine wl_val ha254 rfl rfl rfl (op_loadF (off := 1) ha254 rfl Try.underlying23 rfl rfl hb126.cells rfl) ?_
         intro a255 ha255; clear ha254 a254
         refine wl_val ha255 rfl rfl rfl (op_len_sl ha255 rfl Try.underlying23 rfl (ho96.rds pos_shRowN)) ?_
         intro a256 ha256; clear ha255 a255
         refine wl_val ha256 rfl rfl rfl ((op_mul ha256 rfl rfl rfl).int (IntWalk.i64_in _ (by omega))) ?_
         intro a257 ha257; clear ha256 a256
         refine wl_val ha257 rfl rfl rfl (op_gtr ha257 rfl rfl rfl) ?_
         intro a258 ha258; clear ha257 a257
         refine wl_val ha258 rfl rfl rfl (op_pick_f ha258 rfl rfl rfl) ?_
         intro a259 ha259; clear ha258 a258
         refine wpList_nil ?_
         refine then_n ?_
         by_cases c260 : (((z90.length : Nat) : Int) * ((z97.length : Nat) : Int)) < ((z138.length : Nat) : Int)
         ·
          rw [decide_eq_true c260] at ha259
          refine cond_t ha259 rfl ?_
          refine wp_seq ?_
          clear ho18 ho20 hN22 hb39 ho51 hN53 ho69 hN71 ho87 ho89 hN91 ho94 ho96 hN98 hb121 hb126 ho135 ho137 hN139 hb155
          refine wp_region_lit ?_
          refine wl_val ha259 rfl rfl rfl (op_assign ha259 rfl rfl) ?_
          intro a261 ha261; clear ha259 a259
          refine wpList_nil ?_
          refine then_n ?_
          refine wp_ret ?_
          refine then_r ?_
          refine ret1 ha261 rfl rfl ?_
          clear ha261 a261
          exact ret_mk hx229 (congrArg Value.bool (by first | rfl | (simp at c220; done) | (simp at c8; done) | omega | omega))
         ·
          rw [decide_eq_false c260] at ha259
          refine cond_f ha259 rfl ?_
          refine wp_skip ?_
          refine then_n ?_
          refine wp_seq ?_
          refine wp_seq ?_
          clear ho87 ho89 hN91 ho94 ho96 hN98 hb121 hb126 ho135 ho137 hN139 hb155
          refine wp_region_lit ?_
          refine wl_val ha259 rfl rfl rfl (op_move ha259 rfl rfl) ?_
          intro a262 ha262; clear ha259 a259
          refine wl_val ha262 rfl rfl rfl ((op_neq ha262 rfl rfl rfl).to (congrArg Value.bool decide_not)) ?_
          intro a263 ha263; clear ha262 a262
          refine wpList_nil ?_
          refine then_n ?_
          by_cases c264 : (cdG ((q14)) (q15 : Int) (q16 : Int) : Int) = (0 : Int)
          ·
           rw [decide_eq_true c264] at ha263
           obtain ⟨hu1, hu2, hu3, hu4, hu5⟩ := gr_all c264
           refine cond_f ha263 rfl ?_
           refine wp_skip ?_
           refine then_n ?_
           refine wp_seq ?_
           refine wp_region_lit ?_
           refine wl_val ha263 rfl rfl rfl (op_loadS ha263 rfl Try.underlying28 ti28 rfl rfl hb39.cells) ?_
           intro a265 ha265; clear ha263 a263
           refine wl_val ha265 rfl rfl rfl (op_move ha265 rfl rfl) ?_
           intro a266 ha266; clear ha265 a265
           refine wl_callR ha266 rfl rfl rfl (op_call ha266 rfl cb22 rfl) (c_impl_SumColumn _ u17 u19 ((q14)) (q16 : Int) (ho18.rds pos_shStr) ((rds_shRowN (ho20.fin (by omega) (by omega) (by omega)) hN22).cast hE23)) ?_
           rintro v267 w268 he269 rfl a270 ha270; clear ha266 a266
           have hx271 := hx229.trans' he269
           have hzhx271 := he269.size
           replace ho18 := ho18.ext he269
           replace ho20 := ho20.ext he269
           replace hN22 := hN22.ext he269
           replace hb39 := hb39.ext he269
           replace ho51 := ho51.ext he269
           replace hN53 := hN53.ext he269
           replace ho69 := ho69.ext he269
           replace hN71 := hN71.ext he269
           refine wl_val ha270 rfl rfl rfl (op_move ha270 rfl rfl) ?_
           intro a272 ha272; clear ha270 a270
           refine wl_val ha272 rfl rfl rfl (op_extract ha272 rfl rfl rfl) ?_
           intro a273 ha273; clear ha272 a272
           refine wl_val ha273 rfl rfl rfl (op_extract ha273 rfl rfl rfl) ?_
           intro a274 ha274; clear ha273 a273
           refine wl_val ha274 rfl rfl rfl (op_assign ha274 rfl rfl) ?_
           intro a275 ha275; clear ha274 a274
           refine wl_val ha275 rfl rfl rfl (op_assign ha275 rfl rfl) ?_
           intro a276 ha276; clear ha275 a275
           refine wpList_nil ?_
           refine then_n ?_
           refine wp_seq ?_
           clear ho18 ho20 hN22 hb39
           refine wp_region_lit ?_
           refine wl_val ha276 rfl rfl rfl (op_assign ha276 rfl rfl) ?_
           intro a277 ha277; clear ha276 a276
           refine wpList_nil ?_
           refine then_n ?_
           refine wp_seq ?_
           refine wp_seq ?_
           refine wp_region_lit ?_
           refine wl_val ha277 rfl rfl rfl (op_assign ha277 rfl rfl) ?_
           intro a278 ha278; clear ha277 a277
           refine wpList_nil ?_
           refine then_n ?_
           refine wp_block ?_
           refine loop_inv (X := Nat × Int) (fun (⟨i, q⟩ : Nat × Int) fr wl => Sl 158 fr [(6, u50), (8, u68), (16, .int .i64 (if cdT ((q14)) (q16 : Int) = 0 then sumI (rowC (q16 : Int)) ((q14)).2 else 0 : Int)), (17, .int .i64 (cdT ((q14)) (q16 : Int) : Int)), (18, .int .i64 q), (19, .int .i64 ((i : Nat) : Int))] ∧ Ext w0 wl ∧ Own shRowN 41 w37.heap.size w37.heap.size w48.heap.size wl u50 z52 ∧ Nst shI64 2 (fun x : List Int => x) w37.heap.size w48.heap.size wl z52 ∧ Own shRowN 41 w48.heap.size w48.heap.size w66.heap.size wl u68 z70 ∧ Nst shI64 2 (fun x : List Int => x) w48.heap.size w66.heap.size wl z70 ∧ w268.heap.size ≤ wl.heap.size ∧ (i ≤ z52.length) ∧ (-20000000000000 * (i : Int) ≤ q) ∧ (q ≤ 20000000000000 * (i : Int)) ∧ (q + sumI (rowC 1) ((grT ((q14)) (q15 : Int) (q16 : Int)).drop i) = sumI (rowC 1) (grT ((q14)) (q15 : Int) (q16 : Int))) ∧ (z52.length = z70.length) ∧ (z52.length ≤ 20) ∧ (z52.length = (grT ((q14)) (q15 : Int) (q16 : Int)).length)) (fun (⟨i, q⟩ : Nat × Int) => z52.length - i) (0, (0 : Int)) ?_ ?_
           ·
            exact ⟨(Sl.cons_ ha278 rfl rfl (Sl.cons_ ha278 rfl rfl (Sl.cons_ ha278 rfl rfl (Sl.cons_ ha278 rfl rfl (Sl.cons_ ha278 rfl (int_eq (by omega)) (Sl.cons_ ha278 rfl (int_eq (by omega)) (Sl.nil_ ha278))))))), hx271, ho51, hN53, ho69, hN71, (by omega), (by omega), (by omega), (by omega), (by simp), (by have h8 := absLen hE54; have h9 := absLen hE72; omega), (by have h8 := absLen hE54; omega), (by exact absLen hE54)⟩
           ·
            clear ha278 a278
            rintro ⟨i, q⟩ a285 w279 ⟨ha285, hx280, hf281, hf282, hf283, hf284, hzl286, hi, hq0, hq1, hT, hL, hL2, hL3⟩
            have hzhx280 := hx280.size
            refine wp_seq ?_
            refine wp_seq ?_
            refine wp_region_lit ?_
            refine wl_val ha285 rfl rfl rfl (op_move ha285 rfl rfl) ?_
            intro a287 ha287; clear ha285 a285
            refine wl_val ha287 rfl rfl rfl (op_move ha287 rfl rfl) ?_
            intro a288 ha288; clear ha287 a287
            refine wl_val ha288 rfl rfl rfl (op_len_sl ha288 rfl Try.underlying23 rfl (hf281.rds pos_shRowN)) ?_
            intro a289 ha289; clear ha288 a288
            refine wl_val ha289 rfl rfl rfl (op_lss ha289 rfl rfl rfl) ?_
            intro a290 ha290; clear ha289 a289
            refine wpList_nil ?_
            refine then_n ?_
            by_cases c291 : ((i : Nat) : Int) < ((z52.length : Nat) : Int)
            ·
             rw [decide_eq_true c291] at ha290
             refine cond_t ha290 rfl ?_
             refine wp_skip ?_
             refine then_n ?_
             refine wp_seq ?_
             refine wp_block ?_
             refine wp_seq ?_
             refine wp_region_lit ?_
             refine wl_val ha290 rfl rfl rfl (op_move ha290 rfl rfl) ?_
             intro a292 ha292; clear ha290 a290
             refine wl_val ha292 rfl rfl rfl (op_move ha292 rfl rfl) ?_
             intro a293 ha293; clear ha292 a292
             refine wl_val ha293 rfl rfl rfl (op_move ha293 rfl rfl) ?_
             intro a294 ha294; clear ha293 a293
             obtain ⟨x295, hx295⟩ := get_ex (xs := z70) (j := i) (by omega)
             obtain ⟨p296, c297, hi298, hc299, hr300, hs301⟩ := Rds.at_ (hf283.rds pos_shRowN) hx295
             obtain ⟨rfl, b302⟩ := inv_shRowN hr300
             have hn303 : Own shI64 2 w48.heap.size w48.heap.size w66.heap.size w279 x295.2 x295.1 := hf284.get hx295
             obtain ⟨_, _⟩ : _ ∧ _ := hs301
             have hgmx295 : x295.1 ∈ (grT ((q14)) (q15 : Int) (q16 : Int)) := (by rw [← hE72]; exact List.mem_map_of_mem (List.mem_of_getElem? hx295))
             have hgzx295 := hu2 _ hgmx295
             refine wl_val ha294 rfl rfl rfl (op_indexAddr ha294 rfl Try.underlying23 ti41 rfl rfl (by omega) hi298) ?_
             intro a304 ha304; clear ha294 a294
             refine wl_val ha304 rfl rfl rfl (op_loadH ha304 rfl Try.underlying41 rfl rfl hc299 rfl) ?_
             intro a305 ha305; clear ha304 a304
             obtain ⟨x306, hx306⟩ := get_ex (xs := x295.1) (j := 1) (by omega)
             obtain ⟨p307, c308, hi309, hc310, hr311, hs312⟩ := Rds.at_ (hn303.rds pos_shI64) hx306
             obtain ⟨rfl, b313⟩ := inv_shI64 hr311
             obtain ⟨_, _⟩ : _ ∧ _ := hs312
             have hrwx306 : rowC 1 x295.1 = x306 := rowC_eq (c := 1) hx306
             refine wl_val ha305 rfl rfl rfl (op_indexAddr ha305 rfl Try.underlying41 ti2 rfl rfl (by omega) hi309) ?_
             intro a314 ha314; clear ha305 a305
             refine wl_val ha314 rfl rfl rfl (op_loadH ha314 rfl Try.underlying2 rfl rfl hc310 rfl) ?_
             intro a315 ha315; clear ha314 a314
             refine wl_val ha315 rfl rfl rfl ((op_add ha315 rfl rfl rfl).int (IntWalk.i64_in _ (by omega))) ?_
             intro a316 ha316; clear ha315 a315
             refine wl_val ha316 rfl rfl rfl (op_assign ha316 rfl rfl) ?_
             intro a317 ha317; clear ha316 a316
             refine wpList_nil ?_
             refine then_n ?_
             refine wp_seq ?_
             clear hn303 hc299 hc310
             refine dr_enter Ext follows_mixed ?_
             intro w318 he319
             have hx320 := hx280.trans' he319
             have hzhx320 := he319.size
             replace hf281 := hf281.ext he319
             replace hf282 := hf282.ext he319
             replace hf283 := hf283.ext he319
             replace hf284 := hf284.ext he319
             have hs321 : Ext w318 w318 := Ext.rfl' _
             refine dr_val (i := 0) ha317 rfl (by kernel_rfl) (by kernel_rfl) (by kernel_rfl) rfl rfl rfl hs321 (fun w' hw' => op_move ha317 rfl rfl) ?_
             intro a322 ha322; clear ha317 a317
             refine dr_val (i := 1) ha322 rfl (by kernel_rfl) (by kernel_rfl) (by kernel_rfl) rfl rfl rfl hs321 (fun w' hw' => op_gtr ha322 rfl rfl rfl) ?_
             intro a323 ha323; clear ha322 a322
             refine dr_val (i := 2) ha323 rfl (by kernel_rfl) (by kernel_rfl) (by kernel_rfl) rfl rfl rfl hs321 (fun w' hw' => op_move ha323 rfl rfl) ?_
             intro a324 ha324; clear ha323 a323
             by_cases c325 : (0 : Int) < ((i : Nat) : Int)
             ·
              rw [decide_eq_true c325] at ha324
              refine dr_val (i := 3) ha324 rfl (by kernel_rfl) (by kernel_rfl) (by kernel_rfl) rfl rfl rfl hs321 (fun w' hw' => op_move ha324 rfl rfl) ?_
              intro a326 ha326; clear ha324 a324
              refine dr_val (i := 4) ha326 rfl (by kernel_rfl) (by kernel_rfl) (by kernel_rfl) rfl rfl rfl hs321 (fun w' hw' => op_move ha326 rfl rfl) ?_
              intro a327 ha327; clear ha326 a326
              obtain ⟨x328, hx328⟩ := get_ex (xs := z52) (j := i) (by omega)
              obtain ⟨p329, c330, hi331, hc332, hr333, hs334⟩ := Rds.at_ (hf281.rds pos_shRowN) hx328
              obtain ⟨rfl, b335⟩ := inv_shRowN hr333
              have hn336 : Own shI64 2 w37.heap.size w37.heap.size w48.heap.size w318 x328.2 x328.1 := hf282.get hx328
              obtain ⟨_, _⟩ : _ ∧ _ := hs334
              have hgmx328 : x328.1 ∈ (grT ((q14)) (q15 : Int) (q16 : Int)) := (by rw [← hE54]; exact List.mem_map_of_mem (List.mem_of_getElem? hx328))
              have hgzx328 := hu2 _ hgmx328
              refine dr_val (i := 5) ha327 rfl (by kernel_rfl) (by kernel_rfl) (by kernel_rfl) rfl rfl rfl hs321 (fun w' hw' => op_indexAddr ha327 rfl Try.underlying23 ti41 rfl rfl (by omega) hi331) ?_
              intro a337 ha337; clear ha327 a327
              refine dr_val (i := 6) ha337 rfl (by kernel_rfl) (by kernel_rfl) (by kernel_rfl) rfl rfl rfl hs321 (fun w' hw' => op_loadH ha337 rfl Try.underlying41 rfl rfl (hc332.ext hw') rfl) ?_
              intro a338 ha338; clear ha337 a337
              obtain ⟨x339, hx339⟩ := get_ex (xs := x328.1) (j := 0) (by omega)
              obtain ⟨p340, c341, hi342, hc343, hr344, hs345⟩ := Rds.at_ (hn336.rds pos_shI64) hx339
              obtain ⟨rfl, b346⟩ := inv_shI64 hr344
              obtain ⟨_, _⟩ : _ ∧ _ := hs345
              have hrwx339 : rowC 0 x328.1 = x339 := rowC_eq (c := 0) hx339
              refine dr_val (i := 7) ha338 rfl (by kernel_rfl) (by kernel_rfl) (by kernel_rfl) rfl rfl rfl hs321 (fun w' hw' => op_indexAddr ha338 rfl Try.underlying41 ti2 rfl rfl (by omega) hi342) ?_
              intro a347 ha347; clear ha338 a338
              refine dr_val (i := 8) ha347 rfl (by kernel_rfl) (by kernel_rfl) (by kernel_rfl) rfl rfl rfl hs321 (fun w' hw' => op_loadH ha347 rfl Try.underlying2 rfl rfl (hc343.ext hw') rfl) ?_
              intro a348 ha348; clear ha347 a347
              refine dr_val (i := 9) ha348 rfl (by kernel_rfl) (by kernel_rfl) (by kernel_rfl) rfl rfl rfl hs321 (fun w' hw' => op_move ha348 rfl rfl) ?_
              intro a349 ha349; clear ha348 a348
              refine dr_val (i := 10) ha349 rfl (by kernel_rfl) (by kernel_rfl) (by kernel_rfl) rfl rfl rfl hs321 (fun w' hw' => op_move ha349 rfl rfl) ?_
              intro a350 ha350; clear ha349 a349
              refine dr_val (i := 11) ha350 rfl (by kernel_rfl) (by kernel_rfl) (by kernel_rfl) rfl rfl rfl hs321 (fun w' hw' => (op_sub ha350 rfl rfl rfl).int (IntWalk.i64_in _ (by omega))) ?_
              intro a351 ha351; clear ha350 a350
              obtain ⟨x352, hx352⟩ := get_ex (xs := z52) (j := (i - 1)) (by omega)
              obtain ⟨p353, c354, hi355, hc356, hr357, hs358⟩ := Rds.at_ (hf281.rds pos_shRowN) hx352
              obtain ⟨rfl, b359⟩ := inv_shRowN hr357
              have hn360 : Own shI64 2 w37.heap.size w37.heap.size w48.heap.size w318 x352.2 x352.1 := hf282.get hx352
              obtain ⟨_, _⟩ : _ ∧ _ := hs358
              have hgmx352 : x352.1 ∈ (grT ((q14)) (q15 : Int) (q16 : Int)) := (by rw [← hE54]; exact List.mem_map_of_mem (List.mem_of_getElem? hx352))
              have hgzx352 := hu2 _ hgmx352
              refine dr_val (i := 12) ha351 rfl (by kernel_rfl) (by kernel_rfl) (by kernel_rfl) rfl rfl rfl hs321 (fun w' hw' => op_indexAddr ha351 rfl Try.underlying23 ti41 rfl rfl (by omega) hi355) ?_
              intro a361 ha361; clear ha351 a351
              refine dr_val (i := 13) ha361 rfl (by kernel_rfl) (by kernel_rfl) (by kernel_rfl) rfl rfl rfl hs321 (fun w' hw' => op_loadH ha361 rfl Try.underlying41 rfl rfl (hc356.ext hw') rfl) ?_
              intro a362 ha362; clear ha361 a361
              obtain ⟨x363, hx363⟩ := get_ex (xs := x352.1) (j := 0) (by omega)
              obtain ⟨p364, c365, hi366, hc367, hr368, hs369⟩ := Rds.at_ (hn360.rds pos_shI64) hx363
              obtain ⟨rfl, b370⟩ := inv_shI64 hr368
              obtain ⟨_, _⟩ : _ ∧ _ := hs369
              have hrwx363 : rowC 0 x352.1 = x363 := rowC_eq (c := 0) hx363
              refine dr_val (i := 14) ha362 rfl (by kernel_rfl) (by kernel_rfl) (by kernel_rfl) rfl rfl rfl hs321 (fun w' hw' => op_indexAddr ha362 rfl Try.underlying41 ti2 rfl rfl (by omega) hi366) ?_
              intro a371 ha371; clear ha362 a362
              refine dr_val (i := 15) ha371 rfl (by kernel_rfl) (by kernel_rfl) (by kernel_rfl) rfl rfl rfl hs321 (fun w' hw' => op_loadH ha371 rfl Try.underlying2 rfl rfl (hc367.ext hw') rfl) ?_
              intro a372 ha372; clear ha371 a371
              refine dr_val (i := 16) ha372 rfl (by kernel_rfl) (by kernel_rfl) (by kernel_rfl) rfl rfl rfl hs321 (fun w' hw' => op_leq ha372 rfl rfl rfl) ?_
              intro a373 ha373; clear ha372 a372
              refine dr_val (i := 17) ha373 rfl (by kernel_rfl) (by kernel_rfl) (by kernel_rfl) rfl rfl rfl hs321 (fun w' hw' => op_pick_t ha373 rfl rfl rfl) ?_
              intro a374 ha374; clear ha373 a373
              refine dr_end (by kernel_rfl) ?_
              replace hf281 := hf281.ext hs321
              replace hf282 := hf282.ext hs321
              replace hf283 := hf283.ext hs321
              replace hf284 := hf284.ext hs321
              replace hn336 := hn336.ext hs321
              replace hc332 := hc332.ext hs321
              replace hc343 := hc343.ext hs321
              replace hn360 := hn360.ext hs321
              replace hc356 := hc356.ext hs321
              replace hc367 := hc367.ext hs321
              refine then_n ?_
              by_cases c375 : x339 ≤ x363
              ·
               rw [decide_eq_true c375] at ha374
               refine cond_t ha374 rfl ?_
               refine wp_seq ?_
               clear hf281 hf282 hf283 hf284 hn336 hc332 hc343 hn360 hc356 hc367
               refine wp_region_lit ?_
               refine wl_val ha374 rfl rfl rfl (op_assign ha374 rfl rfl) ?_
               intro a376 ha376; clear ha374 a374
               refine wpList_nil ?_
               refine then_n ?_
               refine wp_ret ?_
               refine block_r ?_
               refine then_r ?_
               refine then_r ?_
               refine block_r ?_
               refine then_r ?_
               refine ret1 ha376 rfl rfl ?_
               clear ha376 a376
               exact ret_mk hx320 (congrArg Value.bool (by first | rfl | (simp at c220; done) | (simp at c8; done) | (exfalso; have h8 := upG_at hu1 (show i - 1 < i by omega) (abs_get hE54 hx352) (abs_get hE54 hx328); omega) | omega))
              ·
               rw [decide_eq_false c375] at ha374
               refine cond_f ha374 rfl ?_
               refine wp_skip ?_
               refine block_n ?_
               refine then_n ?_
               clear hn336 hc332 hc343 hn360 hc356 hc367
               refine wp_region_lit ?_
               refine wl_val ha374 rfl rfl rfl (op_move ha374 rfl rfl) ?_
               intro a377 ha377; clear ha374 a374
               refine wl_val ha377 rfl rfl rfl ((op_add ha377 rfl rfl rfl).int (IntWalk.i64_in _ (by omega))) ?_
               intro a378 ha378; clear ha377 a377
               refine wl_val ha378 rfl rfl rfl (op_assign ha378 rfl rfl) ?_
               intro a379 ha379; clear ha378 a378
               refine wpList_nil ?_
               refine round_end (x := (i, q)) ((i + 1), (q + x306)) ?_ ?_
               ·
                refine ⟨(Sl.cons_ ha379 rfl rfl (Sl.cons_ ha379 rfl rfl (Sl.cons_ ha379 rfl rfl (Sl.cons_ ha379 rfl rfl (Sl.cons_ ha379 rfl (int_eq (by omega)) (Sl.cons_ ha379 rfl (int_eq (by omega)) (Sl.nil_ ha379))))))), hx320, hf281, hf282, hf283, hf284, (by omega), (by omega), (by omega), (by omega), (by have h9 := abs_get hE72 hx295; rw [drop_cons h9, sumI, hrwx306] at hT; omega), (by exact hL), (by exact hL2), (by exact hL3)⟩
               ·show (z52.length - ((i + 1)) : Nat) < z52.length - i; omega
             ·
              rw [decide_eq_false c325] at ha324
              refine dr_skip (i := 3) ha324 rfl (by kernel_rfl) (by kernel_rfl) (by kernel_rfl) rfl rfl rfl hs321 ?_
              intro a380 ha380; clear ha324 a324
              refine dr_skip (i := 4) ha380 rfl (by kernel_rfl) (by kernel_rfl) (by kernel_rfl) rfl rfl rfl hs321 ?_
              intro a381 ha381; clear ha380 a380
              refine dr_skip (i := 5) ha381 rfl (by kernel_rfl) (by kernel_rfl) (by kernel_rfl) rfl rfl rfl hs321 ?_
              intro a382 ha382; clear ha381 a381
              refine dr_skip (i := 6) ha382 rfl (by kernel_rfl) (by kernel_rfl) (by kernel_rfl) rfl rfl rfl hs321 ?_
              intro a383 ha383; clear ha382 a382
              refine dr_skip (i := 7) ha383 rfl (by kernel_rfl) (by kernel_rfl) (by kernel_rfl) rfl rfl rfl hs321 ?_
              intro a384 ha384; clear ha383 a383
              refine dr_skip (i := 8) ha384 rfl (by kernel_rfl) (by kernel_rfl) (by kernel_rfl) rfl rfl rfl hs321 ?_
              intro a385 ha385; clear ha384 a384
              refine dr_skip (i := 9) ha385 rfl (by kernel_rfl) (by kernel_rfl) (by kernel_rfl) rfl rfl rfl hs321 ?_
              intro a386 ha386; clear ha385 a385
              refine dr_skip (i := 10) ha386 rfl (by kernel_rfl) (by kernel_rfl) (by kernel_rfl) rfl rfl rfl hs321 ?_
              intro a387 ha387; clear ha386 a386
              refine dr_skip (i := 11) ha387 rfl (by kernel_rfl) (by kernel_rfl) (by kernel_rfl) rfl rfl rfl hs321 ?_
              intro a388 ha388; clear ha387 a387
              refine dr_skip (i := 12) ha388 rfl (by kernel_rfl) (by kernel_rfl) (by kernel_rfl) rfl rfl rfl hs321 ?_
              intro a389 ha389; clear ha388 a388
              refine dr_skip (i := 13) ha389 rfl (by kernel_rfl) (by kernel_rfl) (by kernel_rfl) rfl rfl rfl hs321 ?_
              intro a390 ha390; clear ha389 a389
              refine dr_skip (i := 14) ha390 rfl (by kernel_rfl) (by kernel_rfl) (by kernel_rfl) rfl rfl rfl hs321 ?_
              intro a391 ha391; clear ha390 a390
              refine dr_skip (i := 15) ha391 rfl (by kernel_rfl) (by kernel_rfl) (by kernel_rfl) rfl rfl rfl hs321 ?_
              intro a392 ha392; clear ha391 a391
              refine dr_skip (i := 16) ha392 rfl (by kernel_rfl) (by kernel_rfl) (by kernel_rfl) rfl rfl rfl hs321 ?_
              intro a393 ha393; clear ha392 a392
              refine dr_val (i := 17) ha393 rfl (by kernel_rfl) (by kernel_rfl) (by kernel_rfl) rfl rfl rfl hs321 (fun w' hw' => op_pick_f ha393 rfl rfl rfl) ?_
              intro a394 ha394; clear ha393 a393
              refine dr_end (by kernel_rfl) ?_
              replace hf281 := hf281.ext hs321
              replace hf282 := hf282.ext hs321
              replace hf283 := hf283.ext hs321
              replace hf284 := hf284.ext hs321
              refine then_n ?_
              refine cond_f ha394 rfl ?_
              refine wp_skip ?_
              refine block_n ?_
              refine then_n ?_
              refine wp_region_lit ?_
              refine wl_val ha394 rfl rfl rfl (op_move ha394 rfl rfl) ?_
              intro a395 ha395; clear ha394 a394
              refine wl_val ha395 rfl rfl rfl ((op_add ha395 rfl rfl rfl).int (IntWalk.i64_in _ (by omega))) ?_
              intro a396 ha396; clear ha395 a395
              refine wl_val ha396 rfl rfl rfl (op_assign ha396 rfl rfl) ?_
              intro a397 ha397; clear ha396 a396
              refine wpList_nil ?_
              refine round_end (x := (i, q)) ((i + 1), (q + x306)) ?_ ?_
              ·
               refine ⟨(Sl.cons_ ha397 rfl rfl (Sl.cons_ ha397 rfl rfl (Sl.cons_ ha397 rfl rfl (Sl.cons_ ha397 rfl rfl (Sl.cons_ ha397 rfl (int_eq (by omega)) (Sl.cons_ ha397 rfl (int_eq (by omega)) (Sl.nil_ ha397))))))), hx320, hf281, hf282, hf283, hf284, (by omega), (by omega), (by omega), (by omega), (by have h9 := abs_get hE72 hx295; rw [drop_cons h9, sumI, hrwx306] at hT; omega), (by exact hL), (by exact hL2), (by exact hL3)⟩
              ·show (z52.length - ((i + 1)) : Nat) < z52.length - i; omega
            ·
             rw [decide_eq_false c291] at ha290
             refine cond_f ha290 rfl ?_
             refine wp_exit ?_
             refine then_e ?_
             refine then_e ?_
             refine block_hit ?_
             refine then_n ?_
             refine wp_seq ?_
             clear hf281 hf282 hf283 hf284
             refine wp_region_lit ?_
             refine wl_val ha290 rfl rfl rfl (op_move ha290 rfl rfl) ?_
             intro a398 ha398; clear ha290 a290
             refine wl_val ha398 rfl rfl rfl (op_eql ha398 rfl rfl rfl) ?_
             intro a399 ha399; clear ha398 a398
             refine wl_val ha399 rfl rfl rfl (op_move ha399 rfl rfl) ?_
             intro a400 ha400; clear ha399 a399
             by_cases c401 : (cdT ((q14)) (q16 : Int) : Int) = (0 : Int)
             ·
              rw [decide_eq_true c401] at ha400
              refine wl_val ha400 rfl rfl rfl (op_move ha400 rfl rfl) ?_
              intro a402 ha402; clear ha400 a400
              refine wl_val ha402 rfl rfl rfl (op_move ha402 rfl rfl) ?_
              intro a403 ha403; clear ha402 a402
              refine wl_val ha403 rfl rfl rfl (op_eql ha403 rfl rfl rfl) ?_
              intro a404 ha404; clear ha403 a403
              refine wl_val ha404 rfl rfl rfl (op_pick_t ha404 rfl rfl rfl) ?_
              intro a405 ha405; clear ha404 a404
              refine wl_val ha405 rfl rfl rfl (op_assign ha405 rfl rfl) ?_
              intro a406 ha406; clear ha405 a405
              refine wpList_nil ?_
              refine then_n ?_
              refine wp_ret ?_
              refine ret1 ha406 rfl rfl ?_
              clear ha406 a406
              exact ret_mk hx280 (congrArg Value.bool (by first | rfl | (simp at c220; done) | (simp at c8; done) | (rw [drop_nil (by omega)] at hT; simp only [sumI] at hT; rw [if_pos hu5, decide_eq_true_eq]; omega) | omega))
             ·
              rw [decide_eq_false c401] at ha400
              refine wl_skip ha400 rfl rfl rfl ?_
              intro a407 ha407; clear ha400 a400
              refine wl_skip ha407 rfl rfl rfl ?_
              intro a408 ha408; clear ha407 a407
              refine wl_skip ha408 rfl rfl rfl ?_
              intro a409 ha409; clear ha408 a408
              refine wl_val ha409 rfl rfl rfl (op_pick_f ha409 rfl rfl rfl) ?_
              intro a410 ha410; clear ha409 a409
              refine wl_val ha410 rfl rfl rfl (op_assign ha410 rfl rfl) ?_
              intro a411 ha411; clear ha410 a410
              refine wpList_nil ?_
              refine then_n ?_
              refine wp_ret ?_
              refine ret1 ha411 rfl rfl ?_
              clear ha411 a411
              exact ret_mk hx280 (congrArg Value.bool (by first | rfl | (exact absurd rfl c401) | (simp at c220; done) | (simp at c8; done) | (rw [drop_nil (by omega)] at hT; simp only [sumI] at hT; rw [if_pos hu5, decide_eq_true_eq]; omega) | omega))
          ·
           rw [decide_eq_false c264] at ha263
           refine cond_t ha263 rfl ?_
           refine wp_seq ?_
           clear ho18 ho20 hN22 hb39 ho51 hN53 ho69 hN71
           refine wp_region_lit ?_
           refine wl_val ha263 rfl rfl rfl (op_assign ha263 rfl rfl) ?_
           intro a412 ha412; clear ha263 a263
           refine wpList_nil ?_
           refine then_n ?_
           refine wp_ret ?_
           refine then_r ?_
           refine ret1 ha412 rfl rfl ?_
           clear ha412 a412
           exact ret_mk hx229 (congrArg Value.bool (by first | rfl | (exact absurd rfl c264) | (simp at c220; done) | (simp at c8; done) | omega | omega))
        ·
         rw [decide_eq_false c247] at ha246
         refine wl_skip ha246 rfl rfl rfl ?_
         intro a413 ha413; clear ha246 a246
         refine wl_skip ha413 rfl rfl rfl ?_
         intro a414 ha414; clear ha413 a413
         refine wl_skip ha414 rfl rfl rfl ?_
         intro a415 ha415; clear ha414 a414
         refine wl_skip ha415 rfl rfl rfl ?_
         intro a416 ha416; clear ha415 a415
         refine wl_skip ha416 rfl rfl rfl ?_
         intro a417 ha417; clear ha416 a416
         refine wl_skip ha417 rfl rfl rfl ?_
         intro a418 ha418; clear ha417 a417
         refine wl_skip ha418 rfl rfl rfl ?_
         intro a419 ha419; clear ha418 a418
         refine wl_skip ha419 rfl rfl rfl ?_
         intro a420 ha420; clear ha419 a419
         refine wl_skip ha420 rfl rfl rfl ?_
         intro a421 ha421; clear ha420 a420
         refine wl_skip ha421 rfl rfl rfl ?_
         intro a422 ha422; clear ha421 a421
         refine wl_skip ha422 rfl rfl rfl ?_
         intro a423 ha423; clear ha422 a422
         refine wl_val ha423 rfl rfl rfl (op_pick_t ha423 rfl rfl rfl) ?_
         intro a424 ha424; clear ha423 a423
         refine wpList_nil ?_
         refine then_n ?_
         refine cond_t ha424 rfl ?_
         refine wp_seq ?_
         clear ho18 ho20 hN22 hb39 ho51 hN53 ho69 hN71 ho87 ho89 hN91 ho94 ho96 hN98 hb121 hb126 ho135 ho137 hN139 hb155
         refine wp_region_lit ?_
         refine wl_val ha424 rfl rfl rfl (op_assign ha424 rfl rfl) ?_
         intro a425 ha425; clear ha424 a424
         refine wpList_nil ?_
         refine then_n ?_
         refine wp_ret ?_
         refine then_r ?_
         refine ret1 ha425 rfl rfl ?_
         clear ha425 a425
         exact ret_mk hx229 (congrArg Value.bool (by first | rfl | (exact absurd rfl c247) | (simp at c220; done) | (simp at c8; done) | omega | omega))
       ·
        rw [c232] at ha231
        refine wl_skip ha231 rfl rfl rfl ?_
        intro a426 ha426; clear ha231 a231
        refine wl_skip ha426 rfl rfl rfl ?_
        intro a427 ha427; clear ha426 a426
        refine wl_skip ha427 rfl rfl rfl ?_
        intro a428 ha428; clear ha427 a427
        refine wl_skip ha428 rfl rfl rfl ?_
        intro a429 ha429; clear ha428 a428
        refine wl_skip ha429 rfl rfl rfl ?_
        intro a430 ha430; clear ha429 a429
        refine wl_skip ha430 rfl rfl rfl ?_
        intro a431 ha431; clear ha430 a430
        refine wl_skip ha431 rfl rfl rfl ?_
        intro a432 ha432; clear ha431 a431
        refine wl_skip ha432 rfl rfl rfl ?_
        intro a433 ha433; clear ha432 a432
        refine wl_skip ha433 rfl rfl rfl ?_
        intro a434 ha434; clear ha433 a433
        refine wl_skip ha434 rfl rfl rfl ?_
        intro a435 ha435; clear ha434 a434
        refine wl_skip ha435 rfl rfl rfl ?_
        intro a436 ha436; clear ha435 a435
        refine wl_skip ha436 rfl rfl rfl ?_
        intro a437 ha437; clear ha436 a436
        refine wl_val ha437 rfl rfl rfl (op_pick_t ha437 rfl rfl rfl) ?_
        intro a438 ha438; clear ha437 a437
        refine wl_val ha438 rfl rfl rfl (op_move ha438 rfl rfl) ?_
        intro a439 ha439; clear ha438 a438
        refine wl_skip ha439 rfl rfl rfl ?_
        intro a440 ha440; clear ha439 a439
        refine wl_skip ha440 rfl rfl rfl ?_
        intro a441 ha441; clear ha440 a440
        refine wl_skip ha441 rfl rfl rfl ?_
        intro a442 ha442; clear ha441 a441
        refine wl_skip ha442 rfl rfl rfl ?_
        intro a443 ha443; clear ha442 a442
        refine wl_skip ha443 rfl rfl rfl ?_
        intro a444 ha444; clear ha443 a443
        refine wl_skip ha444 rfl rfl rfl ?_
        intro a445 ha445; clear ha444 a444
        refine wl_skip ha445 rfl rfl rfl ?_
        intro a446 ha446; clear ha445 a445
        refine wl_skip ha446 rfl rfl rfl ?_
        intro a447 ha447; clear ha446 a446
        refine wl_skip ha447 rfl rfl rfl ?_
        intro a448 ha448; clear ha447 a447
        refine wl_skip ha448 rfl rfl rfl ?_
        intro a449 ha449; clear ha448 a448
        refine wl_skip ha449 rfl rfl rfl ?_
        intro a450 ha450; clear ha449 a449
        refine wl_val ha450 rfl rfl rfl (op_pick_t ha450 rfl rfl rfl) ?_
        intro a451 ha451; clear ha450 a450
        refine wpList_nil ?_
        refine then_n ?_
        refine cond_t ha451 rfl ?_
        refine wp_seq ?_
        clear ho18 ho20 hN22 hb39 ho51 hN53 ho69 hN71 ho87 ho89 hN91 ho94 ho96 hN98 hb121 hb126 ho135 ho137 hN139 hb155
        refine wp_region_lit ?_
        refine wl_val ha451 rfl rfl rfl (op_assign ha451 rfl rfl) ?_
        intro a452 ha452; clear ha451 a451
        refine wpList_nil ?_
        refine then_n ?_
        refine wp_ret ?_
        refine then_r ?_
        refine ret1 ha452 rfl rfl ?_
        clear ha452 a452
        exact ret_mk hx229 (congrArg Value.bool (by first | rfl | (simp at c220; done) | (simp at c8; done) | (exact absurd hj1 (by rw [c232]; decide)) | omega))
      ·
       rw [decide_eq_false c223] at ha222
       refine cond_f ha222 rfl ?_
       refine wp_skip ?_
       refine then_n ?_
       refine wp_seq ?_
       refine wp_seq ?_
       clear ho87 ho89 hN91 ho94 ho96 hN98 hb121 hb126 ho135 ho137 hN139 hb155
       refine wp_region_lit ?_
       refine wl_val ha222 rfl rfl rfl (op_move ha222 rfl rfl) ?_
       intro a453 ha453; clear ha222 a222
       refine wl_val ha453 rfl rfl rfl ((op_neq ha453 rfl rfl rfl).to (congrArg Value.bool decide_not)) ?_
       intro a454 ha454; clear ha453 a453
       refine wpList_nil ?_
       refine then_n ?_
       by_cases c455 : (cdG ((q14)) (q15 : Int) (q16 : Int) : Int) = (0 : Int)
       ·
        rw [decide_eq_true c455] at ha454
        obtain ⟨hu1, hu2, hu3, hu4, hu5⟩ := gr_all c455
        refine cond_f ha454 rfl ?_
        refine wp_skip ?_
        refine then_n ?_
        refine wp_seq ?_
        refine wp_region_lit ?_
        refine wl_val ha454 rfl rfl rfl (op_loadS ha454 rfl Try.underlying28 ti28 rfl rfl hb39.cells) ?_
        intro a456 ha456; clear ha454 a454
        refine wl_val ha456 rfl rfl rfl (op_move ha456 rfl rfl) ?_
        intro a457 ha457; clear ha456 a456
        refine wl_callR ha457 rfl rfl rfl (op_call ha457 rfl cb22 rfl) (c_impl_SumColumn _ u17 u19 ((q14)) (q16 : Int) (ho18.rds pos_shStr) ((rds_shRowN (ho20.fin (by omega) (by omega) (by omega)) hN22).cast hE23)) ?_
        rintro v458 w459 he460 rfl a461 ha461; clear ha457 a457
        have hx462 := hx217.trans' he460
        have hzhx462 := he460.size
        replace ho18 := ho18.ext he460
        replace ho20 := ho20.ext he460
        replace hN22 := hN22.ext he460
        replace hb39 := hb39.ext he460
        replace ho51 := ho51.ext he460
        replace hN53 := hN53.ext he460
        replace ho69 := ho69.ext he460
        replace hN71 := hN71.ext he460
        refine wl_val ha461 rfl rfl rfl (op_move ha461 rfl rfl) ?_
        intro a463 ha463; clear ha461 a461
        refine wl_val ha463 rfl rfl rfl (op_extract ha463 rfl rfl rfl) ?_
        intro a464 ha464; clear ha463 a463
        refine wl_val ha464 rfl rfl rfl (op_extract ha464 rfl rfl rfl) ?_
        intro a465 ha465; clear ha464 a464
        refine wl_val ha465 rfl rfl rfl (op_assign ha465 rfl rfl) ?_
        intro a466 ha466; clear ha465 a465
        refine wl_val ha466 rfl rfl rfl (op_assign ha466 rfl rfl) ?_
        intro a467 ha467; clear ha466 a466
        refine wpList_nil ?_
        refine then_n ?_
        refine wp_seq ?_
        clear ho18 ho20 hN22 hb39
        refine wp_region_lit ?_
        refine wl_val ha467 rfl rfl rfl (op_assign ha467 rfl rfl) ?_
        intro a468 ha468; clear ha467 a467
        refine wpList_nil ?_
        refine then_n ?_
        refine wp_seq ?_
        refine wp_seq ?_
        refine wp_region_lit ?_
        refine wl_val ha468 rfl rfl rfl (op_assign ha468 rfl rfl) ?_
        intro a469 ha469; clear ha468 a468
        refine wpList_nil ?_
        refine then_n ?_
        refine wp_block ?_
        refine loop_inv (X := Nat × Int) (fun (⟨i, q⟩ : Nat × Int) fr wl => Sl 158 fr [(6, u50), (8, u68), (16, .int .i64 (if cdT ((q14)) (q16 : Int) = 0 then sumI (rowC (q16 : Int)) ((q14)).2 else 0 : Int)), (17, .int .i64 (cdT ((q14)) (q16 : Int) : Int)), (18, .int .i64 q), (19, .int .i64 ((i : Nat) : Int))] ∧ Ext w0 wl ∧ Own shRowN 41 w37.heap.size w37.heap.size w48.heap.size wl u50 z52 ∧ Nst shI64 2 (fun x : List Int => x) w37.heap.size w48.heap.size wl z52 ∧ Own shRowN 41 w48.heap.size w48.heap.size w66.heap.size wl u68 z70 ∧ Nst shI64 2 (fun x : List Int => x) w48.heap.size w66.heap.size wl z70 ∧ w459.heap.size ≤ wl.heap.size ∧ (i ≤ z52.length) ∧ (-20000000000000 * (i : Int) ≤ q) ∧ (q ≤ 20000000000000 * (i : Int)) ∧ (q + sumI (rowC 1) ((grT ((q14)) (q15 : Int) (q16 : Int)).drop i) = sumI (rowC 1) (grT ((q14)) (q15 : Int) (q16 : Int))) ∧ (z52.length = z70.length) ∧ (z52.length ≤ 20) ∧ (z52.length = (grT ((q14)) (q15 : Int) (q16 : Int)).length)) (fun (⟨i, q⟩ : Nat × Int) => z52.length - i) (0, (0 : Int)) ?_ ?_
        ·
         exact ⟨(Sl.cons_ ha469 rfl rfl (Sl.cons_ ha469 rfl rfl (Sl.cons_ ha469 rfl rfl (Sl.cons_ ha469 rfl rfl (Sl.cons_ ha469 rfl (int_eq (by omega)) (Sl.cons_ ha469 rfl (int_eq (by omega)) (Sl.nil_ ha469))))))), hx462, ho51, hN53, ho69, hN71, (by omega), (by omega), (by omega), (by omega), (by simp), (by have h8 := absLen hE54; have h9 := absLen hE72; omega), (by have h8 := absLen hE54; omega), (by exact absLen hE54)⟩
        ·
         clear ha469 a469
         rintro ⟨i, q⟩ a476 w470 ⟨ha476, hx471, hf472, hf473, hf474, hf475, hzl477, hi, hq0, hq1, hT, hL, hL2, hL3⟩
         have hzhx471 := hx471.size
         refine wp_seq ?_
         refine wp_seq ?_
         refine wp_region_lit ?_
         refine wl_val ha476 rfl rfl rfl (op_move ha476 rfl rfl) ?_
         intro a478 ha478; clear ha476 a476
         refine wl_val ha478 rfl rfl rfl (op_move ha478 rfl rfl) ?_
         intro a479 ha479; clear ha478 a478
         refine wl_val ha479 rfl rfl rfl (op_len_sl ha479 rfl Try.underlying23 rfl (hf472.rds pos_shRowN)) ?_
         intro a480 ha480; clear ha479 a479
         refine wl_val ha480 rfl rfl rfl (op_lss ha480 rfl rfl rfl) ?_
         intro a481 ha481; clear ha480 a480
         refine wpList_nil ?_
         refine then_n ?_
         by_cases c482 : ((i : Nat) : Int) < ((z52.length : Nat) : Int)
         ·
          rw [decide_eq_true c482] at ha481
          refine cond_t ha481 rfl ?_
          refine wp_skip ?_
          refine then_n ?_
          refine wp_seq ?_
          refine wp_block ?_
          refine wp_seq ?_
          refine wp_region_lit ?_
          refine wl_val ha481 rfl rfl rfl (op_move ha481 rfl rfl) ?_
          intro a483 ha483; clear ha481 a481
          refine wl_val ha483 rfl rfl rfl (op_move ha483 rfl rfl) ?_
          intro a484 ha484; clear ha483 a483
          refine wl_val ha484 rfl rfl rfl (op_move ha484 rfl rfl) ?_
          intro a485 ha485; clear ha484 a484
          obtain ⟨x486, hx486⟩ := get_ex (xs := z70) (j := i) (by omega)
          obtain ⟨p487, c488, hi489, hc490, hr491, hs492⟩ := Rds.at_ (hf474.rds pos_shRowN) hx486
          obtain ⟨rfl, b493⟩ := inv_shRowN hr491
          have hn494 : Own shI64 2 w48.heap.size w48.heap.size w66.heap.size w470 x486.2 x486.1 := hf475.get hx486
          obtain ⟨_, _⟩ : _ ∧ _ := hs492
          have hgmx486 : x486.1 ∈ (grT ((q14)) (q15 : Int) (q16 : Int)) := (by rw [← hE72]; exact List.mem_map_of_mem (List.mem_of_getElem? hx486))
          have hgzx486 := hu2 _ hgmx486
          refine wl_val ha485 rfl rfl rfl (op_indexAddr ha485 rfl Try.underlying23 ti41 rfl rfl (by omega) hi489) ?_
          intro a495 ha495; clear ha485 a485
          refine wl_val ha495 rfl rfl rfl (op_loadH ha495 rfl Try.underlying41 rfl rfl hc490 rfl) ?_
          intro a496 ha496; clear ha495 a495
          obtain ⟨x497, hx497⟩ := get_ex (xs := x486.1) (j := 1) (by omega)
          obtain ⟨p498, c499, hi500, hc501, hr502, hs503⟩ := Rds.at_ (hn494.rds pos_shI64) hx497
          obtain ⟨rfl, b504⟩ := inv_shI64 hr502
          obtain ⟨_, _⟩ : _ ∧ _ := hs503
          have hrwx497 : rowC 1 x486.1 = x497 := rowC_eq (c := 1) hx497
          refine wl_val ha496 rfl rfl rfl (op_indexAddr ha496 rfl Try.underlying41 ti2 rfl rfl (by omega) hi500) ?_
          intro a505 ha505; clear ha496 a496
          refine wl_val ha505 rfl rfl rfl (op_loadH ha505 rfl Try.underlying2 rfl rfl hc501 rfl) ?_
          intro a506 ha506; clear ha505 a505
          refine wl_val ha506 rfl rfl rfl ((op_add ha506 rfl rfl rfl).int (IntWalk.i64_in _ (by omega))) ?_
          intro a507 ha507; clear ha506 a506
          refine wl_val ha507 rfl rfl rfl (op_assign ha507 rfl rfl) ?_
          intro a508 ha508; clear ha507 a507
          refine wpList_nil ?_
          refine then_n ?_
          refine wp_seq ?_
          clear hn494 hc490 hc501
          refine dr_enter Ext follows_mixed ?_
          intro w509 he510
          have hx511 := hx471.trans' he510
          have hzhx511 := he510.size
          replace hf472 := hf472.ext he510
          replace hf473 := hf473.ext he510
          replace hf474 := hf474.ext he510
          replace hf475 := hf475.ext he510
          have hs512 : Ext w509 w509 := Ext.rfl' _
          refine dr_val (i := 0) ha508 rfl (by kernel_rfl) (by kernel_rfl) (by kernel_rfl) rfl rfl rfl hs512 (fun w' hw' => op_move ha508 rfl rfl) ?_
          intro a513 ha513; clear ha508 a508
          refine dr_val (i := 1) ha513 rfl (by kernel_rfl) (by kernel_rfl) (by kernel_rfl) rfl rfl rfl hs512 (fun w' hw' => op_gtr ha513 rfl rfl rfl) ?_
          intro a514 ha514; clear ha513 a513
          refine dr_val (i := 2) ha514 rfl (by kernel_rfl) (by kernel_rfl) (by kernel_rfl) rfl rfl rfl hs512 (fun w' hw' => op_move ha514 rfl rfl) ?_
          intro a515 ha515; clear ha514 a514
          by_cases c516 : (0 : Int) < ((i : Nat) : Int)
          ·
           rw [decide_eq_true c516] at ha515
           refine dr_val (i := 3) ha515 rfl (by kernel_rfl) (by kernel_rfl) (by kernel_rfl) rfl rfl rfl hs512 (fun w' hw' => op_move ha515 rfl rfl) ?_
           intro a517 ha517; clear ha515 a515
           refine dr_val (i := 4) ha517 rfl (by kernel_rfl) (by kernel_rfl) (by kernel_rfl) rfl rfl rfl hs512 (fun w' hw' => op_move ha517 rfl rfl) ?_
           intro a518 ha518; clear ha517 a517
           obtain ⟨x519, hx519⟩ := get_ex (xs := z52) (j := i) (by omega)
           obtain ⟨p520, c521, hi522, hc523, hr524, hs525⟩ := Rds.at_ (hf472.rds pos_shRowN) hx519
           obtain ⟨rfl, b526⟩ := inv_shRowN hr524
           have hn527 : Own shI64 2 w37.heap.size w37.heap.size w48.heap.size w509 x519.2 x519.1 := hf473.get hx519
           obtain ⟨_, _⟩ : _ ∧ _ := hs525
           have hgmx519 : x519.1 ∈ (grT ((q14)) (q15 : Int) (q16 : Int)) := (by rw [← hE54]; exact List.mem_map_of_mem (List.mem_of_getElem? hx519))
           have hgzx519 := hu2 _ hgmx519
           refine dr_val (i := 5) ha518 rfl (by kernel_rfl) (by kernel_rfl) (by kernel_rfl) rfl rfl rfl hs512 (fun w' hw' => op_indexAddr ha518 rfl Try.underlying23 ti41 rfl rfl (by omega) hi522) ?_
           intro a528 ha528; clear ha518 a518
           refine dr_val (i := 6) ha528 rfl (by kernel_rfl) (by kernel_rfl) (by kernel_rfl) rfl rfl rfl hs512 (fun w' hw' => op_loadH ha528 rfl Try.underlying41 rfl rfl (hc523.ext hw') rfl) ?_
           intro a529 ha529; clear ha528 a528
           obtain ⟨x530, hx530⟩ := get_ex (xs := x519.1) (j := 0) (by omega)
           obtain ⟨p531, c532, hi533, hc534, hr535, hs536⟩ := Rds.at_ (hn527.rds pos_shI64) hx530
           obtain ⟨rfl, b537⟩ := inv_shI64 hr535
           obtain ⟨_, _⟩ : _ ∧ _ := hs536
           have hrwx530 : rowC 0 x519.1 = x530 := rowC_eq (c := 0) hx530
           refine dr_val (i := 7) ha529 rfl (by kernel_rfl) (by kernel_rfl) (by kernel_rfl) rfl rfl rfl hs512 (fun w' hw' => op_indexAddr ha529 rfl Try.underlying41 ti2 rfl rfl (by omega) hi533) ?_
           intro a538 ha538; clear ha529 a529
           refine dr_val (i := 8) ha538 rfl (by kernel_rfl) (by kernel_rfl) (by kernel_rfl) rfl rfl rfl hs512 (fun w' hw' => op_loadH ha538 rfl Try.underlying2 rfl rfl (hc534.ext hw') rfl) ?_
           intro a539 ha539; clear ha538 a538
           refine dr_val (i := 9) ha539 rfl (by kernel_rfl) (by kernel_rfl) (by kernel_rfl) rfl rfl rfl hs512 (fun w' hw' => op_move ha539 rfl rfl) ?_
           intro a540 ha540; clear ha539 a539
           refine dr_val (i := 10) ha540 rfl (by kernel_rfl) (by kernel_rfl) (by kernel_rfl) rfl rfl rfl hs512 (fun w' hw' => op_move ha540 rfl rfl) ?_
           intro a541 ha541; clear ha540 a540
           refine dr_val (i := 11) ha541 rfl (by kernel_rfl) (by kernel_rfl) (by kernel_rfl) rfl rfl rfl hs512 (fun w' hw' => (op_sub ha541 rfl rfl rfl).int (IntWalk.i64_in _ (by omega))) ?_
           intro a542 ha542; clear ha541 a541
           obtain ⟨x543, hx543⟩ := get_ex (xs := z52) (j := (i - 1)) (by omega)
           obtain ⟨p544, c545, hi546, hc547, hr548, hs549⟩ := Rds.at_ (hf472.rds pos_shRowN) hx543
           obtain ⟨rfl, b550⟩ := inv_shRowN hr548
           have hn551 : Own shI64 2 w37.heap.size w37.heap.size w48.heap.size w509 x543.2 x543.1 := hf473.get hx543
           obtain ⟨_, _⟩ : _ ∧ _ := hs549
           have hgmx543 : x543.1 ∈ (grT ((q14)) (q15 : Int) (q16 : Int)) := (by rw [← hE54]; exact List.mem_map_of_mem (List.mem_of_getElem? hx543))
           have hgzx543 := hu2 _ hgmx543
           refine dr_val (i := 12) ha542 rfl (by kernel_rfl) (by kernel_rfl) (by kernel_rfl) rfl rfl rfl hs512 (fun w' hw' => op_indexAddr ha542 rfl Try.underlying23 ti41 rfl rfl (by omega) hi546) ?_
           intro a552 ha552; clear ha542 a542
           refine dr_val (i := 13) ha552 rfl (by kernel_rfl) (by kernel_rfl) (by kernel_rfl) rfl rfl rfl hs512 (fun w' hw' => op_loadH ha552 rfl Try.underlying41 rfl rfl (hc547.ext hw') rfl) ?_
           intro a553 ha553; clear ha552 a552
           obtain ⟨x554, hx554⟩ := get_ex (xs := x543.1) (j := 0) (by omega)
           obtain ⟨p555, c556, hi557, hc558, hr559, hs560⟩ := Rds.at_ (hn551.rds pos_shI64) hx554
           obtain ⟨rfl, b561⟩ := inv_shI64 hr559
           obtain ⟨_, _⟩ : _ ∧ _ := hs560
           have hrwx554 : rowC 0 x543.1 = x554 := rowC_eq (c := 0) hx554
           refine dr_val (i := 14) ha553 rfl (by kernel_rfl) (by kernel_rfl) (by kernel_rfl) rfl rfl rfl hs512 (fun w' hw' => op_indexAddr ha553 rfl Try.underlying41 ti2 rfl rfl (by omega) hi557) ?_
           intro a562 ha562; clear ha553 a553
           refine dr_val (i := 15) ha562 rfl (by kernel_rfl) (by kernel_rfl) (by kernel_rfl) rfl rfl rfl hs512 (fun w' hw' => op_loadH ha562 rfl Try.underlying2 rfl rfl (hc558.ext hw') rfl) ?_
           intro a563 ha563; clear ha562 a562
           refine dr_val (i := 16) ha563 rfl (by kernel_rfl) (by kernel_rfl) (by kernel_rfl) rfl rfl rfl hs512 (fun w' hw' => op_leq ha563 rfl rfl rfl) ?_
           intro a564 ha564; clear ha563 a563
           refine dr_val (i := 17) ha564 rfl (by kernel_rfl) (by kernel_rfl) (by kernel_rfl) rfl rfl rfl hs512 (fun w' hw' => op_pick_t ha564 rfl rfl rfl) ?_
           intro a565 ha565; clear ha564 a564
           refine dr_end (by kernel_rfl) ?_
           replace hf472 := hf472.ext hs512
           replace hf473 := hf473.ext hs512
           replace hf474 := hf474.ext hs512
           replace hf475 := hf475.ext hs512
           replace hn527 := hn527.ext hs512
           replace hc523 := hc523.ext hs512
           replace hc534 := hc534.ext hs512
           replace hn551 := hn551.ext hs512
           replace hc547 := hc547.ext hs512
           replace hc558 := hc558.ext hs512
           refine then_n ?_
           by_cases c566 : x530 ≤ x554
           ·
            rw [decide_eq_true c566] at ha565
            refine cond_t ha565 rfl ?_
            refine wp_seq ?_
            clear hf472 hf473 hf474 hf475 hn527 hc523 hc534 hn551 hc547 hc558
            refine wp_region_lit ?_
            refine wl_val ha565 rfl rfl rfl (op_assign ha565 rfl rfl) ?_
            intro a567 ha567; clear ha565 a565
            refine wpList_nil ?_
            refine then_n ?_
            refine wp_ret ?_
            refine block_r ?_
            refine then_r ?_
            refine then_r ?_
            refine block_r ?_
            refine then_r ?_
            refine ret1 ha567 rfl rfl ?_
            clear ha567 a567
            exact ret_mk hx511 (congrArg Value.bool (by first | rfl | (exact absurd rfl c223) | (simp at c220; done) | (simp at c8; done) | (exfalso; have h8 := upG_at hu1 (show i - 1 < i by omega) (abs_get hE54 hx543) (abs_get hE54 hx519); omega) | omega))
           ·
            rw [decide_eq_false c566] at ha565
            refine cond_f ha565 rfl ?_
            refine wp_skip ?_
            refine block_n ?_
            refine then_n ?_
            clear hn527 hc523 hc534 hn551 hc547 hc558
            refine wp_region_lit ?_
            refine wl_val ha565 rfl rfl rfl (op_move ha565 rfl rfl) ?_
            intro a568 ha568; clear ha565 a565
            refine wl_val ha568 rfl rfl rfl ((op_add ha568 rfl rfl rfl).int (IntWalk.i64_in _ (by omega))) ?_
            intro a569 ha569; clear ha568 a568
            refine wl_val ha569 rfl rfl rfl (op_assign ha569 rfl rfl) ?_
            intro a570 ha570; clear ha569 a569
            refine wpList_nil ?_
            refine round_end (x := (i, q)) ((i + 1), (q + x497)) ?_ ?_
            ·
             refine ⟨(Sl.cons_ ha570 rfl rfl (Sl.cons_ ha570 rfl rfl (Sl.cons_ ha570 rfl rfl (Sl.cons_ ha570 rfl rfl (Sl.cons_ ha570 rfl (int_eq (by omega)) (Sl.cons_ ha570 rfl (int_eq (by omega)) (Sl.nil_ ha570))))))), hx511, hf472, hf473, hf474, hf475, (by omega), (by omega), (by omega), (by omega), (by have h9 := abs_get hE72 hx486; rw [drop_cons h9, sumI, hrwx497] at hT; omega), (by exact hL), (by exact hL2), (by exact hL3)⟩
            ·show (z52.length - ((i + 1)) : Nat) < z52.length - i; omega
          ·
           rw [decide_eq_false c516] at ha515
           refine dr_skip (i := 3) ha515 rfl (by kernel_rfl) (by kernel_rfl) (by kernel_rfl) rfl rfl rfl hs512 ?_
           intro a571 ha571; clear ha515 a515
           refine dr_skip (i := 4) ha571 rfl (by kernel_rfl) (by kernel_rfl) (by kernel_rfl) rfl rfl rfl hs512 ?_
           intro a572 ha572; clear ha571 a571
           refine dr_skip (i := 5) ha572 rfl (by kernel_rfl) (by kernel_rfl) (by kernel_rfl) rfl rfl rfl hs512 ?_
           intro a573 ha573; clear ha572 a572
           refine dr_skip (i := 6) ha573 rfl (by kernel_rfl) (by kernel_rfl) (by kernel_rfl) rfl rfl rfl hs512 ?_
           intro a574 ha574; clear ha573 a573
           refine dr_skip (i := 7) ha574 rfl (by kernel_rfl) (by kernel_rfl) (by kernel_rfl) rfl rfl rfl hs512 ?_
           intro a575 ha575; clear ha574 a574
           refine dr_skip (i := 8) ha575 rfl (by kernel_rfl) (by kernel_rfl) (by kernel_rfl) rfl rfl rfl hs512 ?_
           intro a576 ha576; clear ha575 a575
           refine dr_skip (i := 9) ha576 rfl (by kernel_rfl) (by kernel_rfl) (by kernel_rfl) rfl rfl rfl hs512 ?_
           intro a577 ha577; clear ha576 a576
           refine dr_skip (i := 10) ha577 rfl (by kernel_rfl) (by kernel_rfl) (by kernel_rfl) rfl rfl rfl hs512 ?_
           intro a578 ha578; clear ha577 a577
           refine dr_skip (i := 11) ha578 rfl (by kernel_rfl) (by kernel_rfl) (by kernel_rfl) rfl rfl rfl hs512 ?_
           intro a579 ha579; clear ha578 a578
           refine dr_skip (i := 12) ha579 rfl (by kernel_rfl) (by kernel_rfl) (by kernel_rfl) rfl rfl rfl hs512 ?_
           intro a580 ha580; clear ha579 a579
           refine dr_skip (i := 13) ha580 rfl (by kernel_rfl) (by kernel_rfl) (by kernel_rfl) rfl rfl rfl hs512 ?_
           intro a581 ha581; clear ha580 a580
           refine dr_skip (i := 14) ha581 rfl (by kernel_rfl) (by kernel_rfl) (by kernel_rfl) rfl rfl rfl hs512 ?_
           intro a582 ha582; clear ha581 a581
           refine dr_skip (i := 15) ha582 rfl (by kernel_rfl) (by kernel_rfl) (by kernel_rfl) rfl rfl rfl hs512 ?_
           intro a583 ha583; clear ha582 a582
           refine dr_skip (i := 16) ha583 rfl (by kernel_rfl) (by kernel_rfl) (by kernel_rfl) rfl rfl rfl hs512 ?_
           intro a584 ha584; clear ha583 a583
           refine dr_val (i := 17) ha584 rfl (by kernel_rfl) (by kernel_rfl) (by kernel_rfl) rfl rfl rfl hs512 (fun w' hw' => op_pick_f ha584 rfl rfl rfl) ?_
           intro a585 ha585; clear ha584 a584
           refine dr_end (by kernel_rfl) ?_
           replace hf472 := hf472.ext hs512
           replace hf473 := hf473.ext hs512
           replace hf474 := hf474.ext hs512
           replace hf475 := hf475.ext hs512
           refine then_n ?_
           refine cond_f ha585 rfl ?_
           refine wp_skip ?_
           refine block_n ?_
           refine then_n ?_
           refine wp_region_lit ?_
           refine wl_val ha585 rfl rfl rfl (op_move ha585 rfl rfl) ?_
           intro a586 ha586; clear ha585 a585
           refine wl_val ha586 rfl rfl rfl ((op_add ha586 rfl rfl rfl).int (IntWalk.i64_in _ (by omega))) ?_
           intro a587 ha587; clear ha586 a586
           refine wl_val ha587 rfl rfl rfl (op_assign ha587 rfl rfl) ?_
           intro a588 ha588; clear ha587 a587
           refine wpList_nil ?_
           refine round_end (x := (i, q)) ((i + 1), (q + x497)) ?_ ?_
           ·
            refine ⟨(Sl.cons_ ha588 rfl rfl (Sl.cons_ ha588 rfl rfl (Sl.cons_ ha588 rfl rfl (Sl.cons_ ha588 rfl rfl (Sl.cons_ ha588 rfl (int_eq (by omega)) (Sl.cons_ ha588 rfl (int_eq (by omega)) (Sl.nil_ ha588))))))), hx511, hf472, hf473, hf474, hf475, (by omega), (by omega), (by omega), (by omega), (by have h9 := abs_get hE72 hx486; rw [drop_cons h9, sumI, hrwx497] at hT; omega), (by exact hL), (by exact hL2), (by exact hL3)⟩
           ·show (z52.length - ((i + 1)) : Nat) < z52.length - i; omega
         ·
          rw [decide_eq_false c482] at ha481
          refine cond_f ha481 rfl ?_
          refine wp_exit ?_
          refine then_e ?_
          refine then_e ?_
          refine block_hit ?_
          refine then_n ?_
          refine wp_seq ?_
          clear hf472 hf473 hf474 hf475
          refine wp_region_lit ?_
          refine wl_val ha481 rfl rfl rfl (op_move ha481 rfl rfl) ?_
          intro a589 ha589; clear ha481 a481
          refine wl_val ha589 rfl rfl rfl (op_eql ha589 rfl rfl rfl) ?_
          intro a590 ha590; clear ha589 a589
          refine wl_val ha590 rfl rfl rfl (op_move ha590 rfl rfl) ?_
          intro a591 ha591; clear ha590 a590
          by_cases c592 : (cdT ((q14)) (q16 : Int) : Int) = (0 : Int)
          ·
           rw [decide_eq_true c592] at ha591
           refine wl_val ha591 rfl rfl rfl (op_move ha591 rfl rfl) ?_
           intro a593 ha593; clear ha591 a591
           refine wl_val ha593 rfl rfl rfl (op_move ha593 rfl rfl) ?_
           intro a594 ha594; clear ha593 a593
           refine wl_val ha594 rfl rfl rfl (op_eql ha594 rfl rfl rfl) ?_
           intro a595 ha595; clear ha594 a594
           refine wl_val ha595 rfl rfl rfl (op_pick_t ha595 rfl rfl rfl) ?_
           intro a596 ha596; clear ha595 a595
           refine wl_val ha596 rfl rfl rfl (op_assign ha596 rfl rfl) ?_
           intro a597 ha597; clear ha596 a596
           refine wpList_nil ?_
           refine then_n ?_
           refine wp_ret ?_
           refine ret1 ha597 rfl rfl ?_
           clear ha597 a597
           exact ret_mk hx471 (congrArg Value.bool (by first | rfl | (exact absurd rfl c223) | (simp at c220; done) | (simp at c8; done) | (rw [drop_nil (by omega)] at hT; simp only [sumI] at hT; rw [if_pos hu5, decide_eq_true_eq]; omega) | omega))
          ·
           rw [decide_eq_false c592] at ha591
           refine wl_skip ha591 rfl rfl rfl ?_
           intro a598 ha598; clear ha591 a591
           refine wl_skip ha598 rfl rfl rfl ?_
           intro a599 ha599; clear ha598 a598
           refine wl_skip ha599 rfl rfl rfl ?_
           intro a600 ha600; clear ha599 a599
           refine wl_val ha600 rfl rfl rfl (op_pick_f ha600 rfl rfl rfl) ?_
           intro a601 ha601; clear ha600 a600
           refine wl_val ha601 rfl rfl rfl (op_assign ha601 rfl rfl) ?_
           intro a602 ha602; clear ha601 a601
           refine wpList_nil ?_
           refine then_n ?_
           refine wp_ret ?_
           refine ret1 ha602 rfl rfl ?_
           clear ha602 a602
           exact ret_mk hx471 (congrArg Value.bool (by first | rfl | (exact absurd rfl c592) | (exact absurd rfl c223) | (simp at c220; done) | (simp at c8; done) | (rw [drop_nil (by omega)] at hT; simp only [sumI] at hT; rw [if_pos hu5, decide_eq_true_eq]; omega) | omega))
       ·
        rw [decide_eq_false c455] at ha454
        refine cond_t ha454 rfl ?_
        refine wp_seq ?_
        clear ho18 ho20 hN22 hb39 ho51 hN53 ho69 hN71
        refine wp_region_lit ?_
        refine wl_val ha454 rfl rfl rfl (op_assign ha454 rfl rfl) ?_
        intro a603 ha603; clear ha454 a454
        refine wpList_nil ?_
        refine then_n ?_
        refine wp_ret ?_
        refine then_r ?_
        refine ret1 ha603 rfl rfl ?_
        clear ha603 a603
        exact ret_mk hx217 (congrArg Value.bool (by first | rfl | (exact absurd rfl c455) | (exact absurd rfl c223) | (simp at c220; done) | (simp at c8; done) | omega | omega))
     ·
      rw [c220] at ha219
      refine cond_t ha219 rfl ?_
      refine wp_seq ?_
      clear ho18 ho20 hN22 hb39 ho51 hN53 ho69 hN71 ho87 ho89 hN91 ho94 ho96 hN98 hb121 hb126 ho135 ho137 hN139 hb155 ho165 ho167 hN169 hb185
      refine wp_region_lit ?_
      refine wl_val ha219 rfl rfl rfl (op_assign ha219 rfl rfl) ?_
      intro a604 ha604; clear ha219 a219
      refine wpList_nil ?_
      refine then_n ?_
      refine wp_ret ?_
      refine then_r ?_
      refine ret1 ha604 rfl rfl ?_
      clear ha604 a604
      exact ret_mk hx217 (congrArg Value.bool (by first | rfl | (exact absurd rfl c220) | (simp at c220; done) | (simp at c8; done) | omega | omega))
    ·
     rw [decide_eq_false c210] at ha209
     refine wl_skip ha209 rfl rfl rfl ?_
     intro a605 ha605; clear ha209 a209
     refine wl_skip ha605 rfl rfl rfl ?_
     intro a606 ha606; clear ha605 a605
     refine wl_skip ha606 rfl rfl rfl ?_
     intro a607 ha607; clear ha606 a606
     refine wl_skip ha607 rfl rfl rfl ?_
     intro a608 ha608; clear ha607 a607
     refine wl_val ha608 rfl rfl rfl (op_pick_t ha608 rfl rfl rfl) ?_
     intro a609 ha609; clear ha608 a608
     refine wpList_nil ?_
     refine then_n ?_
     refine cond_t ha609 rfl ?_
     refine wp_seq ?_
     clear ho18 ho20 hN22 hb39 ho51 hN53 ho69 hN71 ho87 ho89 hN91 ho94 ho96 hN98 hb121 hb126 ho135 ho137 hN139 hb155 ho165 ho167 hN169 hb185
     refine wp_region_lit ?_
     refine wl_val ha609 rfl rfl rfl (op_assign ha609 rfl rfl) ?_
     intro a610 ha610; clear ha609 a609
     refine wpList_nil ?_
     refine then_n ?_
     refine wp_ret ?_
     refine then_r ?_
     refine ret1 ha610 rfl rfl ?_
     clear ha610 a610
     exact ret_mk hx200 (congrArg Value.bool (by first | rfl | (exact absurd rfl c210) | (simp at c8; done) | omega | omega))
   ·
    rw [c204] at ha203
    refine wl_skip ha203 rfl rfl rfl ?_
    intro a611 ha611; clear ha203 a203
    refine wl_skip ha611 rfl rfl rfl ?_
    intro a612 ha612; clear ha611 a611
    refine wl_skip ha612 rfl rfl rfl ?_
    intro a613 ha613; clear ha612 a612
    refine wl_val ha613 rfl rfl rfl (op_pick_t ha613 rfl rfl rfl) ?_
    intro a614 ha614; clear ha613 a613
    refine wl_val ha614 rfl rfl rfl (op_move ha614 rfl rfl) ?_
    intro a615 ha615; clear ha614 a614
    refine wl_skip ha615 rfl rfl rfl ?_
    intro a616 ha616; clear ha615 a615
    refine wl_skip ha616 rfl rfl rfl ?_
    intro a617 ha617; clear ha616 a616
    refine wl_skip ha617 rfl rfl rfl ?_
    intro a618 ha618; clear ha617 a617
    refine wl_skip ha618 rfl rfl rfl ?_
    intro a619 ha619; clear ha618 a618
    refine wl_val ha619 rfl rfl rfl (op_pick_t ha619 rfl rfl rfl) ?_
    intro a620 ha620; clear ha619 a619
    refine wpList_nil ?_
    refine then_n ?_
    refine cond_t ha620 rfl ?_
    refine wp_seq ?_
    clear ho18 ho20 hN22 hb39 ho51 hN53 ho69 hN71 ho87 ho89 hN91 ho94 ho96 hN98 hb121 hb126 ho135 ho137 hN139 hb155 ho165 ho167 hN169 hb185
    refine wp_region_lit ?_
    refine wl_val ha620 rfl rfl rfl (op_assign ha620 rfl rfl) ?_
    intro a621 ha621; clear ha620 a620
    refine wpList_nil ?_
    refine then_n ?_
    refine wp_ret ?_
    refine then_r ?_
    refine ret1 ha621 rfl rfl ?_
    clear ha621 a621
    exact ret_mk hx200 (congrArg Value.bool (by first | rfl | (rw [eqL_self] at c204; cases c204) | (simp at c8; done) | omega | omega))
  ·
   rw [decide_eq_false c193] at ha192
   refine wl_skip ha192 rfl rfl rfl ?_
   intro a622 ha622; clear ha192 a192
   refine wl_skip ha622 rfl rfl rfl ?_
   intro a623 ha623; clear ha622 a622
   refine wl_skip ha623 rfl rfl rfl ?_
   intro a624 ha624; clear ha623 a623
   refine wl_skip ha624 rfl rfl rfl ?_
   intro a625 ha625; clear ha624 a624
   refine wl_val ha625 rfl rfl rfl (op_pick_t ha625 rfl rfl rfl) ?_
   intro a626 ha626; clear ha625 a625
   refine wl_val ha626 rfl rfl rfl (op_move ha626 rfl rfl) ?_
   intro a627 ha627; clear ha626 a626
   refine wl_skip ha627 rfl rfl rfl ?_
   intro a628 ha628; clear ha627 a627
   refine wl_skip ha628 rfl rfl rfl ?_
   intro a629 ha629; clear ha628 a628
   refine wl_skip ha629 rfl rfl rfl ?_
   intro a630 ha630; clear ha629 a629
   refine wl_val ha630 rfl rfl rfl (op_pick_t ha630 rfl rfl rfl) ?_
   intro a631 ha631; clear ha630 a630
   refine wl_val ha631 rfl rfl rfl (op_move ha631 rfl rfl) ?_
   intro a632 ha632; clear ha631 a631
   refine wl_skip ha632 rfl rfl rfl ?_
   intro a633 ha633; clear ha632 a632
   refine wl_skip ha633 rfl rfl rfl ?_
   intro a634 ha634; clear ha633 a633
   refine wl_skip ha634 rfl rfl rfl ?_
   intro a635 ha635; clear ha634 a634
   refine wl_skip ha635 rfl rfl rfl ?_
   intro a636 ha636; clear ha635 a635
   refine wl_val ha636 rfl rfl rfl (op_pick_t ha636 rfl rfl rfl) ?_
   intro a637 ha637; clear ha636 a636
   refine wpList_nil ?_
   refine then_n ?_
   refine cond_t ha637 rfl ?_
   refine wp_seq ?_
   clear ho18 ho20 hN22 hb39 ho51 hN53 ho69 hN71 ho87 ho89 hN91 ho94 ho96 hN98 hb121 hb126 ho135 ho137 hN139 hb155 ho165 ho167 hN169 hb185
   refine wp_region_lit ?_
   refine wl_val ha637 rfl rfl rfl (op_assign ha637 rfl rfl) ?_
   intro a638 ha638; clear ha637 a637
   refine wpList_nil ?_
   refine then_n ?_
   refine wp_ret ?_
   refine then_r ?_
   refine ret1 ha638 rfl rfl ?_
   clear ha638 a638
   exact ret_mk hx187 (congrArg Value.bool (by first | rfl | (exact absurd rfl c193) | (simp at c8; done) | omega | omega))


end Go.Proofs.Ytjpldgicibnkcaa
