/- The law FnTableTexts, walked. -/
import Derived.Test.YtjpldgicibnkcaaR5
import Derived.Test.YtjpldgicibnkcaaP0
namespace Go.Proofs.Ytjpldgicibnkcaa
open Go Go.RowKit

theorem heldG_val {α : Type} {ok : α → Int → Bool} {st : Int} : ∀ {xs : List α} {k : Int}, 0 ≤ st → 0 ≤ k → heldG ok st xs k < 0 ∨ heldG ok st xs k = k + st * (xs.length : Nat)
  | [], k, _, _ => .inr (by simp [heldG])
  | x :: xs, k, h, h' => by
    rw [heldG]; split
    · rcases heldG_val (ok := ok) (xs := xs) (k := k + st) h (by omega) with q | q
      · exact .inl q
      · right; rw [q, List.length_cons, Int.natCast_add, Int.mul_add]; simp; omega
    · exact .inl (by omega)
theorem setN_take {X : Type} {zs : List (X × Value)} {a : List X} {i : Nat} {x : X} {u : Value} (h : (zs.take i).map (·.1) = a.take i) (hl : zs.length = a.length) (hx : a[i]? = some x) : ((zs.set i (x, u)).take (i + 1)).map (·.1) = a.take (i + 1) := by
  have hi : i < a.length := (List.getElem?_eq_some_iff.1 hx).1
  have : (zs.set i (x, u))[i]? = some (x, u) := by rw [List.getElem?_set_self (by omega)]
  rw [take_snoc this, List.take_set_of_le (Nat.le_refl _), List.map_append, h, take_snoc hx]
  rfl
theorem map_take_all {X : Type} {zs : List (X × Value)} {a : List X} {i : Nat} (h : (zs.take i).map (·.1) = a.take i) (hl : zs.length = a.length) (hi : a.length ≤ i) : zs.map (·.1) = a := by
  rw [List.take_of_length_le (by omega), List.take_of_length_le (by omega)] at h; exact h
theorem abs_get {X : Type} {zs : List (X × Value)} {T : List X} {i : Nat} {z : X × Value} (h : zs.map (·.1) = T) (hz : zs[i]? = some z) : T[i]? = some z.1 := by rw [← h, List.getElem?_map, hz]; rfl
theorem abs_len {X : Type} {zs : List (X × Value)} {T : List X} (h : zs.map (·.1) = T) : zs.length = T.length := by rw [← h, List.length_map]
theorem map_set_abs {X : Type} {zs : List (X × Value)} {i : Nat} {q : X × Value} : (zs.set i q).map (·.1) = (zs.map (·.1)).set i q.1 := by rw [List.map_set]
theorem mark_step {X : Type} {zs a : List (X × Value)} {i : Nat} {q : X × Value} {M L : List X} {m : X} (hd : (zs.drop i).map (·.1) = (a.map (·.1)).drop i) (hi : i < zs.length) (hF : (zs.take i).map (·.1) ++ m :: M = L) (hq : q.1 = m) :
    ((zs.set i q).drop (i + 1)).map (·.1) = (a.map (·.1)).drop (i + 1) ∧ ((zs.set i q).take (i + 1)).map (·.1) ++ M = L := by
  constructor
  · rw [List.drop_set_of_lt (by omega), ← List.drop_drop (i := 1) (j := i), ← List.drop_drop (i := 1) (j := i), List.map_drop, hd]
  · have : (zs.set i q)[i]? = some q := by rw [List.getElem?_set_self hi]
    rw [take_snoc this, List.take_set_of_le (Nat.le_refl _), List.map_append, ← hF, ← hq, List.append_assoc]; rfl
theorem mark_at {X : Type} {zs a : List (X × Value)} {i : Nat} {z : X × Value} (hd : (zs.drop i).map (·.1) = (a.map (·.1)).drop i) (hz : zs[i]? = some z) : (a.map (·.1))[i]? = some z.1 := by
  have h1 : ((zs.drop i).map (·.1))[0]? = some z.1 := by rw [List.getElem?_map, List.getElem?_drop, Nat.add_zero, hz]; rfl
  rw [hd, List.getElem?_drop, Nat.add_zero] at h1; exact h1

theorem if01 {b : Bool} (h : (if b = true then 0 else 1 : Int) = 0) : b = true := by cases b <;> simp_all
theorem rd_ok {s : Str} (h : rdC s = 0) : tabB (rdT s) = true ∧ txT (rdT s) = s := by
  unfold rdC at h
  cases e : rdS s with
  | none => rw [e] at h; cases h
  | some t =>
    rw [(rd_s e).1]
    unfold rdS at e
    cases q : prS s with
    | none => rw [q] at e; cases e
    | some u =>
      rw [q] at e; simp only at e; split at e
      · cases e
        have h2 := okT_eq ‹_›
        exact ⟨h2.1, (txT_ok h2.1).trans h2.2⟩
      · cases e
theorem rd_tx {t : Tab} (h : tabB t = true) : rdT (txT t) = t ∧ rdC (txT t) = 0 ∧ (txT t).length ≤ 4000 := by
  have e : rdS (txT t) = some t := by rw [txT_ok h, rdS_some (prS_tx h), okT_t h rfl]; rfl
  exact ⟨(rd_s e).1, (rd_s e).2, by rw [txT_ok h]; exact tx_len h⟩

set_option maxHeartbeats 8000000 in
theorem c_laws_FnTableTexts (w0 : World) (v_code : Value) (code : List UInt8) {S_code : Nat → Prop} (h_code : Rds shU8 S_code w0 v_code code) :
  Calls Try.prog 15 #[v_code] w0 (Ret w0 (fun v _ => v = .bool (true))) := by
 refine enter (N := 97) Try.func15 rfl rfl rfl ?_
 intro a0 ha0
 have hx0 := Ext.rfl' w0
 have hl_code := h_code.length_le
 refine wp_seq ?_
 refine wp_region_lit ?_
 refine wl_val ha0 rfl rfl rfl (op_assign ha0 rfl rfl) ?_
 intro a1 ha1; clear ha0 a0
 refine wpList_nil ?_
 refine then_n ?_
 refine wp_seq ?_
 refine wp_seq ?_
 refine wp_region_lit ?_
 refine wl_val ha1 rfl rfl rfl (op_move ha1 rfl rfl) ?_
 intro a2 ha2; clear ha1 a1
 refine wl_callR ha2 rfl rfl rfl (op_call ha2 rfl cb39 rfl) (c_laws_big _ v_code code (h_code.ext pos_shU8 hx0)) ?_
 rintro v3 w4 he5 rfl a6 ha6; clear ha2 a2
 have hx7 := hx0.trans' he5
 have hzhx7 := he5.size
 refine wpList_nil ?_
 refine then_n ?_
 rcases Bool.eq_false_or_eq_true (decide (4096 < code.length)) with c8 | c8
 ·
  rw [c8] at ha6
  refine cond_t ha6 rfl ?_
  refine wp_seq ?_
  refine wp_region_lit ?_
  refine wl_val ha6 rfl rfl rfl (op_assign ha6 rfl rfl) ?_
  intro a9 ha9; clear ha6 a6
  refine wpList_nil ?_
  refine then_n ?_
  refine wp_ret ?_
  refine then_r ?_
  refine ret1 ha9 rfl rfl ?_
  clear ha9 a9
  exact ret_mk hx7 (congrArg Value.bool (by first | rfl | (simp at c8; done) | (rw [hx1]; simp; done) | (simp [hx1]; done) | (have h9 := hx1; simp_all; done) | omega))
 ·
  rw [c8] at ha6
  refine cond_f ha6 rfl ?_
  refine wp_skip ?_
  refine then_n ?_
  refine wp_seq ?_
  refine wp_region_lit ?_
  refine wl_val ha6 rfl rfl rfl (op_move ha6 rfl rfl) ?_
  intro a10 ha10; clear ha6 a6
  refine wl_callR ha10 rfl rfl rfl (op_call ha10 rfl cb56 rfl) (c_spec_DrawTableText _ v_code code (h_code.ext pos_shU8 hx7)) ?_
  rintro v11 w12 he13 ⟨q14, ⟨u15, u17, z19, rfl, ho16, ho18, hN20, hE21⟩⟩ a22 ha22; clear ha10 a10
  have hx23 := hx7.trans' he13
  have hzhx23 := he13.size
  have hlhE21 := absLen hE21
  refine wl_eff ha22 rfl rfl rfl (op_alloc' rfl ti28 rfl) ?_
  rintro _ w25 ⟨rfl, he26, hb27, hz28⟩ a29 ha29; clear ha22 a22
  have hx30 := hx23.trans' he26
  have hzhx30 := he26.size
  replace ho16 := ho16.ext he26
  replace ho18 := ho18.ext he26
  replace hN20 := hN20.ext he26
  refine wl_effS ha29 rfl rfl (op_storeAll' ha29 rfl ti28 rfl rfl hb27 rfl rfl (by intro u hu; have hu : u ∈ ([u15, u17] : List Value) := hu; simp only [List.mem_cons, List.mem_nil_iff, or_false] at hu; rcases hu with rfl | rfl <;> first | rfl | exact ho16.one | exact ho18.one) rfl) ?_
  rintro w31 ⟨hb33, hst32, hz34⟩
  have hx35 := hx30.stp hst32 (by intro q hq; cases hq; exact (by omega))
  have hzhx35 := hst32.size
  replace ho16 := ho16.stp hst32 (by intro q hq; cases hq; omega)
  replace ho18 := ho18.stp hst32 (by intro q hq; cases hq; omega)
  replace hN20 := hN20.stp hst32 (by intro q hq; cases hq; omega)
  clear hb27
  refine wpList_nil ?_
  refine then_n ?_
  refine wp_seq ?_
  refine wp_region_lit ?_
  refine wl_val ha29 rfl rfl rfl (op_loadS ha29 rfl Try.underlying28 ti28 rfl rfl hb33.cells) ?_
  intro a36 ha36; clear ha29 a29
  refine wl_callR ha36 rfl rfl rfl (op_call ha36 rfl cb47 rfl) (c_impl_TableText _ u15 u17 ((q14)) (ho16.rds pos_shStr) ((rds_shRowN (ho18.fin (by omega) (by omega) (by omega)) hN20).cast hE21)) ?_
  rintro v37 w38 he39 rfl a40 ha40; clear ha36 a36
  have hx41 := hx35.trans' he39
  have hzhx41 := he39.size
  replace ho16 := ho16.ext he39
  replace ho18 := ho18.ext he39
  replace hN20 := hN20.ext he39
  replace hb33 := hb33.ext he39
  refine wl_val ha40 rfl rfl rfl (op_move ha40 rfl rfl) ?_
  intro a42 ha42; clear ha40 a40
  refine wl_val ha42 rfl rfl rfl (op_extract ha42 rfl rfl rfl) ?_
  intro a43 ha43; clear ha42 a42
  refine wl_val ha43 rfl rfl rfl (op_extract ha43 rfl rfl rfl) ?_
  intro a44 ha44; clear ha43 a43
  refine wl_val ha44 rfl rfl rfl (op_assign ha44 rfl rfl) ?_
  intro a45 ha45; clear ha44 a44
  refine wl_val ha45 rfl rfl rfl (op_assign ha45 rfl rfl) ?_
  intro a46 ha46; clear ha45 a45
  refine wpList_nil ?_
  refine then_n ?_
  refine wp_seq ?_
  refine wp_region_lit ?_
  refine wl_val ha46 rfl rfl rfl (op_loadS ha46 rfl Try.underlying28 ti28 rfl rfl hb33.cells) ?_
  intro a47 ha47; clear ha46 a46
  refine wl_callR ha47 rfl rfl rfl (op_call ha47 rfl cb46 rfl) (c_spec_TableText _ u15 u17 ((q14)) (ho16.rds pos_shStr) ((rds_shRowN (ho18.fin (by omega) (by omega) (by omega)) hN20).cast hE21)) ?_
  rintro v48 w49 he50 rfl a51 ha51; clear ha47 a47
  have hx52 := hx41.trans' he50
  have hzhx52 := he50.size
  replace ho16 := ho16.ext he50
  replace ho18 := ho18.ext he50
  replace hN20 := hN20.ext he50
  replace hb33 := hb33.ext he50
  refine wl_val ha51 rfl rfl rfl (op_move ha51 rfl rfl) ?_
  intro a53 ha53; clear ha51 a51
  refine wl_val ha53 rfl rfl rfl (op_extract ha53 rfl rfl rfl) ?_
  intro a54 ha54; clear ha53 a53
  refine wl_val ha54 rfl rfl rfl (op_extract ha54 rfl rfl rfl) ?_
  intro a55 ha55; clear ha54 a54
  refine wl_val ha55 rfl rfl rfl (op_assign ha55 rfl rfl) ?_
  intro a56 ha56; clear ha55 a55
  refine wl_val ha56 rfl rfl rfl (op_assign ha56 rfl rfl) ?_
  intro a57 ha57; clear ha56 a56
  refine wpList_nil ?_
  refine then_n ?_
  refine wp_seq ?_
  refine wp_region_lit ?_
  refine wl_val ha57 rfl rfl rfl (op_move ha57 rfl rfl) ?_
  intro a58 ha58; clear ha57 a57
  refine wl_callR ha58 rfl rfl rfl (op_call ha58 rfl cb57 rfl) (c_spec_DrawReadTable _ v_code code (h_code.ext pos_shU8 hx52)) ?_
  rintro v59 w60 he61 ⟨q62, hq63, rfl⟩ a64 ha64; clear ha58 a58
  have hx65 := hx52.trans' he61
  have hzhx65 := he61.size
  replace ho16 := ho16.ext he61
  replace ho18 := ho18.ext he61
  replace hN20 := hN20.ext he61
  replace hb33 := hb33.ext he61
  refine wl_val ha64 rfl rfl rfl (op_assign ha64 rfl rfl) ?_
  intro a66 ha66; clear ha64 a64
  refine wpList_nil ?_
  refine then_n ?_
  refine wp_seq ?_
  refine wp_region_lit ?_
  refine wl_val ha66 rfl rfl rfl (op_move ha66 rfl rfl) ?_
  intro a67 ha67; clear ha66 a66
  refine wl_callR ha67 rfl rfl rfl (op_call ha67 rfl cb55 rfl) (c_impl_ReadTable _ ((q62)) (by first | assumption | omega | (simp; done) | (simp; omega))) ?_
  rintro v68 w69 he70 ⟨u71, u73, z75, rfl, ho72, ho74, hN76, hE77⟩ a78 ha78; clear ha67 a67
  have hx79 := hx65.trans' he70
  have hzhx79 := he70.size
  replace ho16 := ho16.ext he70
  replace ho18 := ho18.ext he70
  replace hN20 := hN20.ext he70
  replace hb33 := hb33.ext he70
  have hlhE77 := absLen hE77
  refine wl_val ha78 rfl rfl rfl (op_move ha78 rfl rfl) ?_
  intro a80 ha80; clear ha78 a78
  refine wl_val ha80 rfl rfl rfl (op_extract ha80 rfl rfl rfl) ?_
  intro a81 ha81; clear ha80 a80
  refine wl_val ha81 rfl rfl rfl (op_extract ha81 rfl rfl rfl) ?_
  intro a82 ha82; clear ha81 a81
  refine wl_eff ha82 rfl rfl rfl (op_alloc' rfl ti28 rfl) ?_
  rintro _ w84 ⟨rfl, he85, hb86, hz87⟩ a88 ha88; clear ha82 a82
  have hx89 := hx79.trans' he85
  have hzhx89 := he85.size
  replace ho16 := ho16.ext he85
  replace ho18 := ho18.ext he85
  replace hN20 := hN20.ext he85
  replace hb33 := hb33.ext he85
  replace ho72 := ho72.ext he85
  replace ho74 := ho74.ext he85
  replace hN76 := hN76.ext he85
  refine wl_effS ha88 rfl rfl (op_storeAll' ha88 rfl ti28 rfl rfl hb86 rfl rfl (by intro u hu; have hu : u ∈ ([u71, u73] : List Value) := hu; simp only [List.mem_cons, List.mem_nil_iff, or_false] at hu; rcases hu with rfl | rfl <;> first | rfl | exact ho72.one | exact ho74.one) rfl) ?_
  rintro w90 ⟨hb92, hst91, hz93⟩
  have hx94 := hx89.stp hst91 (by intro q hq; cases hq; exact (by omega))
  have hzhx94 := hst91.size
  replace ho16 := ho16.stp hst91 (by intro q hq; cases hq; omega)
  replace ho18 := ho18.stp hst91 (by intro q hq; cases hq; omega)
  replace hN20 := hN20.stp hst91 (by intro q hq; cases hq; omega)
  replace hb33 := hb33.stp hst91 (by intro q hq; cases hq; omega)
  replace ho72 := ho72.stp hst91 (by intro q hq; cases hq; omega)
  replace ho74 := ho74.stp hst91 (by intro q hq; cases hq; omega)
  replace hN76 := hN76.stp hst91 (by intro q hq; cases hq; omega)
  clear hb86
  refine wl_val ha88 rfl rfl rfl (op_assign ha88 rfl rfl) ?_
  intro a95 ha95; clear ha88 a88
  refine wpList_nil ?_
  refine then_n ?_
  refine wp_seq ?_
  refine wp_region_lit ?_
  refine wl_val ha95 rfl rfl rfl (op_move ha95 rfl rfl) ?_
  intro a96 ha96; clear ha95 a95
  refine wl_callR ha96 rfl rfl rfl (op_call ha96 rfl cb54 rfl) (c_spec_ReadTable _ ((q62)) (by first | assumption | omega | (simp; done) | (simp; omega))) ?_
  rintro v97 w98 he99 ⟨u100, u102, z104, rfl, ho101, ho103, hN105, hE106⟩ a107 ha107; clear ha96 a96
  have hx108 := hx94.trans' he99
  have hzhx108 := he99.size
  replace ho16 := ho16.ext he99
  replace ho18 := ho18.ext he99
  replace hN20 := hN20.ext he99
  replace hb33 := hb33.ext he99
  replace ho72 := ho72.ext he99
  replace ho74 := ho74.ext he99
  replace hN76 := hN76.ext he99
  replace hb92 := hb92.ext he99
  have hlhE106 := absLen hE106
  refine wl_val ha107 rfl rfl rfl (op_move ha107 rfl rfl) ?_
  intro a109 ha109; clear ha107 a107
  refine wl_val ha109 rfl rfl rfl (op_extract ha109 rfl rfl rfl) ?_
  intro a110 ha110; clear ha109 a109
  refine wl_val ha110 rfl rfl rfl (op_extract ha110 rfl rfl rfl) ?_
  intro a111 ha111; clear ha110 a110
  refine wl_eff ha111 rfl rfl rfl (op_alloc' rfl ti28 rfl) ?_
  rintro _ w113 ⟨rfl, he114, hb115, hz116⟩ a117 ha117; clear ha111 a111
  have hx118 := hx108.trans' he114
  have hzhx118 := he114.size
  replace ho16 := ho16.ext he114
  replace ho18 := ho18.ext he114
  replace hN20 := hN20.ext he114
  replace hb33 := hb33.ext he114
  replace ho72 := ho72.ext he114
  replace ho74 := ho74.ext he114
  replace hN76 := hN76.ext he114
  replace hb92 := hb92.ext he114
  replace ho101 := ho101.ext he114
  replace ho103 := ho103.ext he114
  replace hN105 := hN105.ext he114
  refine wl_effS ha117 rfl rfl (op_storeAll' ha117 rfl ti28 rfl rfl hb115 rfl rfl (by intro u hu; have hu : u ∈ ([u100, u102] : List Value) := hu; simp only [List.mem_cons, List.mem_nil_iff, or_false] at hu; rcases hu with rfl | rfl <;> first | rfl | exact ho101.one | exact ho103.one) rfl) ?_
  rintro w119 ⟨hb121, hst120, hz122⟩
  have hx123 := hx118.stp hst120 (by intro q hq; cases hq; exact (by omega))
  have hzhx123 := hst120.size
  replace ho16 := ho16.stp hst120 (by intro q hq; cases hq; omega)
  replace ho18 := ho18.stp hst120 (by intro q hq; cases hq; omega)
  replace hN20 := hN20.stp hst120 (by intro q hq; cases hq; omega)
  replace hb33 := hb33.stp hst120 (by intro q hq; cases hq; omega)
  replace ho72 := ho72.stp hst120 (by intro q hq; cases hq; omega)
  replace ho74 := ho74.stp hst120 (by intro q hq; cases hq; omega)
  replace hN76 := hN76.stp hst120 (by intro q hq; cases hq; omega)
  replace hb92 := hb92.stp hst120 (by intro q hq; cases hq; omega)
  replace ho101 := ho101.stp hst120 (by intro q hq; cases hq; omega)
  replace ho103 := ho103.stp hst120 (by intro q hq; cases hq; omega)
  replace hN105 := hN105.stp hst120 (by intro q hq; cases hq; omega)
  clear hb115
  refine wl_val ha117 rfl rfl rfl (op_assign ha117 rfl rfl) ?_
  intro a124 ha124; clear ha117 a117
  refine wpList_nil ?_
  refine then_n ?_
  refine wp_seq ?_
  refine wp_seq ?_
  refine wp_region_lit ?_
  refine wl_val ha124 rfl rfl rfl (op_move ha124 rfl rfl) ?_
  intro a125 ha125; clear ha124 a124
  refine wl_val ha125 rfl rfl rfl (op_move ha125 rfl rfl) ?_
  intro a126 ha126; clear ha125 a125
  refine wl_val ha126 rfl rfl rfl ((op_neq ha126 rfl rfl rfl).to (congrArg Value.bool decide_not)) ?_
  intro a127 ha127; clear ha126 a126
  refine wl_val ha127 rfl rfl rfl (op_move ha127 rfl rfl) ?_
  intro a128 ha128; clear ha127 a127
  by_cases c129 : (if tabB ((q14)) then 0 else 1 : Int) = (if tabB ((q14)) then 0 else 1 : Int)
  ·
   rw [decide_eq_true c129] at ha128
   refine wl_val ha128 rfl rfl rfl (op_move ha128 rfl rfl) ?_
   intro a130 ha130; clear ha128 a128
   refine wl_val ha130 rfl rfl rfl (op_move ha130 rfl rfl) ?_
   intro a131 ha131; clear ha130 a130
   refine wl_val ha131 rfl rfl rfl ((op_sneq ha131 rfl rfl rfl).to (congrArg Value.bool decide_not)) ?_
   intro a132 ha132; clear ha131 a131
   refine wl_val ha132 rfl rfl rfl (op_pick_f ha132 rfl rfl rfl) ?_
   intro a133 ha133; clear ha132 a132
   refine wl_val ha133 rfl rfl rfl (op_move ha133 rfl rfl) ?_
   intro a134 ha134; clear ha133 a133
   by_cases c135 : (txT ((q14))) = (txT ((q14)))
   ·
    rw [decide_eq_true c135] at ha134
    refine wl_val ha134 rfl rfl rfl (op_move ha134 rfl rfl) ?_
    intro a136 ha136; clear ha134 a134
    refine wl_val ha136 rfl rfl rfl (op_move ha136 rfl rfl) ?_
    intro a137 ha137; clear ha136 a136
    refine wl_val ha137 rfl rfl rfl ((op_neq ha137 rfl rfl rfl).to (congrArg Value.bool decide_not)) ?_
    intro a138 ha138; clear ha137 a137
    refine wl_val ha138 rfl rfl rfl (op_pick_f ha138 rfl rfl rfl) ?_
    intro a139 ha139; clear ha138 a138
    refine wl_val ha139 rfl rfl rfl (op_move ha139 rfl rfl) ?_
    intro a140 ha140; clear ha139 a139
    by_cases c141 : (rdC ((q62)) : Int) = (rdC ((q62)) : Int)
    ·
     rw [decide_eq_true c141] at ha140
     refine wl_val ha140 rfl rfl rfl (op_loadS ha140 rfl Try.underlying28 ti28 rfl rfl hb92.cells) ?_
     intro a142 ha142; clear ha140 a140
     refine wl_val ha142 rfl rfl rfl (op_loadS ha142 rfl Try.underlying28 ti28 rfl rfl hb121.cells) ?_
     intro a143 ha143; clear ha142 a142
     refine wl_callR ha143 rfl rfl rfl (op_call ha143 rfl cb45 rfl) (c_laws_likeTable _ u71 u73 ((rdT ((q62)))) u100 u102 ((rdT ((q62)))) (ho72.rds pos_shStr) ((rds_shRowN (ho74.fin (by omega) (by omega) (by omega)) hN76).cast hE77) (ho101.rds pos_shStr) ((rds_shRowN (ho103.fin (by omega) (by omega) (by omega)) hN105).cast hE106)) ?_
     rintro v144 w145 he146 rfl a147 ha147; clear ha143 a143
     have hx148 := hx123.trans' he146
     have hzhx148 := he146.size
     replace ho16 := ho16.ext he146
     replace ho18 := ho18.ext he146
     replace hN20 := hN20.ext he146
     replace hb33 := hb33.ext he146
     replace ho72 := ho72.ext he146
     replace ho74 := ho74.ext he146
     replace hN76 := hN76.ext he146
     replace hb92 := hb92.ext he146
     replace ho101 := ho101.ext he146
     replace ho103 := ho103.ext he146
     replace hN105 := hN105.ext he146
     replace hb121 := hb121.ext he146
     refine wl_val ha147 rfl rfl rfl (op_not ha147 rfl rfl) ?_
     intro a149 ha149; clear ha147 a147
     refine wl_val ha149 rfl rfl rfl (op_pick_f ha149 rfl rfl rfl) ?_
     intro a150 ha150; clear ha149 a149
     refine wl_val ha150 rfl rfl rfl (op_move ha150 rfl rfl) ?_
     intro a151 ha151; clear ha150 a150
     rcases Bool.eq_false_or_eq_true (decide (((rdT ((q62)))) = ((rdT ((q62)))))) with c152 | c152
     ·
      rw [c152] at ha151
      refine wl_val ha151 rfl rfl rfl (op_loadS ha151 rfl Try.underlying28 ti28 rfl rfl hb33.cells) ?_
      intro a153 ha153; clear ha151 a151
      refine wl_callR ha153 rfl rfl rfl (op_call ha153 rfl cb19 rfl) (c_impl_IsTable _ u15 u17 ((q14)) (ho16.rds pos_shStr) ((rds_shRowN (ho18.fin (by omega) (by omega) (by omega)) hN20).cast hE21)) ?_
      rintro v154 w155 he156 rfl a157 ha157; clear ha153 a153
      have hx158 := hx148.trans' he156
      have hzhx158 := he156.size
      replace ho16 := ho16.ext he156
      replace ho18 := ho18.ext he156
      replace hN20 := hN20.ext he156
      replace hb33 := hb33.ext he156
      replace ho72 := ho72.ext he156
      replace ho74 := ho74.ext he156
      replace hN76 := hN76.ext he156
      replace hb92 := hb92.ext he156
      replace ho101 := ho101.ext he156
      replace ho103 := ho103.ext he156
      replace hN105 := hN105.ext he156
      replace hb121 := hb121.ext he156
      refine wl_val ha157 rfl rfl rfl (op_move ha157 rfl rfl) ?_
      intro a159 ha159; clear ha157 a157
      refine wl_val ha159 rfl rfl rfl (op_eql ha159 rfl rfl rfl) ?_
      intro a160 ha160; clear ha159 a159
      refine wl_val ha160 rfl rfl rfl (op_bneq ha160 rfl Try.underlying4 rfl rfl) ?_
      intro a161 ha161; clear ha160 a160
      refine wl_val ha161 rfl rfl rfl (op_pick_f ha161 rfl rfl rfl) ?_
      intro a162 ha162; clear ha161 a161
      refine wpList_nil ?_
      refine then_n ?_
      rcases Bool.eq_false_or_eq_true ((tabB ((q14)) == decide ((if tabB ((q14)) then 0 else 1 : Int) = (0 : Int)))) with c163 | c163
      ·
       rw [c163] at ha162
       refine cond_f ha162 rfl ?_
       refine wp_skip ?_
       refine then_n ?_
       refine wp_seq ?_
       refine wp_seq ?_
       clear ho101 ho103 hN105 hb121
       refine wp_region_lit ?_
       refine wl_val ha162 rfl rfl rfl (op_move ha162 rfl rfl) ?_
       intro a164 ha164; clear ha162 a162
       refine wl_val ha164 rfl rfl rfl (op_eql ha164 rfl rfl rfl) ?_
       intro a165 ha165; clear ha164 a164
       refine wpList_nil ?_
       refine then_n ?_
       by_cases c166 : (rdC ((q62)) : Int) = (0 : Int)
       ·
        rw [decide_eq_true c166] at ha165
        obtain ⟨hy1, hy2⟩ := rd_ok c166
        refine cond_t ha165 rfl ?_
        refine wp_seq ?_
        refine wp_region_lit ?_
        refine wl_val ha165 rfl rfl rfl (op_loadS ha165 rfl Try.underlying28 ti28 rfl rfl hb92.cells) ?_
        intro a167 ha167; clear ha165 a165
        refine wl_callR ha167 rfl rfl rfl (op_call ha167 rfl cb47 rfl) (c_impl_TableText _ u71 u73 ((rdT ((q62)))) (ho72.rds pos_shStr) ((rds_shRowN (ho74.fin (by omega) (by omega) (by omega)) hN76).cast hE77)) ?_
        rintro v168 w169 he170 rfl a171 ha171; clear ha167 a167
        have hx172 := hx158.trans' he170
        have hzhx172 := he170.size
        replace ho16 := ho16.ext he170
        replace ho18 := ho18.ext he170
        replace hN20 := hN20.ext he170
        replace hb33 := hb33.ext he170
        replace ho72 := ho72.ext he170
        replace ho74 := ho74.ext he170
        replace hN76 := hN76.ext he170
        replace hb92 := hb92.ext he170
        refine wl_val ha171 rfl rfl rfl (op_move ha171 rfl rfl) ?_
        intro a173 ha173; clear ha171 a171
        refine wl_val ha173 rfl rfl rfl (op_extract ha173 rfl rfl rfl) ?_
        intro a174 ha174; clear ha173 a173
        refine wl_val ha174 rfl rfl rfl (op_extract ha174 rfl rfl rfl) ?_
        intro a175 ha175; clear ha174 a174
        refine wl_val ha175 rfl rfl rfl (op_assign ha175 rfl rfl) ?_
        intro a176 ha176; clear ha175 a175
        refine wl_val ha176 rfl rfl rfl (op_assign ha176 rfl rfl) ?_
        intro a177 ha177; clear ha176 a176
        refine wpList_nil ?_
        refine then_n ?_
        refine wp_seq ?_
        clear ho72 ho74 hN76 hb92
        refine wp_region_lit ?_
        refine wl_val ha177 rfl rfl rfl (op_move ha177 rfl rfl) ?_
        intro a178 ha178; clear ha177 a177
        refine wl_val ha178 rfl rfl rfl ((op_neq ha178 rfl rfl rfl).to (congrArg Value.bool decide_not)) ?_
        intro a179 ha179; clear ha178 a178
        refine wl_val ha179 rfl rfl rfl (op_move ha179 rfl rfl) ?_
        intro a180 ha180; clear ha179 a179
        by_cases c181 : (if tabB ((rdT ((q62)))) then 0 else 1 : Int) = (0 : Int)
        ·
         rw [decide_eq_true c181] at ha180
         refine wl_val ha180 rfl rfl rfl (op_move ha180 rfl rfl) ?_
         intro a182 ha182; clear ha180 a180
         refine wl_val ha182 rfl rfl rfl (op_move ha182 rfl rfl) ?_
         intro a183 ha183; clear ha182 a182
         refine wl_val ha183 rfl rfl rfl ((op_sneq ha183 rfl rfl rfl).to (congrArg Value.bool decide_not)) ?_
         intro a184 ha184; clear ha183 a183
         refine wl_val ha184 rfl rfl rfl (op_pick_f ha184 rfl rfl rfl) ?_
         intro a185 ha185; clear ha184 a184
         refine wpList_nil ?_
         refine then_n ?_
         by_cases c186 : (txT ((rdT ((q62))))) = (q62)
         ·
          rw [decide_eq_true c186] at ha185
          refine cond_f ha185 rfl ?_
          refine wp_skip ?_
          refine then_n ?_
          refine wp_seq ?_
          refine wp_seq ?_
          refine wp_region_lit ?_
          refine wl_val ha185 rfl rfl rfl (op_move ha185 rfl rfl) ?_
          intro a187 ha187; clear ha185 a185
          refine wl_val ha187 rfl rfl rfl ((op_neq ha187 rfl rfl rfl).to (congrArg Value.bool decide_not)) ?_
          intro a188 ha188; clear ha187 a187
          refine wpList_nil ?_
          refine then_n ?_
          by_cases c189 : (if tabB ((q14)) then 0 else 1 : Int) = (0 : Int)
          ·
           rw [decide_eq_true c189] at ha188
           obtain ⟨hx1, hx2, hx3⟩ := rd_tx (if01 c189)
           refine cond_f ha188 rfl ?_
           refine wp_skip ?_
           refine then_n ?_
           refine wp_seq ?_
           refine wp_region_lit ?_
           refine wl_val ha188 rfl rfl rfl (op_move ha188 rfl rfl) ?_
           intro a190 ha190; clear ha188 a188
           refine wl_callR ha190 rfl rfl rfl (op_call ha190 rfl cb55 rfl) (c_impl_ReadTable _ ((txT ((q14)))) (by first | assumption | omega | (simp; done) | (simp; omega))) ?_
           rintro v191 w192 he193 ⟨u194, u196, z198, rfl, ho195, ho197, hN199, hE200⟩ a201 ha201; clear ha190 a190
           have hx202 := hx172.trans' he193
           have hzhx202 := he193.size
           replace ho16 := ho16.ext he193
           replace ho18 := ho18.ext he193
           replace hN20 := hN20.ext he193
           replace hb33 := hb33.ext he193
           have hlhE200 := absLen hE200
           refine wl_val ha201 rfl rfl rfl (op_move ha201 rfl rfl) ?_
           intro a203 ha203; clear ha201 a201
           refine wl_val ha203 rfl rfl rfl (op_extract ha203 rfl rfl rfl) ?_
           intro a204 ha204; clear ha203 a203
           refine wl_val ha204 rfl rfl rfl (op_extract ha204 rfl rfl rfl) ?_
           intro a205 ha205; clear ha204 a204
           refine wl_eff ha205 rfl rfl rfl (op_alloc' rfl ti28 rfl) ?_
           rintro _ w207 ⟨rfl, he208, hb209, hz210⟩ a211 ha211; clear ha205 a205
           have hx212 := hx202.trans' he208
           have hzhx212 := he208.size
           replace ho16 := ho16.ext he208
           replace ho18 := ho18.ext he208
           replace hN20 := hN20.ext he208
           replace hb33 := hb33.ext he208
           replace ho195 := ho195.ext he208
           replace ho197 := ho197.ext he208
           replace hN199 := hN199.ext he208
           refine wl_effS ha211 rfl rfl (op_storeAll' ha211 rfl ti28 rfl rfl hb209 rfl rfl (by intro u hu; have hu : u ∈ ([u194, u196] : List Value) := hu; simp only [List.mem_cons, List.mem_nil_iff, or_false] at hu; rcases hu with rfl | rfl <;> first | rfl | exact ho195.one | exact ho197.one) rfl) ?_
           rintro w213 ⟨hb215, hst214, hz216⟩
           have hx217 := hx212.stp hst214 (by intro q hq; cases hq; exact (by omega))
           have hzhx217 := hst214.size
           replace ho16 := ho16.stp hst214 (by intro q hq; cases hq; omega)
           replace ho18 := ho18.stp hst214 (by intro q hq; cases hq; omega)
           replace hN20 := hN20.stp hst214 (by intro q hq; cases hq; omega)
           replace hb33 := hb33.stp hst214 (by intro q hq; cases hq; omega)
           replace ho195 := ho195.stp hst214 (by intro q hq; cases hq; omega)
           replace ho197 := ho197.stp hst214 (by intro q hq; cases hq; omega)
           replace hN199 := hN199.stp hst214 (by intro q hq; cases hq; omega)
           clear hb209
           refine wl_val ha211 rfl rfl rfl (op_assign ha211 rfl rfl) ?_
           intro a218 ha218; clear ha211 a211
           refine wpList_nil ?_
           refine then_n ?_
           refine wp_seq ?_
           refine wp_region_lit ?_
           refine wl_val ha218 rfl rfl rfl (op_move ha218 rfl rfl) ?_
           intro a219 ha219; clear ha218 a218
           refine wl_val ha219 rfl rfl rfl (op_eql ha219 rfl rfl rfl) ?_
           intro a220 ha220; clear ha219 a219
           refine wl_val ha220 rfl rfl rfl (op_move ha220 rfl rfl) ?_
           intro a221 ha221; clear ha220 a220
           by_cases c222 : (rdC ((txT ((q14)))) : Int) = (0 : Int)
           ·
            rw [decide_eq_true c222] at ha221
            obtain ⟨hy1, hy2⟩ := rd_ok c222
            refine wl_val ha221 rfl rfl rfl (op_loadS ha221 rfl Try.underlying28 ti28 rfl rfl hb215.cells) ?_
            intro a223 ha223; clear ha221 a221
            refine wl_val ha223 rfl rfl rfl (op_loadS ha223 rfl Try.underlying28 ti28 rfl rfl hb33.cells) ?_
            intro a224 ha224; clear ha223 a223
            refine wl_callR ha224 rfl rfl rfl (op_call ha224 rfl cb45 rfl) (c_laws_likeTable _ u194 u196 ((rdT ((txT ((q14)))))) u15 u17 ((q14)) (ho195.rds pos_shStr) ((rds_shRowN (ho197.fin (by omega) (by omega) (by omega)) hN199).cast hE200) (ho16.rds pos_shStr) ((rds_shRowN (ho18.fin (by omega) (by omega) (by omega)) hN20).cast hE21)) ?_
            rintro v225 w226 he227 rfl a228 ha228; clear ha224 a224
            have hx229 := hx217.trans' he227
            have hzhx229 := he227.size
            replace ho16 := ho16.ext he227
            replace ho18 := ho18.ext he227
            replace hN20 := hN20.ext he227
            replace hb33 := hb33.ext he227
            replace ho195 := ho195.ext he227
            replace ho197 := ho197.ext he227
            replace hN199 := hN199.ext he227
            replace hb215 := hb215.ext he227
            refine wl_val ha228 rfl rfl rfl (op_pick_t ha228 rfl rfl rfl) ?_
            intro a230 ha230; clear ha228 a228
            refine wl_val ha230 rfl rfl rfl (op_assign ha230 rfl rfl) ?_
            intro a231 ha231; clear ha230 a230
            refine wpList_nil ?_
            refine then_n ?_
            refine wp_ret ?_
            refine ret1 ha231 rfl rfl ?_
            clear ha231 a231
            exact ret_mk hx229 (congrArg Value.bool (by first | rfl | (simp at c163; done) | (simp at c152; done) | (simp at c8; done) | (rw [hx1]; simp; done) | (simp [hx1]; done) | (have h9 := hx1; simp_all; done) | omega))
           ·
            rw [decide_eq_false c222] at ha221
            refine wl_skip ha221 rfl rfl rfl ?_
            intro a232 ha232; clear ha221 a221
            refine wl_skip ha232 rfl rfl rfl ?_
            intro a233 ha233; clear ha232 a232
            refine wl_skip ha233 rfl rfl rfl ?_
            intro a234 ha234; clear ha233 a233
            refine wl_val ha234 rfl rfl rfl (op_pick_f ha234 rfl rfl rfl) ?_
            intro a235 ha235; clear ha234 a234
            refine wl_val ha235 rfl rfl rfl (op_assign ha235 rfl rfl) ?_
            intro a236 ha236; clear ha235 a235
            refine wpList_nil ?_
            refine then_n ?_
            refine wp_ret ?_
            refine ret1 ha236 rfl rfl ?_
            clear ha236 a236
            exact ret_mk hx217 (congrArg Value.bool (by first | rfl | (exact absurd rfl c222) | (simp at c163; done) | (simp at c152; done) | (simp at c8; done) | (exact absurd hy2 c222) | (exact absurd hx2 c222) | (exact absurd (if_pos hy1) c222) | (rw [hx1]; simp; done) | (simp [hx1]; done) | (have h9 := hx1; simp_all; done) | omega))
          ·
           rw [decide_eq_false c189] at ha188
           refine cond_t ha188 rfl ?_
           refine wp_seq ?_
           clear ho16 ho18 hN20 hb33
           refine wp_region_lit ?_
           refine wl_val ha188 rfl rfl rfl (op_assign ha188 rfl rfl) ?_
           intro a237 ha237; clear ha188 a188
           refine wpList_nil ?_
           refine then_n ?_
           refine wp_ret ?_
           refine then_r ?_
           refine ret1 ha237 rfl rfl ?_
           clear ha237 a237
           exact ret_mk hx172 (congrArg Value.bool (by first | rfl | (exact absurd rfl c189) | (simp at c163; done) | (simp at c152; done) | (simp at c8; done) | (exact absurd hy2 c189) | (exact absurd hx2 c189) | (exact absurd (if_pos hy1) c189) | (rw [hx1]; simp; done) | (simp [hx1]; done) | (have h9 := hx1; simp_all; done) | omega))
         ·
          rw [decide_eq_false c186] at ha185
          refine cond_t ha185 rfl ?_
          refine wp_seq ?_
          clear ho16 ho18 hN20 hb33
          refine wp_region_lit ?_
          refine wl_val ha185 rfl rfl rfl (op_assign ha185 rfl rfl) ?_
          intro a238 ha238; clear ha185 a185
          refine wpList_nil ?_
          refine then_n ?_
          refine wp_ret ?_
          refine then_r ?_
          refine ret1 ha238 rfl rfl ?_
          clear ha238 a238
          exact ret_mk hx172 (congrArg Value.bool (by first | rfl | (exact absurd rfl c186) | (simp at c163; done) | (simp at c152; done) | (simp at c8; done) | (exact absurd hy2 c186) | (exact absurd hx2 c186) | (exact absurd (if_pos hy1) c186) | (rw [hx1]; simp; done) | (simp [hx1]; done) | (have h9 := hx1; simp_all; done) | omega))
        ·
         rw [decide_eq_false c181] at ha180
         refine wl_skip ha180 rfl rfl rfl ?_
         intro a239 ha239; clear ha180 a180
         refine wl_skip ha239 rfl rfl rfl ?_
         intro a240 ha240; clear ha239 a239
         refine wl_skip ha240 rfl rfl rfl ?_
         intro a241 ha241; clear ha240 a240
         refine wl_val ha241 rfl rfl rfl (op_pick_t ha241 rfl rfl rfl) ?_
         intro a242 ha242; clear ha241 a241
         refine wpList_nil ?_
         refine then_n ?_
         refine cond_t ha242 rfl ?_
         refine wp_seq ?_
         clear ho16 ho18 hN20 hb33
         refine wp_region_lit ?_
         refine wl_val ha242 rfl rfl rfl (op_assign ha242 rfl rfl) ?_
         intro a243 ha243; clear ha242 a242
         refine wpList_nil ?_
         refine then_n ?_
         refine wp_ret ?_
         refine then_r ?_
         refine ret1 ha243 rfl rfl ?_
         clear ha243 a243
         exact ret_mk hx172 (congrArg Value.bool (by first | rfl | (exact absurd rfl c181) | (simp at c163; done) | (simp at c152; done) | (simp at c8; done) | (exact absurd hy2 c181) | (exact absurd hx2 c181) | (exact absurd (if_pos hy1) c181) | (rw [hx1]; simp; done) | (simp [hx1]; done) | (have h9 := hx1; simp_all; done) | omega))
       ·
        rw [decide_eq_false c166] at ha165
        refine cond_f ha165 rfl ?_
        refine wp_skip ?_
        refine then_n ?_
        refine wp_seq ?_
        refine wp_seq ?_
        clear ho72 ho74 hN76 hb92
        refine wp_region_lit ?_
        refine wl_val ha165 rfl rfl rfl (op_move ha165 rfl rfl) ?_
        intro a244 ha244; clear ha165 a165
        refine wl_val ha244 rfl rfl rfl ((op_neq ha244 rfl rfl rfl).to (congrArg Value.bool decide_not)) ?_
        intro a245 ha245; clear ha244 a244
        refine wpList_nil ?_
        refine then_n ?_
        by_cases c246 : (if tabB ((q14)) then 0 else 1 : Int) = (0 : Int)
        ·
         rw [decide_eq_true c246] at ha245
         obtain ⟨hx1, hx2, hx3⟩ := rd_tx (if01 c246)
         refine cond_f ha245 rfl ?_
         refine wp_skip ?_
         refine then_n ?_
         refine wp_seq ?_
         refine wp_region_lit ?_
         refine wl_val ha245 rfl rfl rfl (op_move ha245 rfl rfl) ?_
         intro a247 ha247; clear ha245 a245
         refine wl_callR ha247 rfl rfl rfl (op_call ha247 rfl cb55 rfl) (c_impl_ReadTable _ ((txT ((q14)))) (by first | assumption | omega | (simp; done) | (simp; omega))) ?_
         rintro v248 w249 he250 ⟨u251, u253, z255, rfl, ho252, ho254, hN256, hE257⟩ a258 ha258; clear ha247 a247
         have hx259 := hx158.trans' he250
         have hzhx259 := he250.size
         replace ho16 := ho16.ext he250
         replace ho18 := ho18.ext he250
         replace hN20 := hN20.ext he250
         replace hb33 := hb33.ext he250
         have hlhE257 := absLen hE257
         refine wl_val ha258 rfl rfl rfl (op_move ha258 rfl rfl) ?_
         intro a260 ha260; clear ha258 a258
         refine wl_val ha260 rfl rfl rfl (op_extract ha260 rfl rfl rfl) ?_
         intro a261 ha261; clear ha260 a260
         refine wl_val ha261 rfl rfl rfl (op_extract ha261 rfl rfl rfl) ?_
         intro a262 ha262; clear ha261 a261
         refine wl_eff ha262 rfl rfl rfl (op_alloc' rfl ti28 rfl) ?_
         rintro _ w264 ⟨rfl, he265, hb266, hz267⟩ a268 ha268; clear ha262 a262
         have hx269 := hx259.trans' he265
         have hzhx269 := he265.size
         replace ho16 := ho16.ext he265
         replace ho18 := ho18.ext he265
         replace hN20 := hN20.ext he265
         replace hb33 := hb33.ext he265
         replace ho252 := ho252.ext he265
         replace ho254 := ho254.ext he265
         replace hN256 := hN256.ext he265
         refine wl_effS ha268 rfl rfl (op_storeAll' ha268 rfl ti28 rfl rfl hb266 rfl rfl (by intro u hu; have hu : u ∈ ([u251, u253] : List Value) := hu; simp only [List.mem_cons, List.mem_nil_iff, or_false] at hu; rcases hu with rfl | rfl <;> first | rfl | exact ho252.one | exact ho254.one) rfl) ?_
         rintro w270 ⟨hb272, hst271, hz273⟩
         have hx274 := hx269.stp hst271 (by intro q hq; cases hq; exact (by omega))
         have hzhx274 := hst271.size
         replace ho16 := ho16.stp hst271 (by intro q hq; cases hq; omega)
         replace ho18 := ho18.stp hst271 (by intro q hq; cases hq; omega)
         replace hN20 := hN20.stp hst271 (by intro q hq; cases hq; omega)
         replace hb33 := hb33.stp hst271 (by intro q hq; cases hq; omega)
         replace ho252 := ho252.stp hst271 (by intro q hq; cases hq; omega)
         replace ho254 := ho254.stp hst271 (by intro q hq; cases hq; omega)
         replace hN256 := hN256.stp hst271 (by intro q hq; cases hq; omega)
         clear hb266
         refine wl_val ha268 rfl rfl rfl (op_assign ha268 rfl rfl) ?_
         intro a275 ha275; clear ha268 a268
         refine wpList_nil ?_
         refine then_n ?_
         refine wp_seq ?_
         refine wp_region_lit ?_
         refine wl_val ha275 rfl rfl rfl (op_move ha275 rfl rfl) ?_
         intro a276 ha276; clear ha275 a275
         refine wl_val ha276 rfl rfl rfl (op_eql ha276 rfl rfl rfl) ?_
         intro a277 ha277; clear ha276 a276
         refine wl_val ha277 rfl rfl rfl (op_move ha277 rfl rfl) ?_
         intro a278 ha278; clear ha277 a277
         by_cases c279 : (rdC ((txT ((q14)))) : Int) = (0 : Int)
         ·
          rw [decide_eq_true c279] at ha278
          obtain ⟨hy1, hy2⟩ := rd_ok c279
          refine wl_val ha278 rfl rfl rfl (op_loadS ha278 rfl Try.underlying28 ti28 rfl rfl hb272.cells) ?_
          intro a280 ha280; clear ha278 a278
          refine wl_val ha280 rfl rfl rfl (op_loadS ha280 rfl Try.underlying28 ti28 rfl rfl hb33.cells) ?_
          intro a281 ha281; clear ha280 a280
          refine wl_callR ha281 rfl rfl rfl (op_call ha281 rfl cb45 rfl) (c_laws_likeTable _ u251 u253 ((rdT ((txT ((q14)))))) u15 u17 ((q14)) (ho252.rds pos_shStr) ((rds_shRowN (ho254.fin (by omega) (by omega) (by omega)) hN256).cast hE257) (ho16.rds pos_shStr) ((rds_shRowN (ho18.fin (by omega) (by omega) (by omega)) hN20).cast hE21)) ?_
          rintro v282 w283 he284 rfl a285 ha285; clear ha281 a281
          have hx286 := hx274.trans' he284
          have hzhx286 := he284.size
          replace ho16 := ho16.ext he284
          replace ho18 := ho18.ext he284
          replace hN20 := hN20.ext he284
          replace hb33 := hb33.ext he284
          replace ho252 := ho252.ext he284
          replace ho254 := ho254.ext he284
          replace hN256 := hN256.ext he284
          replace hb272 := hb272.ext he284
          refine wl_val ha285 rfl rfl rfl (op_pick_t ha285 rfl rfl rfl) ?_
          intro a287 ha287; clear ha285 a285
          refine wl_val ha287 rfl rfl rfl (op_assign ha287 rfl rfl) ?_
          intro a288 ha288; clear ha287 a287
          refine wpList_nil ?_
          refine then_n ?_
          refine wp_ret ?_
          refine ret1 ha288 rfl rfl ?_
          clear ha288 a288
          exact ret_mk hx286 (congrArg Value.bool (by first | rfl | (exact absurd rfl c166) | (simp at c163; done) | (simp at c152; done) | (simp at c8; done) | (exact absurd hy2 c166) | (exact absurd hx2 c166) | (exact absurd (if_pos hy1) c166) | (rw [hx1]; simp; done) | (simp [hx1]; done) | (have h9 := hx1; simp_all; done) | omega))
         ·
          rw [decide_eq_false c279] at ha278
          refine wl_skip ha278 rfl rfl rfl ?_
          intro a289 ha289; clear ha278 a278
          refine wl_skip ha289 rfl rfl rfl ?_
          intro a290 ha290; clear ha289 a289
          refine wl_skip ha290 rfl rfl rfl ?_
          intro a291 ha291; clear ha290 a290
          refine wl_val ha291 rfl rfl rfl (op_pick_f ha291 rfl rfl rfl) ?_
          intro a292 ha292; clear ha291 a291
          refine wl_val ha292 rfl rfl rfl (op_assign ha292 rfl rfl) ?_
          intro a293 ha293; clear ha292 a292
          refine wpList_nil ?_
          refine then_n ?_
          refine wp_ret ?_
          refine ret1 ha293 rfl rfl ?_
          clear ha293 a293
          exact ret_mk hx274 (congrArg Value.bool (by first | rfl | (exact absurd rfl c279) | (exact absurd rfl c166) | (simp at c163; done) | (simp at c152; done) | (simp at c8; done) | (exact absurd hy2 c166) | (exact absurd hx2 c166) | (exact absurd (if_pos hy1) c166) | (exact absurd hy2 c279) | (exact absurd hx2 c279) | (exact absurd (if_pos hy1) c279) | (rw [hx1]; simp; done) | (simp [hx1]; done) | (have h9 := hx1; simp_all; done) | omega))
        ·
         rw [decide_eq_false c246] at ha245
         refine cond_t ha245 rfl ?_
         refine wp_seq ?_
         clear ho16 ho18 hN20 hb33
         refine wp_region_lit ?_
         refine wl_val ha245 rfl rfl rfl (op_assign ha245 rfl rfl) ?_
         intro a294 ha294; clear ha245 a245
         refine wpList_nil ?_
         refine then_n ?_
         refine wp_ret ?_
         refine then_r ?_
         refine ret1 ha294 rfl rfl ?_
         clear ha294 a294
         exact ret_mk hx158 (congrArg Value.bool (by first | rfl | (exact absurd rfl c246) | (exact absurd rfl c166) | (simp at c163; done) | (simp at c152; done) | (simp at c8; done) | (exact absurd hy2 c166) | (exact absurd hx2 c166) | (exact absurd (if_pos hy1) c166) | (exact absurd hy2 c246) | (exact absurd hx2 c246) | (exact absurd (if_pos hy1) c246) | (rw [hx1]; simp; done) | (simp [hx1]; done) | (have h9 := hx1; simp_all; done) | omega))
      ·
       rw [c163] at ha162
       refine cond_t ha162 rfl ?_
       refine wp_seq ?_
       clear ho16 ho18 hN20 hb33 ho72 ho74 hN76 hb92 ho101 ho103 hN105 hb121
       refine wp_region_lit ?_
       refine wl_val ha162 rfl rfl rfl (op_assign ha162 rfl rfl) ?_
       intro a295 ha295; clear ha162 a162
       refine wpList_nil ?_
       refine then_n ?_
       refine wp_ret ?_
       refine then_r ?_
       refine ret1 ha295 rfl rfl ?_
       clear ha295 a295
       exact ret_mk hx158 (congrArg Value.bool (by first | rfl | (exact absurd rfl c163) | (simp at c163; done) | (simp at c152; done) | (simp at c8; done) | (exact absurd hy2 c163) | (exact absurd hx2 c163) | (exact absurd (if_pos hy1) c163) | (rw [hx1]; simp; done) | (simp [hx1]; done) | (have h9 := hx1; simp_all; done) | omega))
     ·
      rw [c152] at ha151
      refine wl_skip ha151 rfl rfl rfl ?_
      intro a296 ha296; clear ha151 a151
      refine wl_skip ha296 rfl rfl rfl ?_
      intro a297 ha297; clear ha296 a296
      refine wl_skip ha297 rfl rfl rfl ?_
      intro a298 ha298; clear ha297 a297
      refine wl_skip ha298 rfl rfl rfl ?_
      intro a299 ha299; clear ha298 a298
      refine wl_skip ha299 rfl rfl rfl ?_
      intro a300 ha300; clear ha299 a299
      refine wl_val ha300 rfl rfl rfl (op_pick_t ha300 rfl rfl rfl) ?_
      intro a301 ha301; clear ha300 a300
      refine wpList_nil ?_
      refine then_n ?_
      refine cond_t ha301 rfl ?_
      refine wp_seq ?_
      clear ho16 ho18 hN20 hb33 ho72 ho74 hN76 hb92 ho101 ho103 hN105 hb121
      refine wp_region_lit ?_
      refine wl_val ha301 rfl rfl rfl (op_assign ha301 rfl rfl) ?_
      intro a302 ha302; clear ha301 a301
      refine wpList_nil ?_
      refine then_n ?_
      refine wp_ret ?_
      refine then_r ?_
      refine ret1 ha302 rfl rfl ?_
      clear ha302 a302
      exact ret_mk hx148 (congrArg Value.bool (by first | rfl | (exact absurd rfl c152) | (simp at c152; done) | (simp at c8; done) | (exact absurd hy2 c152) | (exact absurd hx2 c152) | (exact absurd (if_pos hy1) c152) | (rw [hx1]; simp; done) | (simp [hx1]; done) | (have h9 := hx1; simp_all; done) | omega))
    ·
     rw [decide_eq_false c141] at ha140
     refine wl_skip ha140 rfl rfl rfl ?_
     intro a303 ha303; clear ha140 a140
     refine wl_skip ha303 rfl rfl rfl ?_
     intro a304 ha304; clear ha303 a303
     refine wl_skip ha304 rfl rfl rfl ?_
     intro a305 ha305; clear ha304 a304
     refine wl_skip ha305 rfl rfl rfl ?_
     intro a306 ha306; clear ha305 a305
     refine wl_val ha306 rfl rfl rfl (op_pick_t ha306 rfl rfl rfl) ?_
     intro a307 ha307; clear ha306 a306
     refine wl_val ha307 rfl rfl rfl (op_move ha307 rfl rfl) ?_
     intro a308 ha308; clear ha307 a307
     refine wl_skip ha308 rfl rfl rfl ?_
     intro a309 ha309; clear ha308 a308
     refine wl_skip ha309 rfl rfl rfl ?_
     intro a310 ha310; clear ha309 a309
     refine wl_skip ha310 rfl rfl rfl ?_
     intro a311 ha311; clear ha310 a310
     refine wl_skip ha311 rfl rfl rfl ?_
     intro a312 ha312; clear ha311 a311
     refine wl_skip ha312 rfl rfl rfl ?_
     intro a313 ha313; clear ha312 a312
     refine wl_val ha313 rfl rfl rfl (op_pick_t ha313 rfl rfl rfl) ?_
     intro a314 ha314; clear ha313 a313
     refine wpList_nil ?_
     refine then_n ?_
     refine cond_t ha314 rfl ?_
     refine wp_seq ?_
     clear ho16 ho18 hN20 hb33 ho72 ho74 hN76 hb92 ho101 ho103 hN105 hb121
     refine wp_region_lit ?_
     refine wl_val ha314 rfl rfl rfl (op_assign ha314 rfl rfl) ?_
     intro a315 ha315; clear ha314 a314
     refine wpList_nil ?_
     refine then_n ?_
     refine wp_ret ?_
     refine then_r ?_
     refine ret1 ha315 rfl rfl ?_
     clear ha315 a315
     exact ret_mk hx123 (congrArg Value.bool (by first | rfl | (exact absurd rfl c141) | (simp at c8; done) | (exact absurd hy2 c141) | (exact absurd hx2 c141) | (exact absurd (if_pos hy1) c141) | (rw [hx1]; simp; done) | (simp [hx1]; done) | (have h9 := hx1; simp_all; done) | omega))
   ·
    rw [decide_eq_false c135] at ha134
    refine wl_skip ha134 rfl rfl rfl ?_
    intro a316 ha316; clear ha134 a134
    refine wl_skip ha316 rfl rfl rfl ?_
    intro a317 ha317; clear ha316 a316
    refine wl_skip ha317 rfl rfl rfl ?_
    intro a318 ha318; clear ha317 a317
    refine wl_val ha318 rfl rfl rfl (op_pick_t ha318 rfl rfl rfl) ?_
    intro a319 ha319; clear ha318 a318
    refine wl_val ha319 rfl rfl rfl (op_move ha319 rfl rfl) ?_
    intro a320 ha320; clear ha319 a319
    refine wl_skip ha320 rfl rfl rfl ?_
    intro a321 ha321; clear ha320 a320
    refine wl_skip ha321 rfl rfl rfl ?_
    intro a322 ha322; clear ha321 a321
    refine wl_skip ha322 rfl rfl rfl ?_
    intro a323 ha323; clear ha322 a322
    refine wl_skip ha323 rfl rfl rfl ?_
    intro a324 ha324; clear ha323 a323
    refine wl_val ha324 rfl rfl rfl (op_pick_t ha324 rfl rfl rfl) ?_
    intro a325 ha325; clear ha324 a324
    refine wl_val ha325 rfl rfl rfl (op_move ha325 rfl rfl) ?_
    intro a326 ha326; clear ha325 a325
    refine wl_skip ha326 rfl rfl rfl ?_
    intro a327 ha327; clear ha326 a326
    refine wl_skip ha327 rfl rfl rfl ?_
    intro a328 ha328; clear ha327 a327
    refine wl_skip ha328 rfl rfl rfl ?_
    intro a329 ha329; clear ha328 a328
    refine wl_skip ha329 rfl rfl rfl ?_
    intro a330 ha330; clear ha329 a329
    refine wl_skip ha330 rfl rfl rfl ?_
    intro a331 ha331; clear ha330 a330
    refine wl_val ha331 rfl rfl rfl (op_pick_t ha331 rfl rfl rfl) ?_
    intro a332 ha332; clear ha331 a331
    refine wpList_nil ?_
    refine then_n ?_
    refine cond_t ha332 rfl ?_
    refine wp_seq ?_
    clear ho16 ho18 hN20 hb33 ho72 ho74 hN76 hb92 ho101 ho103 hN105 hb121
    refine wp_region_lit ?_
    refine wl_val ha332 rfl rfl rfl (op_assign ha332 rfl rfl) ?_
    intro a333 ha333; clear ha332 a332
    refine wpList_nil ?_
    refine then_n ?_
    refine wp_ret ?_
    refine then_r ?_
    refine ret1 ha333 rfl rfl ?_
    clear ha333 a333
    exact ret_mk hx123 (congrArg Value.bool (by first | rfl | (exact absurd rfl c135) | (simp at c8; done) | (exact absurd hy2 c135) | (exact absurd hx2 c135) | (exact absurd (if_pos hy1) c135) | (rw [hx1]; simp; done) | (simp [hx1]; done) | (have h9 := hx1; simp_all; done) | omega))
  ·
   rw [decide_eq_false c129] at ha128
   refine wl_skip ha128 rfl rfl rfl ?_
   intro a334 ha334; clear ha128 a128
   refine wl_skip ha334 rfl rfl rfl ?_
   intro a335 ha335; clear ha334 a334
   refine wl_skip ha335 rfl rfl rfl ?_
   intro a336 ha336; clear ha335 a335
   refine wl_val ha336 rfl rfl rfl (op_pick_t ha336 rfl rfl rfl) ?_
   intro a337 ha337; clear ha336 a336
   refine wl_val ha337 rfl rfl rfl (op_move ha337 rfl rfl) ?_
   intro a338 ha338; clear ha337 a337
   refine wl_skip ha338 rfl rfl rfl ?_
   intro a339 ha339; clear ha338 a338
   refine wl_skip ha339 rfl rfl rfl ?_
   intro a340 ha340; clear ha339 a339
   refine wl_skip ha340 rfl rfl rfl ?_
   intro a341 ha341; clear ha340 a340
   refine wl_val ha341 rfl rfl rfl (op_pick_t ha341 rfl rfl rfl) ?_
   intro a342 ha342; clear ha341 a341
   refine wl_val ha342 rfl rfl rfl (op_move ha342 rfl rfl) ?_
   intro a343 ha343; clear ha342 a342
   refine wl_skip ha343 rfl rfl rfl ?_
   intro a344 ha344; clear ha343 a343
   refine wl_skip ha344 rfl rfl rfl ?_
   intro a345 ha345; clear ha344 a344
   refine wl_skip ha345 rfl rfl rfl ?_
   intro a346 ha346; clear ha345 a345
   refine wl_skip ha346 rfl rfl rfl ?_
   intro a347 ha347; clear ha346 a346
   refine wl_val ha347 rfl rfl rfl (op_pick_t ha347 rfl rfl rfl) ?_
   intro a348 ha348; clear ha347 a347
   refine wl_val ha348 rfl rfl rfl (op_move ha348 rfl rfl) ?_
   intro a349 ha349; clear ha348 a348
   refine wl_skip ha349 rfl rfl rfl ?_
   intro a350 ha350; clear ha349 a349
   refine wl_skip ha350 rfl rfl rfl ?_
   intro a351 ha351; clear ha350 a350
   refine wl_skip ha351 rfl rfl rfl ?_
   intro a352 ha352; clear ha351 a351
   refine wl_skip ha352 rfl rfl rfl ?_
   intro a353 ha353; clear ha352 a352
   refine wl_skip ha353 rfl rfl rfl ?_
   intro a354 ha354; clear ha353 a353
   refine wl_val ha354 rfl rfl rfl (op_pick_t ha354 rfl rfl rfl) ?_
   intro a355 ha355; clear ha354 a354
   refine wpList_nil ?_
   refine then_n ?_
   refine cond_t ha355 rfl ?_
   refine wp_seq ?_
   clear ho16 ho18 hN20 hb33 ho72 ho74 hN76 hb92 ho101 ho103 hN105 hb121
   refine wp_region_lit ?_
   refine wl_val ha355 rfl rfl rfl (op_assign ha355 rfl rfl) ?_
   intro a356 ha356; clear ha355 a355
   refine wpList_nil ?_
   refine then_n ?_
   refine wp_ret ?_
   refine then_r ?_
   refine ret1 ha356 rfl rfl ?_
   clear ha356 a356
   exact ret_mk hx123 (congrArg Value.bool (by first | rfl | (exact absurd rfl c129) | (simp at c8; done) | (exact absurd hy2 c129) | (exact absurd hx2 c129) | (exact absurd (if_pos hy1) c129) | (rw [hx1]; simp; done) | (simp [hx1]; done) | (have h9 := hx1; simp_all; done) | omega))


end Go.Proofs.Ytjpldgicibnkcaa
