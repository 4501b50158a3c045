/- The helpers of the laws that mark memory. -/
import Derived.Test.YtkdnclpgijkceaaL1
import Derived.Test.YtkdnclpgijkceaaD1
namespace Go.Proofs.Ytkdnclpgijkceaa
open Go Go.RowKit

/-- The text of a mark. -/
def mkT (k : Int) : Str := if k ≤ 0 then [109, 48] else 109 :: digs k.toNat
def mkI (k : Int) : Int := k
def okI (x : Int) (k : Int) : Bool := decide (x = k)
theorem okI_mk (k : Int) : okI (mkI k) k = true := by simp [okI, mkI]
def mkR (k : Int) : Int × Str := (k, mkT (k + 1))
def okR (x : Int × Str) (k : Int) : Bool := decide (x.1 = k) && decide (x.2 = mkT (k + 1))
theorem okR_mk (k : Int) : okR (mkR k) k = true := by simp [okR, mkR]
theorem mkT_step {m : Int} (h : 0 < m) : (if 0 < m / 10 then digs (m / 10).toNat else []) ++ [UInt8.ofNat (48 + m.toNat % 10)] = digs m.toNat := by
  by_cases h10 : m < 10
  · rw [if_neg (by omega), digs_lt (by omega)]; simp
  · have e : (m / 10).toNat = m.toNat / 10 := by omega
    rw [if_pos (by omega), digs_ge (n := m.toNat) (by omega), e]
theorem hset_self {α : Type} {xs : List α} {i : Nat} {x y : α} (h : (xs.set i x)[i]? = some y) (hi : i < xs.length) : y = x := by
  rw [List.getElem?_set_self hi] at h; exact (Option.some.inj h).symm
theorem mkT_len {k : Int} (h : k ≤ 9223372036854775807) : (mkT k).length ≤ 20 := by
  unfold mkT
  split
  · simp
  · have := digs_len19 (n := k.toNat) (by omega); simp; omega

theorem c_laws_markText (w0 : World) (k : Int) (g0 : k ≤ 9223372036854775807) :
    Calls Try.prog 54 #[.int .i64 k] w0 (Ret w0 (fun v _ => v = St (mkT k))) := by
  refine enter (N := 20) Try.func54 rfl rfl rfl ?_
  intro a0 ha0
  have hx0 := Ext.rfl' w0
  refine wp_seq ?_
  refine wp_region_lit ?_
  refine wl_val ha0 rfl rfl rfl (op_assign ha0 rfl rfl) ?_
  intro a1 ha1; clear ha0 a0
  refine wpList_nil ?_
  refine then_n ?_
  refine wp_seq ?_
  refine wp_seq ?_
  refine wp_region_lit ?_
  refine wl_val ha1 rfl rfl rfl (op_move ha1 rfl rfl) ?_
  intro a2 ha2; clear ha1 a1
  refine wl_val ha2 rfl rfl rfl (op_leq ha2 rfl rfl rfl) ?_
  intro a3 ha3; clear ha2 a2
  refine wpList_nil ?_
  refine then_n ?_
  by_cases c4 : k ≤ (0 : Int)
  ·
    rw [decide_eq_true c4] at ha3
    refine cond_t ha3 rfl ?_
    refine wp_seq ?_
    refine wp_region_lit ?_
    refine wl_val ha3 rfl rfl rfl (op_assign ha3 rfl rfl) ?_
    intro a5 ha5; clear ha3 a3
    refine wpList_nil ?_
    refine then_n ?_
    refine wp_ret ?_
    refine then_r ?_
    refine ret1 ha5 rfl rfl ?_
    clear ha5 a5
    exact ret_mk hx0 (congrArg St (by (unfold mkT; rw [if_pos (by omega)])))
  ·
    rw [decide_eq_false c4] at ha3
    refine cond_f ha3 rfl ?_
    refine wp_skip ?_
    refine then_n ?_
    refine wp_seq ?_
    refine wp_region_lit ?_
    refine wl_val ha3 rfl rfl rfl (op_assign ha3 rfl rfl) ?_
    intro a6 ha6; clear ha3 a3
    refine wpList_nil ?_
    refine then_n ?_
    refine wp_seq ?_
    refine wp_block ?_
    refine loop_inv (X := Int × Str) (fun (⟨m, t⟩ : Int × Str) fr wl => Sl 20 fr [(0, .int .i64 m), (3, St t)] ∧ Ext w0 wl ∧ w0.heap.size ≤ wl.heap.size ∧ (0 ≤ m) ∧ (m ≤ 9223372036854775807) ∧ ((if 0 < m then digs m.toNat else []) ++ t = digs k.toNat) ∧ (0 < k)) (fun (⟨m, t⟩ : Int × Str) => m.toNat) (k, ([] : Str)) ?_ ?_
    ·
      exact ⟨(Sl.cons_ ha6 rfl (int_eq (by omega)) (Sl.cons_ ha6 rfl rfl (Sl.nil_ ha6))), hx0, (by omega), (by omega), (by omega), (by rw [if_pos (by omega)]; simp), (by omega)⟩
    ·
      clear ha6 a6
      rintro ⟨m, t⟩ a9 w7 ⟨ha9, hx8, hzl10, hm0, hm1, hF, hn⟩
      have hzhx8 := hx8.size
      refine wp_seq ?_
      refine wp_seq ?_
      refine wp_region_lit ?_
      refine wl_val ha9 rfl rfl rfl (op_move ha9 rfl rfl) ?_
      intro a11 ha11; clear ha9 a9
      refine wl_val ha11 rfl rfl rfl (op_gtr ha11 rfl rfl rfl) ?_
      intro a12 ha12; clear ha11 a11
      refine wpList_nil ?_
      refine then_n ?_
      by_cases c13 : (0 : Int) < m
      ·
        rw [decide_eq_true c13] at ha12
        refine cond_t ha12 rfl ?_
        refine wp_skip ?_
        refine then_n ?_
        refine wp_block ?_
        refine wp_seq ?_
        refine wp_region_lit ?_
        refine wl_val ha12 rfl rfl rfl (op_move ha12 rfl rfl) ?_
        intro a14 ha14; clear ha12 a12
        refine wl_val ha14 rfl rfl rfl ((op_rem ha14 rfl rfl rfl (by omega)).int (Int.tmod_eq_emod_of_nonneg (by omega))) ?_
        intro a15 ha15; clear ha14 a14
        refine wl_val ha15 rfl rfl rfl ((op_add ha15 rfl rfl rfl).int (IntWalk.i64_in _ (by omega))) ?_
        intro a16 ha16; clear ha15 a15
        refine wl_val ha16 rfl rfl rfl ((op_conv_int ha16 rfl Try.underlying3 Try.underlying5 rfl).int (IntWalk.u8_in _ (by omega))) ?_
        intro a17 ha17; clear ha16 a16
        refine wl_eff ha17 rfl rfl rfl (op_buildSlice (s := shU8) (xs := [UInt8.ofNat ((48 + (m.toNat % 10)))]) (cs := [.int .u8 ((48 : Int) + (m % (10 : Int)))]) (vs := [(0, .int .u8 ((48 : Int) + (m % (10 : Int))))]) (S := fun _ => False) (le := w7.heap.size) ha17 rfl pos_shU8 Try.underlying51 ti5 rfl rfl (by decide) (by kernel_rfl) (Els.single (mk_shU8i ((48 + (m.toNat % 10))) (by omega) (by omega))) (fun _ h => h.elim)) ?_
        rintro v18 w19 ⟨ho20, he21, hob22⟩ a23 ha23; clear ha17 a17
        have hx24 := hx8.trans' he21
        have hzhx24 := he21.size
        refine wl_val ha23 rfl rfl rfl (op_conv_str ha23 rfl Try.underlying51 Try.underlying5 Try.underlying9 rfl (ho20.rds pos_shU8)) ?_
        intro a25 ha25; clear ha23 a23
        refine wl_val ha25 rfl rfl rfl (op_move ha25 rfl rfl) ?_
        intro a26 ha26; clear ha25 a25
        refine wl_val ha26 rfl rfl rfl (op_sadd ha26 rfl rfl rfl (by have h1 := digs_len19 (n := k.toNat) (by omega); rw [← hF, List.length_append] at h1; have h2 := digs_pos m.toNat; first | (rw [if_pos (by omega)] at h1; simp <;> omega) | (rw [if_neg (by omega)] at h1; simp at h1; simp <;> omega))) ?_
        intro a27 ha27; clear ha26 a26
        refine wl_val ha27 rfl rfl rfl (op_assign ha27 rfl rfl) ?_
        intro a28 ha28; clear ha27 a27
        refine wpList_nil ?_
        refine then_n ?_
        refine wp_region_lit ?_
        refine wl_val ha28 rfl rfl rfl (op_move ha28 rfl rfl) ?_
        intro a29 ha29; clear ha28 a28
        refine wl_val ha29 rfl rfl rfl ((op_quo ha29 rfl rfl rfl (by omega)).int (IntWalk.i64_quo _ _ (by omega))) ?_
        intro a30 ha30; clear ha29 a29
        refine wl_val ha30 rfl rfl rfl (op_assign ha30 rfl rfl) ?_
        intro a31 ha31; clear ha30 a30
        refine wpList_nil ?_
        refine block_n ?_
        refine round_end (x := (m, t)) ((m / (10 : Int)), ([UInt8.ofNat ((48 + (m.toNat % 10)))]) ++ t) ?_ ?_
        ·
          refine ⟨(Sl.cons_ ha31 rfl (int_eq (by omega)) (Sl.cons_ ha31 rfl rfl (Sl.nil_ ha31))), hx24, (by omega), (by omega), (by omega), (by rw [if_pos (by omega), ← mkT_step (by omega), List.append_assoc] at hF; exact hF), (by omega)⟩
        · show (((m / (10 : Int))).toNat : Nat) < m.toNat; omega
      ·
        rw [decide_eq_false c13] at ha12
        refine cond_f ha12 rfl ?_
        refine wp_exit ?_
        refine then_e ?_
        refine then_e ?_
        refine block_hit ?_
        refine then_n ?_
        refine wp_seq ?_
        refine wp_region_lit ?_
        refine wl_val ha12 rfl rfl rfl (op_move ha12 rfl rfl) ?_
        intro a32 ha32; clear ha12 a12
        refine wl_val ha32 rfl rfl rfl (op_sadd ha32 rfl rfl rfl (by have h1 := digs_len19 (n := k.toNat) (by omega); rw [← hF, List.length_append] at h1; have h2 := digs_pos m.toNat; first | (rw [if_pos (by omega)] at h1; simp <;> omega) | (rw [if_neg (by omega)] at h1; simp at h1; simp <;> omega))) ?_
        intro a33 ha33; clear ha32 a32
        refine wl_val ha33 rfl rfl rfl (op_assign ha33 rfl rfl) ?_
        intro a34 ha34; clear ha33 a33
        refine wpList_nil ?_
        refine then_n ?_
        refine wp_ret ?_
        refine ret1 ha34 rfl rfl ?_
        clear ha34 a34
        exact ret_mk hx8 (congrArg St (by (unfold mkT; rw [if_neg (by omega), ← hF]; rw [if_neg (by omega)]; rfl)))

theorem c_laws_markInt64S (w0 : World) (v_a : Value) (a : List Int) {lo_a le_a hi_a : Nat} (k : Int) (h_a : Own shI64 2 lo_a le_a hi_a w0 v_a a) (g0 : 0 ≤ k) (g1 : k ≤ 4611686018427387904) (g2 : a.length ≤ 4611686018427) :
    Calls Try.prog 35 #[v_a, .int .i64 k] w0 (RetS w0 v_a.ownBlock (fun v w1 => v = .int .i64 (k + 1 * (a.length : Nat)) ∧ Own shI64 2 lo_a le_a hi_a w1 v_a (mkN mkI 1 a.length k))) := by
  refine enter (N := 19) Try.func35 rfl rfl rfl ?_
  intro a0 ha0
  have hx0 := Stp.rfl' w0 v_a.ownBlock
  have hl_a := (h_a.rds pos_shI64).length_le
  refine wp_seq ?_
  refine wp_region_lit ?_
  refine wl_val ha0 rfl rfl rfl (op_assign ha0 rfl rfl) ?_
  intro a1 ha1; clear ha0 a0
  refine wpList_nil ?_
  refine then_n ?_
  refine wp_seq ?_
  refine wp_seq ?_
  refine wp_region_lit ?_
  refine wl_val ha1 rfl rfl rfl (op_assign ha1 rfl rfl) ?_
  intro a2 ha2; clear ha1 a1
  refine wpList_nil ?_
  refine then_n ?_
  refine wp_block ?_
  refine loop_inv (X := Nat × Int × (List Int)) (fun (⟨i, q, acc⟩ : Nat × Int × (List Int)) fr wl => Sl 19 fr [(0, v_a), (1, .int .i64 q), (5, .int .i64 ((i : Nat) : Int))] ∧ Stp w0 wl v_a.ownBlock ∧ Own shI64 2 lo_a le_a hi_a wl v_a acc ∧ w0.heap.size ≤ wl.heap.size ∧ (i ≤ a.length) ∧ (q = k + 1 * (i : Int)) ∧ (acc = mkN mkI 1 i k ++ a.drop i) ∧ (acc.length = a.length)) (fun (⟨i, q, acc⟩ : Nat × Int × (List Int)) => a.length - i) (0, k, a) ?_ ?_
  ·
    exact ⟨(Sl.cons_ ha2 rfl rfl (Sl.cons_ ha2 rfl (int_eq (by omega)) (Sl.cons_ ha2 rfl (int_eq (by omega)) (Sl.nil_ ha2)))), hx0, h_a, (by omega), (by omega), (by simp), (by simp [mkN]), (by rfl)⟩
  ·
    clear ha2 a2
    rintro ⟨i, q, acc⟩ a6 w3 ⟨ha6, hx4, hf5, hzl7, hi, hq, hF, hl⟩
    have hzhx4 := hx4.size
    refine wp_seq ?_
    refine wp_seq ?_
    refine wp_region_lit ?_
    refine wl_val ha6 rfl rfl rfl (op_move ha6 rfl rfl) ?_
    intro a8 ha8; clear ha6 a6
    refine wl_val ha8 rfl rfl rfl (op_move ha8 rfl rfl) ?_
    intro a9 ha9; clear ha8 a8
    refine wl_val ha9 rfl rfl rfl (op_len_sl ha9 rfl Try.underlying44 rfl (hf5.rds pos_shI64)) ?_
    intro a10 ha10; clear ha9 a9
    refine wl_val ha10 rfl rfl rfl (op_lss ha10 rfl rfl rfl) ?_
    intro a11 ha11; clear ha10 a10
    refine wpList_nil ?_
    refine then_n ?_
    by_cases c12 : ((i : Nat) : Int) < ((acc.length : Nat) : Int)
    ·
      rw [decide_eq_true c12] at ha11
      refine cond_t ha11 rfl ?_
      refine wp_skip ?_
      refine then_n ?_
      refine wp_seq ?_
      refine wp_block ?_
      refine wp_seq ?_
      refine wp_region_lit ?_
      refine wl_val ha11 rfl rfl rfl (op_move ha11 rfl rfl) ?_
      intro a13 ha13; clear ha11 a11
      refine wl_val ha13 rfl rfl rfl (op_move ha13 rfl rfl) ?_
      intro a14 ha14; clear ha13 a13
      refine wl_val ha14 rfl rfl rfl (op_move ha14 rfl rfl) ?_
      intro a15 ha15; clear ha14 a14
      obtain ⟨x16, hx16⟩ := get_ex (xs := acc) (j := i) (by omega)
      obtain ⟨p17, c18, hi19, hc20, hr21, hs22⟩ := Rds.at_ (hf5.rds pos_shI64) hx16
      obtain ⟨rfl, b23⟩ := inv_shI64 hr21
      obtain ⟨_, _⟩ : _ ∧ _ := hs22
      refine wl_val ha15 rfl rfl rfl (op_indexAddr ha15 rfl Try.underlying44 ti2 rfl rfl (by omega) hi19) ?_
      intro a24 ha24; clear ha15 a15
      refine wl_effS ha24 rfl rfl (op_setElem (s := shI64) (ds := [.int .i64 q]) (S' := fun _ => False) ha24 rfl ti2 rfl rfl rfl hf5 pos_shI64 hi19 (by omega) (mk_shI64 q (by first | assumption | omega | (have h5 := mkT_len (k := q + 1) (by omega); exact Nat.le_trans h5 (by omega)))) (fun _ h => h.elim)) ?_
      rintro w25 ⟨ho27, hst26, hz28⟩
      have hx29 := hx4.trans' hst26
      have hzhx29 := hst26.size
      clear hf5
      have hlsho27 : ((acc.set i q)).length = acc.length := List.length_set
      refine wpList_nil ?_
      refine then_n ?_
      refine wp_region_lit ?_
      refine wl_val ha24 rfl rfl rfl (op_move ha24 rfl rfl) ?_
      intro a30 ha30; clear ha24 a24
      refine wl_val ha30 rfl rfl rfl ((op_add ha30 rfl rfl rfl).int (IntWalk.i64_in _ (by omega))) ?_
      intro a31 ha31; clear ha30 a30
      refine wl_val ha31 rfl rfl rfl (op_assign ha31 rfl rfl) ?_
      intro a32 ha32; clear ha31 a31
      refine wpList_nil ?_
      refine block_n ?_
      refine then_n ?_
      refine wp_region_lit ?_
      refine wl_val ha32 rfl rfl rfl (op_move ha32 rfl rfl) ?_
      intro a33 ha33; clear ha32 a32
      refine wl_val ha33 rfl rfl rfl ((op_add ha33 rfl rfl rfl).int (IntWalk.i64_in _ (by omega))) ?_
      intro a34 ha34; clear ha33 a33
      refine wl_val ha34 rfl rfl rfl (op_assign ha34 rfl rfl) ?_
      intro a35 ha35; clear ha34 a34
      refine wpList_nil ?_
      refine round_end (x := (i, q, acc)) ((i + 1), (q + (1 : Int)), (acc.set i q)) ?_ ?_
      ·
        refine ⟨(Sl.cons_ ha35 rfl rfl (Sl.cons_ ha35 rfl (int_eq (by omega)) (Sl.cons_ ha35 rfl (int_eq (by omega)) (Sl.nil_ ha35)))), hx29, ho27, (by omega), (by omega), (by omega), (by exact mkN_step hF (by omega) rfl hq), (by simp only [List.length_set]; exact hl)⟩
      · show (a.length - ((i + 1)) : Nat) < a.length - i; omega
    ·
      rw [decide_eq_false c12] at ha11
      refine cond_f ha11 rfl ?_
      refine wp_exit ?_
      refine then_e ?_
      refine then_e ?_
      refine block_hit ?_
      refine then_n ?_
      refine wp_seq ?_
      refine wp_region_lit ?_
      refine wl_val ha11 rfl rfl rfl (op_move ha11 rfl rfl) ?_
      intro a36 ha36; clear ha11 a11
      refine wl_val ha36 rfl rfl rfl (op_assign ha36 rfl rfl) ?_
      intro a37 ha37; clear ha36 a36
      refine wpList_nil ?_
      refine then_n ?_
      refine wp_ret ?_
      refine ret1 ha37 rfl rfl ?_
      clear ha37 a37
      exact ret_mkS hx4 ⟨int_eq (by omega), hf5.cast (by rw [hF, drop_nil (by omega), List.append_nil]; congr 1; omega)⟩

theorem c_laws_heldInt64S (w0 : World) (v_a : Value) (a : List Int) {S_a : Nat → Prop} (k : Int) (h_a : Rds shI64 S_a w0 v_a a) (g0 : 0 ≤ k) (g1 : k ≤ 4611686018427387904) (g2 : a.length ≤ 4611686018427) :
    Calls Try.prog 36 #[v_a, .int .i64 k] w0 (Ret w0 (fun v _ => v = .int .i64 (heldG okI 1 a k))) := by
  refine enter (N := 21) Try.func36 rfl rfl rfl ?_
  intro a0 ha0
  have hx0 := Ext.rfl' w0
  have hl_a := h_a.length_le
  refine wp_seq ?_
  refine wp_region_lit ?_
  refine wl_val ha0 rfl rfl rfl (op_assign ha0 rfl rfl) ?_
  intro a1 ha1; clear ha0 a0
  refine wpList_nil ?_
  refine then_n ?_
  refine wp_seq ?_
  refine wp_seq ?_
  refine wp_region_lit ?_
  refine wl_val ha1 rfl rfl rfl (op_assign ha1 rfl rfl) ?_
  intro a2 ha2; clear ha1 a1
  refine wpList_nil ?_
  refine then_n ?_
  refine wp_block ?_
  refine loop_inv (X := Nat × Int) (fun (⟨i, q⟩ : Nat × Int) fr wl => Sl 21 fr [(0, v_a), (1, .int .i64 q), (5, .int .i64 ((i : Nat) : Int))] ∧ Ext w0 wl ∧ w0.heap.size ≤ wl.heap.size ∧ (i ≤ a.length) ∧ (q = k + 1 * (i : Int)) ∧ (heldG okI 1 (a.drop i) q = heldG okI 1 a k)) (fun (⟨i, q⟩ : Nat × Int) => a.length - i) (0, k) ?_ ?_
  ·
    exact ⟨(Sl.cons_ ha2 rfl rfl (Sl.cons_ ha2 rfl (int_eq (by omega)) (Sl.cons_ ha2 rfl (int_eq (by omega)) (Sl.nil_ ha2)))), hx0, (by omega), (by omega), (by simp), (by rfl)⟩
  ·
    clear ha2 a2
    rintro ⟨i, q⟩ a5 w3 ⟨ha5, hx4, hzl6, hi, hq, hF⟩
    have hzhx4 := hx4.size
    refine wp_seq ?_
    refine wp_seq ?_
    refine wp_region_lit ?_
    refine wl_val ha5 rfl rfl rfl (op_move ha5 rfl rfl) ?_
    intro a7 ha7; clear ha5 a5
    refine wl_val ha7 rfl rfl rfl (op_move ha7 rfl rfl) ?_
    intro a8 ha8; clear ha7 a7
    refine wl_val ha8 rfl rfl rfl (op_len_sl ha8 rfl Try.underlying44 rfl h_a) ?_
    intro a9 ha9; clear ha8 a8
    refine wl_val ha9 rfl rfl rfl (op_lss ha9 rfl rfl rfl) ?_
    intro a10 ha10; clear ha9 a9
    refine wpList_nil ?_
    refine then_n ?_
    by_cases c11 : ((i : Nat) : Int) < ((a.length : Nat) : Int)
    ·
      rw [decide_eq_true c11] at ha10
      refine cond_t ha10 rfl ?_
      refine wp_skip ?_
      refine then_n ?_
      refine wp_seq ?_
      refine wp_block ?_
      refine wp_seq ?_
      refine wp_seq ?_
      refine wp_region_lit ?_
      refine wl_val ha10 rfl rfl rfl (op_move ha10 rfl rfl) ?_
      intro a12 ha12; clear ha10 a10
      refine wl_val ha12 rfl rfl rfl (op_move ha12 rfl rfl) ?_
      intro a13 ha13; clear ha12 a12
      obtain ⟨x14, hx14⟩ := get_ex (xs := a) (j := i) (by omega)
      obtain ⟨p15, c16, hi17, hc18, hr19, hs20⟩ := Rds.at_ h_a hx14
      obtain ⟨rfl, b21⟩ := inv_shI64 hr19
      refine wl_val ha13 rfl rfl rfl (op_indexAddr ha13 rfl Try.underlying44 ti2 rfl rfl (by omega) hi17) ?_
      intro a22 ha22; clear ha13 a13
      refine wl_val ha22 rfl rfl rfl (op_loadH ha22 rfl Try.underlying2 rfl rfl (hc18.ext hx4) rfl) ?_
      intro a23 ha23; clear ha22 a22
      refine wl_val ha23 rfl rfl rfl (op_move ha23 rfl rfl) ?_
      intro a24 ha24; clear ha23 a23
      refine wl_val ha24 rfl rfl rfl ((op_neq ha24 rfl rfl rfl).to (congrArg Value.bool decide_not)) ?_
      intro a25 ha25; clear ha24 a24
      refine wpList_nil ?_
      refine then_n ?_
      by_cases c26 : x14 = q
      ·
        rw [decide_eq_true c26] at ha25
        refine cond_f ha25 rfl ?_
        refine wp_skip ?_
        refine then_n ?_
        refine wp_region_lit ?_
        refine wl_val ha25 rfl rfl rfl (op_move ha25 rfl rfl) ?_
        intro a27 ha27; clear ha25 a25
        refine wl_val ha27 rfl rfl rfl ((op_add ha27 rfl rfl rfl).int (IntWalk.i64_in _ (by omega))) ?_
        intro a28 ha28; clear ha27 a27
        refine wl_val ha28 rfl rfl rfl (op_assign ha28 rfl rfl) ?_
        intro a29 ha29; clear ha28 a28
        refine wpList_nil ?_
        refine block_n ?_
        refine then_n ?_
        refine wp_region_lit ?_
        refine wl_val ha29 rfl rfl rfl (op_move ha29 rfl rfl) ?_
        intro a30 ha30; clear ha29 a29
        refine wl_val ha30 rfl rfl rfl ((op_add ha30 rfl rfl rfl).int (IntWalk.i64_in _ (by omega))) ?_
        intro a31 ha31; clear ha30 a30
        refine wl_val ha31 rfl rfl rfl (op_assign ha31 rfl rfl) ?_
        intro a32 ha32; clear ha31 a31
        refine wpList_nil ?_
        refine round_end (x := (i, q)) ((i + 1), (q + (1 : Int))) ?_ ?_
        ·
          refine ⟨(Sl.cons_ ha32 rfl rfl (Sl.cons_ ha32 rfl (int_eq (by omega)) (Sl.cons_ ha32 rfl (int_eq (by omega)) (Sl.nil_ ha32)))), hx4, (by omega), (by omega), (by omega), (by rw [drop_cons hx14] at hF; simp only [heldG] at hF; rw [if_pos (by simp [okI, c11, c26])] at hF; rw [← hF] <;> (congr 1 <;> omega))⟩
        · show (a.length - ((i + 1)) : Nat) < a.length - i; omega
      ·
        rw [decide_eq_false c26] at ha25
        refine cond_t ha25 rfl ?_
        refine wp_seq ?_
        refine wp_region_lit ?_
        refine wl_val ha25 rfl rfl rfl (op_assign ha25 rfl rfl) ?_
        intro a33 ha33; clear ha25 a25
        refine wpList_nil ?_
        refine then_n ?_
        refine wp_ret ?_
        refine then_r ?_
        refine block_r ?_
        refine then_r ?_
        refine then_r ?_
        refine block_r ?_
        refine then_r ?_
        refine ret1 ha33 rfl rfl ?_
        clear ha33 a33
        rw [drop_cons hx14] at hF; simp only [heldG] at hF; rw [if_neg (by simp [okI, c11, c26])] at hF
        exact ret_mk hx4 (int_eq (by exact hF))
    ·
      rw [decide_eq_false c11] at ha10
      refine cond_f ha10 rfl ?_
      refine wp_exit ?_
      refine then_e ?_
      refine then_e ?_
      refine block_hit ?_
      refine then_n ?_
      refine wp_seq ?_
      refine wp_region_lit ?_
      refine wl_val ha10 rfl rfl rfl (op_move ha10 rfl rfl) ?_
      intro a34 ha34; clear ha10 a10
      refine wl_val ha34 rfl rfl rfl (op_assign ha34 rfl rfl) ?_
      intro a35 ha35; clear ha34 a34
      refine wpList_nil ?_
      refine then_n ?_
      refine wp_ret ?_
      refine ret1 ha35 rfl rfl ?_
      clear ha35 a35
      rw [drop_nil (by omega)] at hF; simp only [heldG] at hF
      exact ret_mk hx4 (int_eq (by exact hF))

theorem c_laws_markRecordS (w0 : World) (v_a : Value) (a : List (Int × Str)) {lo_a le_a hi_a : Nat} (k : Int) (h_a : Own shRec 36 lo_a le_a hi_a w0 v_a a) (g0 : 0 ≤ k) (g1 : k ≤ 4611686018427387904) (g2 : a.length ≤ 4611686018427) :
    Calls Try.prog 24 #[v_a, .int .i64 k] w0 (RetS w0 v_a.ownBlock (fun v w1 => v = .int .i64 (k + 2 * (a.length : Nat)) ∧ Own shRec 36 lo_a le_a hi_a w1 v_a (mkN mkR 2 a.length k))) := by
  refine enter (N := 28) Try.func24 rfl rfl rfl ?_
  intro a0 ha0
  have hx0 := Stp.rfl' w0 v_a.ownBlock
  have hl_a := (h_a.rds pos_shRec).length_le
  refine wp_seq ?_
  refine wp_region_lit ?_
  refine wl_val ha0 rfl rfl rfl (op_assign ha0 rfl rfl) ?_
  intro a1 ha1; clear ha0 a0
  refine wpList_nil ?_
  refine then_n ?_
  refine wp_seq ?_
  refine wp_seq ?_
  refine wp_region_lit ?_
  refine wl_val ha1 rfl rfl rfl (op_assign ha1 rfl rfl) ?_
  intro a2 ha2; clear ha1 a1
  refine wpList_nil ?_
  refine then_n ?_
  refine wp_block ?_
  refine loop_inv (X := Nat × Int × (List (Int × Str))) (fun (⟨i, q, acc⟩ : Nat × Int × (List (Int × Str))) fr wl => Sl 28 fr [(0, v_a), (1, .int .i64 q), (5, .int .i64 ((i : Nat) : Int))] ∧ Stp w0 wl v_a.ownBlock ∧ Own shRec 36 lo_a le_a hi_a wl v_a acc ∧ w0.heap.size ≤ wl.heap.size ∧ (i ≤ a.length) ∧ (q = k + 2 * (i : Int)) ∧ (acc = mkN mkR 2 i k ++ a.drop i) ∧ (acc.length = a.length)) (fun (⟨i, q, acc⟩ : Nat × Int × (List (Int × Str))) => a.length - i) (0, k, a) ?_ ?_
  ·
    exact ⟨(Sl.cons_ ha2 rfl rfl (Sl.cons_ ha2 rfl (int_eq (by omega)) (Sl.cons_ ha2 rfl (int_eq (by omega)) (Sl.nil_ ha2)))), hx0, h_a, (by omega), (by omega), (by simp), (by simp [mkN]), (by rfl)⟩
  ·
    clear ha2 a2
    rintro ⟨i, q, acc⟩ a6 w3 ⟨ha6, hx4, hf5, hzl7, hi, hq, hF, hl⟩
    have hzhx4 := hx4.size
    refine wp_seq ?_
    refine wp_seq ?_
    refine wp_region_lit ?_
    refine wl_val ha6 rfl rfl rfl (op_move ha6 rfl rfl) ?_
    intro a8 ha8; clear ha6 a6
    refine wl_val ha8 rfl rfl rfl (op_move ha8 rfl rfl) ?_
    intro a9 ha9; clear ha8 a8
    refine wl_val ha9 rfl rfl rfl (op_len_sl ha9 rfl Try.underlying25 rfl (hf5.rds pos_shRec)) ?_
    intro a10 ha10; clear ha9 a9
    refine wl_val ha10 rfl rfl rfl (op_lss ha10 rfl rfl rfl) ?_
    intro a11 ha11; clear ha10 a10
    refine wpList_nil ?_
    refine then_n ?_
    by_cases c12 : ((i : Nat) : Int) < ((acc.length : Nat) : Int)
    ·
      rw [decide_eq_true c12] at ha11
      refine cond_t ha11 rfl ?_
      refine wp_skip ?_
      refine then_n ?_
      refine wp_seq ?_
      refine wp_block ?_
      refine wp_seq ?_
      refine wp_region_lit ?_
      refine wl_val ha11 rfl rfl rfl (op_move ha11 rfl rfl) ?_
      intro a13 ha13; clear ha11 a11
      refine wl_val ha13 rfl rfl rfl (op_move ha13 rfl rfl) ?_
      intro a14 ha14; clear ha13 a13
      refine wl_val ha14 rfl rfl rfl (op_move ha14 rfl rfl) ?_
      intro a15 ha15; clear ha14 a14
      obtain ⟨x16, hx16⟩ := get_ex (xs := acc) (j := i) (by omega)
      obtain ⟨p17, c18, hi19, hc20, hr21, hs22⟩ := Rds.at_ (hf5.rds pos_shRec) hx16
      obtain ⟨rfl, b23, b24⟩ := inv_shRec hr21
      obtain ⟨_, _⟩ : _ ∧ _ := hs22
      refine wl_val ha15 rfl rfl rfl (op_indexAddr ha15 rfl Try.underlying25 ti36 rfl rfl (by omega) hi19) ?_
      intro a25 ha25; clear ha15 a15
      refine wl_val ha25 rfl rfl rfl (op_fieldAddr (sz := 0) ha25 rfl Try.underlying36 rfl rfl ti2 rfl) ?_
      intro a26 ha26; clear ha25 a25
      refine wl_effS ha26 rfl rfl (op_setCells (s := shRec) (off := 0) (ds := [.int .i64 q]) (S' := fun _ => False) ha26 rfl ti2 rfl rfl rfl rfl (by simp [Value.oneCell']) hf5 hi19 (by omega) (Nat.le_of_ble_eq_true rfl) hc20 rfl (mk_shRec ((q, x16.2)) (by first | assumption | omega | (have h5 := mkT_len (k := q + 1) (by omega); exact Nat.le_trans h5 (by omega))) (by first | assumption | omega | (have h5 := mkT_len (k := q + 1) (by omega); exact Nat.le_trans h5 (by omega)))) (fun _ h => h.elim)) ?_
      rintro w27 ⟨ho29, hst28, hz30⟩
      have hx31 := hx4.trans' hst28
      have hzhx31 := hst28.size
      clear hf5
      have hlsho29 : ((acc.set i ((q, x16.2)))).length = acc.length := List.length_set
      refine wpList_nil ?_
      refine then_n ?_
      refine wp_seq ?_
      refine wp_region_lit ?_
      refine wl_val ha26 rfl rfl rfl (op_move ha26 rfl rfl) ?_
      intro a32 ha32; clear ha26 a26
      refine wl_val ha32 rfl rfl rfl ((op_add ha32 rfl rfl rfl).int (IntWalk.i64_in _ (by omega))) ?_
      intro a33 ha33; clear ha32 a32
      refine wl_val ha33 rfl rfl rfl (op_assign ha33 rfl rfl) ?_
      intro a34 ha34; clear ha33 a33
      refine wpList_nil ?_
      refine then_n ?_
      refine wp_seq ?_
      refine wp_region_lit ?_
      refine wl_val ha34 rfl rfl rfl (op_move ha34 rfl rfl) ?_
      intro a35 ha35; clear ha34 a34
      refine wl_val ha35 rfl rfl rfl (op_move ha35 rfl rfl) ?_
      intro a36 ha36; clear ha35 a35
      refine wl_val ha36 rfl rfl rfl (op_move ha36 rfl rfl) ?_
      intro a37 ha37; clear ha36 a36
      refine wl_callR ha37 rfl rfl rfl (op_call ha37 rfl cb54 rfl) (c_laws_markText _ (q + (1 : Int)) (by first | assumption | omega | (simp; omega) | (simp [mkN_length]; omega))) ?_
      rintro v38 w39 he40 rfl a41 ha41; clear ha37 a37
      have hx42 := hx31.trans' (Stp.of_ext he40 _)
      have hzhx42 := he40.size
      replace ho29 := ho29.ext he40
      obtain ⟨x43, hx43⟩ := get_ex (xs := (acc.set i ((q, x16.2)))) (j := i) (by omega)
      obtain ⟨p44, c45, hi46, hc47, hr48, hs49⟩ := Rds.at_ (ho29.rds pos_shRec) hx43
      obtain ⟨rfl, b50, b51⟩ := inv_shRec hr48
      obtain ⟨_, _⟩ : _ ∧ _ := hs49
      refine wl_val ha41 rfl rfl rfl (op_indexAddr ha41 rfl Try.underlying25 ti36 rfl rfl (by omega) hi46) ?_
      intro a52 ha52; clear ha41 a41
      refine wl_val ha52 rfl rfl rfl (op_fieldAddr (sz := 0) ha52 rfl Try.underlying36 rfl rfl ti9 rfl) ?_
      intro a53 ha53; clear ha52 a52
      refine wl_effS ha53 rfl rfl (op_setCells (s := shRec) (off := 1) (ds := [St ((mkT (q + (1 : Int))))]) (S' := fun _ => False) ha53 rfl ti9 rfl rfl rfl rfl (by simp [Value.oneCell']) ho29 hi46 (by omega) (Nat.le_of_ble_eq_true rfl) hc47 rfl (mk_shRec ((x43.1, (mkT (q + (1 : Int))))) (by first | assumption | omega | (have h5 := mkT_len (k := q + 1) (by omega); exact Nat.le_trans h5 (by omega))) (by first | assumption | omega | (have h5 := mkT_len (k := q + 1) (by omega); exact Nat.le_trans h5 (by omega)))) (fun _ h => h.elim)) ?_
      rintro w54 ⟨ho56, hst55, hz57⟩
      have hx58 := hx42.trans' hst55
      have hzhx58 := hst55.size
      clear ho29
      have hlsho56 : ((((acc.set i ((q, x16.2)))).set i ((x43.1, (mkT (q + (1 : Int))))))).length = ((acc.set i ((q, x16.2)))).length := List.length_set
      refine wpList_nil ?_
      refine then_n ?_
      refine wp_region_lit ?_
      refine wl_val ha53 rfl rfl rfl (op_move ha53 rfl rfl) ?_
      intro a59 ha59; clear ha53 a53
      refine wl_val ha59 rfl rfl rfl ((op_add ha59 rfl rfl rfl).int (IntWalk.i64_in _ (by omega))) ?_
      intro a60 ha60; clear ha59 a59
      refine wl_val ha60 rfl rfl rfl (op_assign ha60 rfl rfl) ?_
      intro a61 ha61; clear ha60 a60
      refine wpList_nil ?_
      refine block_n ?_
      refine then_n ?_
      refine wp_region_lit ?_
      refine wl_val ha61 rfl rfl rfl (op_move ha61 rfl rfl) ?_
      intro a62 ha62; clear ha61 a61
      refine wl_val ha62 rfl rfl rfl ((op_add ha62 rfl rfl rfl).int (IntWalk.i64_in _ (by omega))) ?_
      intro a63 ha63; clear ha62 a62
      refine wl_val ha63 rfl rfl rfl (op_assign ha63 rfl rfl) ?_
      intro a64 ha64; clear ha63 a63
      refine wpList_nil ?_
      refine round_end (x := (i, q, acc)) ((i + 1), ((q + (1 : Int)) + (1 : Int)), (((acc.set i ((q, x16.2)))).set i ((x43.1, (mkT (q + (1 : Int))))))) ?_ ?_
      ·
        refine ⟨(Sl.cons_ ha64 rfl rfl (Sl.cons_ ha64 rfl (int_eq (by omega)) (Sl.cons_ ha64 rfl (int_eq (by omega)) (Sl.nil_ ha64)))), hx58, ho56, (by omega), (by omega), (by omega), (by have e5 := hset_self hx43 (by omega); subst e5; rw [List.set_set]; exact mkN_step hF (by omega) rfl hq), (by simp only [List.length_set]; exact hl)⟩
      · show (a.length - ((i + 1)) : Nat) < a.length - i; omega
    ·
      rw [decide_eq_false c12] at ha11
      refine cond_f ha11 rfl ?_
      refine wp_exit ?_
      refine then_e ?_
      refine then_e ?_
      refine block_hit ?_
      refine then_n ?_
      refine wp_seq ?_
      refine wp_region_lit ?_
      refine wl_val ha11 rfl rfl rfl (op_move ha11 rfl rfl) ?_
      intro a65 ha65; clear ha11 a11
      refine wl_val ha65 rfl rfl rfl (op_assign ha65 rfl rfl) ?_
      intro a66 ha66; clear ha65 a65
      refine wpList_nil ?_
      refine then_n ?_
      refine wp_ret ?_
      refine ret1 ha66 rfl rfl ?_
      clear ha66 a66
      exact ret_mkS hx4 ⟨int_eq (by omega), hf5.cast (by rw [hF, drop_nil (by omega), List.append_nil]; congr 1; omega)⟩

theorem c_laws_heldRecordS (w0 : World) (v_a : Value) (a : List (Int × Str)) {S_a : Nat → Prop} (k : Int) (h_a : Rds shRec S_a w0 v_a a) (g0 : 0 ≤ k) (g1 : k ≤ 4611686018427387904) (g2 : a.length ≤ 4611686018427) :
    Calls Try.prog 25 #[v_a, .int .i64 k] w0 (Ret w0 (fun v _ => v = .int .i64 (heldG okR 2 a k))) := by
  refine enter (N := 32) Try.func25 rfl rfl rfl ?_
  intro a0 ha0
  have hx0 := Ext.rfl' w0
  have hl_a := h_a.length_le
  refine wp_seq ?_
  refine wp_region_lit ?_
  refine wl_val ha0 rfl rfl rfl (op_assign ha0 rfl rfl) ?_
  intro a1 ha1; clear ha0 a0
  refine wpList_nil ?_
  refine then_n ?_
  refine wp_seq ?_
  refine wp_seq ?_
  refine wp_region_lit ?_
  refine wl_val ha1 rfl rfl rfl (op_assign ha1 rfl rfl) ?_
  intro a2 ha2; clear ha1 a1
  refine wpList_nil ?_
  refine then_n ?_
  refine wp_block ?_
  refine loop_inv (X := Nat × Int) (fun (⟨i, q⟩ : Nat × Int) fr wl => Sl 32 fr [(0, v_a), (1, .int .i64 q), (5, .int .i64 ((i : Nat) : Int))] ∧ Ext w0 wl ∧ w0.heap.size ≤ wl.heap.size ∧ (i ≤ a.length) ∧ (q = k + 2 * (i : Int)) ∧ (heldG okR 2 (a.drop i) q = heldG okR 2 a k)) (fun (⟨i, q⟩ : Nat × Int) => a.length - i) (0, k) ?_ ?_
  ·
    exact ⟨(Sl.cons_ ha2 rfl rfl (Sl.cons_ ha2 rfl (int_eq (by omega)) (Sl.cons_ ha2 rfl (int_eq (by omega)) (Sl.nil_ ha2)))), hx0, (by omega), (by omega), (by simp), (by rfl)⟩
  ·
    clear ha2 a2
    rintro ⟨i, q⟩ a5 w3 ⟨ha5, hx4, hzl6, hi, hq, hF⟩
    have hzhx4 := hx4.size
    refine wp_seq ?_
    refine wp_seq ?_
    refine wp_region_lit ?_
    refine wl_val ha5 rfl rfl rfl (op_move ha5 rfl rfl) ?_
    intro a7 ha7; clear ha5 a5
    refine wl_val ha7 rfl rfl rfl (op_move ha7 rfl rfl) ?_
    intro a8 ha8; clear ha7 a7
    refine wl_val ha8 rfl rfl rfl (op_len_sl ha8 rfl Try.underlying25 rfl h_a) ?_
    intro a9 ha9; clear ha8 a8
    refine wl_val ha9 rfl rfl rfl (op_lss ha9 rfl rfl rfl) ?_
    intro a10 ha10; clear ha9 a9
    refine wpList_nil ?_
    refine then_n ?_
    by_cases c11 : ((i : Nat) : Int) < ((a.length : Nat) : Int)
    ·
      rw [decide_eq_true c11] at ha10
      refine cond_t ha10 rfl ?_
      refine wp_skip ?_
      refine then_n ?_
      refine wp_seq ?_
      refine wp_block ?_
      refine wp_seq ?_
      refine wp_seq ?_
      refine wp_region_lit ?_
      refine wl_val ha10 rfl rfl rfl (op_move ha10 rfl rfl) ?_
      intro a12 ha12; clear ha10 a10
      refine wl_val ha12 rfl rfl rfl (op_move ha12 rfl rfl) ?_
      intro a13 ha13; clear ha12 a12
      obtain ⟨x14, hx14⟩ := get_ex (xs := a) (j := i) (by omega)
      obtain ⟨p15, c16, hi17, hc18, hr19, hs20⟩ := Rds.at_ h_a hx14
      obtain ⟨rfl, b21, b22⟩ := inv_shRec hr19
      refine wl_val ha13 rfl rfl rfl (op_indexAddr ha13 rfl Try.underlying25 ti36 rfl rfl (by omega) hi17) ?_
      intro a23 ha23; clear ha13 a13
      refine wl_val ha23 rfl rfl rfl (op_fieldAddr (sz := 0) ha23 rfl Try.underlying36 rfl rfl ti2 rfl) ?_
      intro a24 ha24; clear ha23 a23
      refine wl_val ha24 rfl rfl rfl (op_loadF (off := 0) ha24 rfl Try.underlying2 rfl rfl (hc18.ext hx4) rfl) ?_
      intro a25 ha25; clear ha24 a24
      refine wl_val ha25 rfl rfl rfl (op_move ha25 rfl rfl) ?_
      intro a26 ha26; clear ha25 a25
      refine wl_val ha26 rfl rfl rfl ((op_neq ha26 rfl rfl rfl).to (congrArg Value.bool decide_not)) ?_
      intro a27 ha27; clear ha26 a26
      refine wpList_nil ?_
      refine then_n ?_
      by_cases c28 : x14.1 = q
      ·
        rw [decide_eq_true c28] at ha27
        refine cond_f ha27 rfl ?_
        refine wp_skip ?_
        refine then_n ?_
        refine wp_seq ?_
        refine wp_region_lit ?_
        refine wl_val ha27 rfl rfl rfl (op_move ha27 rfl rfl) ?_
        intro a29 ha29; clear ha27 a27
        refine wl_val ha29 rfl rfl rfl ((op_add ha29 rfl rfl rfl).int (IntWalk.i64_in _ (by omega))) ?_
        intro a30 ha30; clear ha29 a29
        refine wl_val ha30 rfl rfl rfl (op_assign ha30 rfl rfl) ?_
        intro a31 ha31; clear ha30 a30
        refine wpList_nil ?_
        refine then_n ?_
        refine wp_seq ?_
        refine wp_seq ?_
        refine dr_enter Ext follows_mixed ?_
        intro w32 he33
        have hx34 := hx4.trans' he33
        have hzhx34 := he33.size
        have hs35 : Ext w32 w32 := Ext.rfl' _
        refine dr_val (i := 0) ha31 rfl (by kernel_rfl) (by kernel_rfl) (by kernel_rfl) rfl rfl rfl hs35 (fun w' hw' => op_move ha31 rfl rfl) ?_
        intro a36 ha36; clear ha31 a31
        refine dr_val (i := 1) ha36 rfl (by kernel_rfl) (by kernel_rfl) (by kernel_rfl) rfl rfl rfl hs35 (fun w' hw' => op_move ha36 rfl rfl) ?_
        intro a37 ha37; clear ha36 a36
        refine dr_val (i := 2) ha37 rfl (by kernel_rfl) (by kernel_rfl) (by kernel_rfl) rfl rfl rfl hs35 (fun w' hw' => op_indexAddr ha37 rfl Try.underlying25 ti36 rfl rfl (by omega) hi17) ?_
        intro a38 ha38; clear ha37 a37
        refine dr_val (i := 3) ha38 rfl (by kernel_rfl) (by kernel_rfl) (by kernel_rfl) rfl rfl rfl hs35 (fun w' hw' => op_fieldAddr (sz := 0) ha38 rfl Try.underlying36 rfl rfl ti9 rfl) ?_
        intro a39 ha39; clear ha38 a38
        refine dr_val (i := 4) ha39 rfl (by kernel_rfl) (by kernel_rfl) (by kernel_rfl) rfl rfl rfl hs35 (fun w' hw' => op_loadF (off := 1) ha39 rfl Try.underlying9 rfl rfl (hc18.ext (hx34.trans' hw')) rfl) ?_
        intro a40 ha40; clear ha39 a39
        refine dr_val (i := 5) ha40 rfl (by kernel_rfl) (by kernel_rfl) (by kernel_rfl) rfl rfl rfl hs35 (fun w' hw' => op_move ha40 rfl rfl) ?_
        intro a41 ha41; clear ha40 a40
        refine dr_one (i := 6) (by kernel_rfl) ?_
        refine po_callR ha41 rfl rfl rfl rfl (op_call ha41 rfl cb54 rfl) (c_laws_markText _ (q + (1 : Int)) (by first | assumption | omega | (simp; omega) | (simp [mkN_length]; omega))) ?_
        rintro v42 w43 he44 rfl a45 ha45; clear ha41 a41
        have hs46 := hs35.trans' he44
        have hx47 := hx34.trans' he44
        have hzhx47 := he44.size
        refine ⟨hs46, ?_⟩
        refine dr_val (i := 7) ha45 rfl (by kernel_rfl) (by kernel_rfl) (by kernel_rfl) rfl rfl rfl hs46 (fun w' hw' => (op_sneq ha45 rfl rfl rfl).to (congrArg Value.bool decide_not)) ?_
        intro a48 ha48; clear ha45 a45
        refine dr_end (by kernel_rfl) ?_
        refine then_n ?_
        by_cases c49 : x14.2 = (mkT (q + (1 : Int)))
        ·
          rw [decide_eq_true c49] at ha48
          refine cond_f ha48 rfl ?_
          refine wp_skip ?_
          refine then_n ?_
          refine wp_region_lit ?_
          refine wl_val ha48 rfl rfl rfl (op_move ha48 rfl rfl) ?_
          intro a50 ha50; clear ha48 a48
          refine wl_val ha50 rfl rfl rfl ((op_add ha50 rfl rfl rfl).int (IntWalk.i64_in _ (by omega))) ?_
          intro a51 ha51; clear ha50 a50
          refine wl_val ha51 rfl rfl rfl (op_assign ha51 rfl rfl) ?_
          intro a52 ha52; clear ha51 a51
          refine wpList_nil ?_
          refine block_n ?_
          refine then_n ?_
          refine wp_region_lit ?_
          refine wl_val ha52 rfl rfl rfl (op_move ha52 rfl rfl) ?_
          intro a53 ha53; clear ha52 a52
          refine wl_val ha53 rfl rfl rfl ((op_add ha53 rfl rfl rfl).int (IntWalk.i64_in _ (by omega))) ?_
          intro a54 ha54; clear ha53 a53
          refine wl_val ha54 rfl rfl rfl (op_assign ha54 rfl rfl) ?_
          intro a55 ha55; clear ha54 a54
          refine wpList_nil ?_
          refine round_end (x := (i, q)) ((i + 1), ((q + (1 : Int)) + (1 : Int))) ?_ ?_
          ·
            refine ⟨(Sl.cons_ ha55 rfl rfl (Sl.cons_ ha55 rfl (int_eq (by omega)) (Sl.cons_ ha55 rfl (int_eq (by omega)) (Sl.nil_ ha55)))), hx47, (by omega), (by omega), (by omega), (by rw [drop_cons hx14] at hF; simp only [heldG] at hF; rw [if_pos (by simp [okR, c11, c28, c49])] at hF; rw [← hF] <;> (congr 1 <;> omega))⟩
          · show (a.length - ((i + 1)) : Nat) < a.length - i; omega
        ·
          rw [decide_eq_false c49] at ha48
          refine cond_t ha48 rfl ?_
          refine wp_seq ?_
          refine wp_region_lit ?_
          refine wl_val ha48 rfl rfl rfl (op_assign ha48 rfl rfl) ?_
          intro a56 ha56; clear ha48 a48
          refine wpList_nil ?_
          refine then_n ?_
          refine wp_ret ?_
          refine then_r ?_
          refine block_r ?_
          refine then_r ?_
          refine then_r ?_
          refine block_r ?_
          refine then_r ?_
          refine ret1 ha56 rfl rfl ?_
          clear ha56 a56
          rw [drop_cons hx14] at hF; simp only [heldG] at hF; rw [if_neg (by simp [okR, c11, c28, c49])] at hF
          exact ret_mk hx47 (int_eq (by exact hF))
      ·
        rw [decide_eq_false c28] at ha27
        refine cond_t ha27 rfl ?_
        refine wp_seq ?_
        refine wp_region_lit ?_
        refine wl_val ha27 rfl rfl rfl (op_assign ha27 rfl rfl) ?_
        intro a57 ha57; clear ha27 a27
        refine wpList_nil ?_
        refine then_n ?_
        refine wp_ret ?_
        refine then_r ?_
        refine block_r ?_
        refine then_r ?_
        refine then_r ?_
        refine block_r ?_
        refine then_r ?_
        refine ret1 ha57 rfl rfl ?_
        clear ha57 a57
        rw [drop_cons hx14] at hF; simp only [heldG] at hF; rw [if_neg (by simp [okR, c11, c28])] at hF
        exact ret_mk hx4 (int_eq (by exact hF))
    ·
      rw [decide_eq_false c11] at ha10
      refine cond_f ha10 rfl ?_
      refine wp_exit ?_
      refine then_e ?_
      refine then_e ?_
      refine block_hit ?_
      refine then_n ?_
      refine wp_seq ?_
      refine wp_region_lit ?_
      refine wl_val ha10 rfl rfl rfl (op_move ha10 rfl rfl) ?_
      intro a58 ha58; clear ha10 a10
      refine wl_val ha58 rfl rfl rfl (op_assign ha58 rfl rfl) ?_
      intro a59 ha59; clear ha58 a58
      refine wpList_nil ?_
      refine then_n ?_
      refine wp_ret ?_
      refine ret1 ha59 rfl rfl ?_
      clear ha59 a59
      rw [drop_nil (by omega)] at hF; simp only [heldG] at hF
      exact ret_mk hx4 (int_eq (by exact hF))

theorem c_laws_eqInt64S (w0 : World) (v_a : Value) (a : List Int) {S_a : Nat → Prop} (v_b : Value) (b : List Int) {S_b : Nat → Prop} (h_a : Rds shI64 S_a w0 v_a a) (h_b : Rds shI64 S_b w0 v_b b) :
    Calls Try.prog 34 #[v_a, v_b] w0 (Ret w0 (fun v _ => v = .bool (eqL a b))) := by
  refine enter (N := 26) Try.func34 rfl rfl rfl ?_
  intro a0 ha0
  have hx0 := Ext.rfl' w0
  have hl_a := h_a.length_le
  have hl_b := h_b.length_le
  refine wp_seq ?_
  refine wp_region_lit ?_
  refine wl_val ha0 rfl rfl rfl (op_assign ha0 rfl rfl) ?_
  intro a1 ha1; clear ha0 a0
  refine wpList_nil ?_
  refine then_n ?_
  refine wp_seq ?_
  refine wp_seq ?_
  refine wp_region_lit ?_
  refine wl_val ha1 rfl rfl rfl (op_move ha1 rfl rfl) ?_
  intro a2 ha2; clear ha1 a1
  refine wl_val ha2 rfl rfl rfl (op_len_sl ha2 rfl Try.underlying44 rfl h_a) ?_
  intro a3 ha3; clear ha2 a2
  refine wl_val ha3 rfl rfl rfl (op_move ha3 rfl rfl) ?_
  intro a4 ha4; clear ha3 a3
  refine wl_val ha4 rfl rfl rfl (op_len_sl ha4 rfl Try.underlying44 rfl h_b) ?_
  intro a5 ha5; clear ha4 a4
  refine wl_val ha5 rfl rfl rfl ((op_neq ha5 rfl rfl rfl).to (congrArg Value.bool decide_not)) ?_
  intro a6 ha6; clear ha5 a5
  refine wpList_nil ?_
  refine then_n ?_
  by_cases c7 : ((a.length : Nat) : Int) = ((b.length : Nat) : Int)
  ·
    rw [decide_eq_true c7] at ha6
    refine cond_f ha6 rfl ?_
    refine wp_skip ?_
    refine then_n ?_
    refine wp_seq ?_
    refine wp_seq ?_
    refine wp_region_lit ?_
    refine wl_val ha6 rfl rfl rfl (op_assign ha6 rfl rfl) ?_
    intro a8 ha8; clear ha6 a6
    refine wpList_nil ?_
    refine then_n ?_
    refine wp_block ?_
    refine loop_inv (X := Nat) (fun (i : Nat) fr wl => Sl 26 fr [(0, v_a), (1, v_b), (5, .int .i64 ((i : Nat) : Int))] ∧ Ext w0 wl ∧ w0.heap.size ≤ wl.heap.size ∧ (i ≤ a.length) ∧ (a.length = b.length) ∧ (eqL (a.drop i) (b.drop i) = eqL a b)) (fun (i : Nat) => a.length - i) (0) ?_ ?_
    ·
      exact ⟨(Sl.cons_ ha8 rfl rfl (Sl.cons_ ha8 rfl rfl (Sl.cons_ ha8 rfl (int_eq (by omega)) (Sl.nil_ ha8)))), hx0, (by omega), (by omega), (by omega), (by simp)⟩
    ·
      clear ha8 a8
      rintro i a11 w9 ⟨ha11, hx10, hzl12, hi, hl, hF⟩
      have hzhx10 := hx10.size
      refine wp_seq ?_
      refine wp_seq ?_
      refine wp_region_lit ?_
      refine wl_val ha11 rfl rfl rfl (op_move ha11 rfl rfl) ?_
      intro a13 ha13; clear ha11 a11
      refine wl_val ha13 rfl rfl rfl (op_move ha13 rfl rfl) ?_
      intro a14 ha14; clear ha13 a13
      refine wl_val ha14 rfl rfl rfl (op_len_sl ha14 rfl Try.underlying44 rfl h_a) ?_
      intro a15 ha15; clear ha14 a14
      refine wl_val ha15 rfl rfl rfl (op_lss ha15 rfl rfl rfl) ?_
      intro a16 ha16; clear ha15 a15
      refine wpList_nil ?_
      refine then_n ?_
      by_cases c17 : ((i : Nat) : Int) < ((a.length : Nat) : Int)
      ·
        rw [decide_eq_true c17] at ha16
        refine cond_t ha16 rfl ?_
        refine wp_skip ?_
        refine then_n ?_
        refine wp_seq ?_
        refine wp_block ?_
        refine wp_seq ?_
        refine dr_enter Ext follows_mixed ?_
        intro w18 he19
        have hx20 := hx10.trans' he19
        have hzhx20 := he19.size
        have hs21 : Ext w18 w18 := Ext.rfl' _
        refine dr_val (i := 0) ha16 rfl (by kernel_rfl) (by kernel_rfl) (by kernel_rfl) rfl rfl rfl hs21 (fun w' hw' => op_move ha16 rfl rfl) ?_
        intro a22 ha22; clear ha16 a16
        refine dr_val (i := 1) ha22 rfl (by kernel_rfl) (by kernel_rfl) (by kernel_rfl) rfl rfl rfl hs21 (fun w' hw' => op_move ha22 rfl rfl) ?_
        intro a23 ha23; clear ha22 a22
        obtain ⟨x24, hx24⟩ := get_ex (xs := a) (j := i) (by omega)
        obtain ⟨p25, c26, hi27, hc28, hr29, hs30⟩ := Rds.at_ h_a hx24
        obtain ⟨rfl, b31⟩ := inv_shI64 hr29
        refine dr_val (i := 2) ha23 rfl (by kernel_rfl) (by kernel_rfl) (by kernel_rfl) rfl rfl rfl hs21 (fun w' hw' => op_indexAddr ha23 rfl Try.underlying44 ti2 rfl rfl (by omega) hi27) ?_
        intro a32 ha32; clear ha23 a23
        refine dr_val (i := 3) ha32 rfl (by kernel_rfl) (by kernel_rfl) (by kernel_rfl) rfl rfl rfl hs21 (fun w' hw' => op_loadH ha32 rfl Try.underlying2 rfl rfl (hc28.ext (hx20.trans' hw')) rfl) ?_
        intro a33 ha33; clear ha32 a32
        refine dr_val (i := 4) ha33 rfl (by kernel_rfl) (by kernel_rfl) (by kernel_rfl) rfl rfl rfl hs21 (fun w' hw' => op_move ha33 rfl rfl) ?_
        intro a34 ha34; clear ha33 a33
        refine dr_val (i := 5) ha34 rfl (by kernel_rfl) (by kernel_rfl) (by kernel_rfl) rfl rfl rfl hs21 (fun w' hw' => op_move ha34 rfl rfl) ?_
        intro a35 ha35; clear ha34 a34
        obtain ⟨x36, hx36⟩ := get_ex (xs := b) (j := i) (by omega)
        obtain ⟨p37, c38, hi39, hc40, hr41, hs42⟩ := Rds.at_ h_b hx36
        obtain ⟨rfl, b43⟩ := inv_shI64 hr41
        refine dr_val (i := 6) ha35 rfl (by kernel_rfl) (by kernel_rfl) (by kernel_rfl) rfl rfl rfl hs21 (fun w' hw' => op_indexAddr ha35 rfl Try.underlying44 ti2 rfl rfl (by omega) hi39) ?_
        intro a44 ha44; clear ha35 a35
        refine dr_val (i := 7) ha44 rfl (by kernel_rfl) (by kernel_rfl) (by kernel_rfl) rfl rfl rfl hs21 (fun w' hw' => op_loadH ha44 rfl Try.underlying2 rfl rfl (hc40.ext (hx20.trans' hw')) rfl) ?_
        intro a45 ha45; clear ha44 a44
        refine dr_val (i := 8) ha45 rfl (by kernel_rfl) (by kernel_rfl) (by kernel_rfl) rfl rfl rfl hs21 (fun w' hw' => (op_neq ha45 rfl rfl rfl).to (congrArg Value.bool decide_not)) ?_
        intro a46 ha46; clear ha45 a45
        refine dr_end (by kernel_rfl) ?_
        refine then_n ?_
        by_cases c47 : x24 = x36
        ·
          rw [decide_eq_true c47] at ha46
          refine cond_f ha46 rfl ?_
          refine wp_skip ?_
          refine block_n ?_
          refine then_n ?_
          refine wp_region_lit ?_
          refine wl_val ha46 rfl rfl rfl (op_move ha46 rfl rfl) ?_
          intro a48 ha48; clear ha46 a46
          refine wl_val ha48 rfl rfl rfl ((op_add ha48 rfl rfl rfl).int (IntWalk.i64_in _ (by omega))) ?_
          intro a49 ha49; clear ha48 a48
          refine wl_val ha49 rfl rfl rfl (op_assign ha49 rfl rfl) ?_
          intro a50 ha50; clear ha49 a49
          refine wpList_nil ?_
          refine round_end (x := i) ((i + 1)) ?_ ?_
          ·
            refine ⟨(Sl.cons_ ha50 rfl rfl (Sl.cons_ ha50 rfl rfl (Sl.cons_ ha50 rfl (int_eq (by omega)) (Sl.nil_ ha50)))), hx20, (by omega), (by omega), (by exact hl), (by rw [eqL_step hx24 hx36] at hF; simpa [c7, c17, c47] using hF)⟩
          · show (a.length - ((i + 1)) : Nat) < a.length - i; omega
        ·
          rw [decide_eq_false c47] at ha46
          refine cond_t ha46 rfl ?_
          refine wp_seq ?_
          refine wp_region_lit ?_
          refine wl_val ha46 rfl rfl rfl (op_assign ha46 rfl rfl) ?_
          intro a51 ha51; clear ha46 a46
          refine wpList_nil ?_
          refine then_n ?_
          refine wp_ret ?_
          refine block_r ?_
          refine then_r ?_
          refine then_r ?_
          refine block_r ?_
          refine then_r ?_
          refine ret1 ha51 rfl rfl ?_
          clear ha51 a51
          rw [eqL_step hx24 hx36] at hF
          exact ret_mk hx20 (congrArg Value.bool (by first | (simp [← hF, c7, c17, c47]; done) | (simp [← hF, c7, c17, c47]; omega) | (rw [Bool.eq_iff_iff]; simp [← hF, c7, c17, c47]; done) | (rw [Bool.eq_iff_iff]; simp [← hF, c7, c17, c47]; omega)))
      ·
        rw [decide_eq_false c17] at ha16
        refine cond_f ha16 rfl ?_
        refine wp_exit ?_
        refine then_e ?_
        refine then_e ?_
        refine block_hit ?_
        refine then_n ?_
        refine wp_seq ?_
        refine wp_region_lit ?_
        refine wl_val ha16 rfl rfl rfl (op_assign ha16 rfl rfl) ?_
        intro a52 ha52; clear ha16 a16
        refine wpList_nil ?_
        refine then_n ?_
        refine wp_ret ?_
        refine ret1 ha52 rfl rfl ?_
        clear ha52 a52
        rw [drop_nil (by omega), drop_nil (by omega), eqL_nil] at hF
        exact ret_mk hx10 (congrArg Value.bool (by first | (simp [← hF, c7, c17]; done) | (simp [← hF, c7, c17]; omega) | (rw [Bool.eq_iff_iff]; simp [← hF, c7, c17]; done) | (rw [Bool.eq_iff_iff]; simp [← hF, c7, c17]; omega)))
  ·
    rw [decide_eq_false c7] at ha6
    refine cond_t ha6 rfl ?_
    refine wp_seq ?_
    refine wp_region_lit ?_
    refine wl_val ha6 rfl rfl rfl (op_assign ha6 rfl rfl) ?_
    intro a53 ha53; clear ha6 a6
    refine wpList_nil ?_
    refine then_n ?_
    refine wp_ret ?_
    refine then_r ?_
    refine ret1 ha53 rfl rfl ?_
    clear ha53 a53
    
    exact ret_mk hx0 (congrArg Value.bool (by rw [eqL_len (by omega)]))


end Go.Proofs.Ytkdnclpgijkceaa
