/- Texts of tables: the small functions. -/
import Derived.Test.YtjpldgicibnkcaaW3
namespace Go.Proofs.Ytjpldgicibnkcaa
open Go Go.RowKit

def joinG (b : Str) : Nat → List Str → Str
  | _, [] => []
  | i, w :: ws => (if 0 < i then b else []) ++ (w ++ joinG b (i + 1) ws)
def blS (n : Int) : Str := List.replicate n.toNat 32
def fillS (w : Int) (f : Bool) (s : Str) : Str := if f then blS (w - (s.length : Nat)) ++ s else s ++ blS (w - (s.length : Nat))
theorem blS_pos {n : Int} (h : 0 < n) : blS n = 32 :: blS (n - 1) := by
  unfold blS
  have e : n.toNat = (n - 1).toNat + 1 := by omega
  rw [e, List.replicate_succ]
theorem blS_end {n : Int} (h : 0 < n) : blS n = blS (n - 1) ++ [32] := by
  unfold blS
  have e : n.toNat = (n - 1).toNat + 1 := by omega
  rw [e, List.replicate_succ']
theorem blS_no {n : Int} (h : n ≤ 0) : blS n = [] := by
  unfold blS
  have e : n.toNat = 0 := by omega
  rw [e]; rfl
theorem blS_len (n : Int) : (blS n).length = n.toNat := List.length_replicate ..
theorem fillS_t {w : Int} {s : Str} (h : (s.length : Nat) < w) : fillS w true (32 :: s) = fillS w true s := by
  unfold fillS
  rw [if_pos rfl, if_pos rfl, blS_end (n := w - (s.length : Nat)) (by omega), List.length_cons, show w - ((s.length + 1 : Nat) : Int) = w - (s.length : Nat) - 1 by omega]
  simp
theorem fillS_f {w : Int} {s : Str} (h : (s.length : Nat) < w) : fillS w false (s ++ [32]) = fillS w false s := by
  unfold fillS
  rw [if_neg (by decide), if_neg (by decide), blS_pos (n := w - (s.length : Nat)) (by omega), List.length_append, List.length_singleton, show w - ((s.length + 1 : Nat) : Int) = w - (s.length : Nat) - 1 by omega]
  simp
theorem fillS_no {w : Int} {f : Bool} {s : Str} (h : ¬ (s.length : Nat) < w) : fillS w f s = s := by
  unfold fillS
  rw [blS_no (by omega)]
  split <;> simp

theorem c_impl_joinWith (w0 : World) (v_list : Value) (list : List Str) {S_list : Nat → Prop} (between : Str) (h_list : Rds shStr S_list w0 v_list list) (g0 : (joinG between 0 list).length ≤ 1048576) :
  Calls Try.prog 107 #[v_list, St between] w0 (Ret w0 (fun v _ => v = St (joinG between 0 list))) := by
 refine enter (N := 25) Try.func107 rfl rfl rfl ?_
 intro a0 ha0
 have hx0 := Ext.rfl' w0
 have hl_list := h_list.length_le
 refine wp_seq ?_
 refine wp_region_lit ?_
 refine wl_val ha0 rfl rfl rfl (op_assign ha0 rfl rfl) ?_
 intro a1 ha1; clear ha0 a0
 refine wpList_nil ?_
 refine then_n ?_
 refine wp_seq ?_
 refine wp_region_lit ?_
 refine wl_val ha1 rfl rfl rfl (op_assign ha1 rfl rfl) ?_
 intro a2 ha2; clear ha1 a1
 refine wpList_nil ?_
 refine then_n ?_
 refine wp_seq ?_
 refine wp_seq ?_
 refine wp_region_lit ?_
 refine wl_val ha2 rfl rfl rfl (op_move ha2 rfl rfl) ?_
 intro a3 ha3; clear ha2 a2
 refine wl_val ha3 rfl rfl rfl (op_len_sl ha3 rfl Try.underlying22 rfl h_list) ?_
 intro a4 ha4; clear ha3 a3
 refine wl_val ha4 rfl rfl rfl (op_move ha4 rfl rfl) ?_
 intro a5 ha5; clear ha4 a4
 refine wpList_nil ?_
 refine then_n ?_
 refine wp_block ?_
 refine loop_inv (X := Nat × Str) (fun (⟨i, o⟩ : Nat × Str) fr wl => Sl 25 fr [(1, St between), (5, St o), (8, v_list), (9, .int .i64 ((list.length : Nat) : Int)), (10, .int .i64 ((i : Nat) : Int))] ∧ Ext w0 wl ∧ w0.heap.size ≤ wl.heap.size ∧ (i ≤ list.length) ∧ (o ++ joinG between i (list.drop i) = joinG between 0 list)) (fun (⟨i, o⟩ : Nat × Str) => list.length - i) (0, ([] : Str)) ?_ ?_
 ·
  exact ⟨(Sl.cons_ ha5 rfl rfl (Sl.cons_ ha5 rfl rfl (Sl.cons_ ha5 rfl rfl (Sl.cons_ ha5 rfl rfl (Sl.cons_ ha5 rfl (int_eq (by omega)) (Sl.nil_ ha5)))))), hx0, (by omega), (by omega), (by rfl)⟩
 ·
  clear ha5 a5
  rintro ⟨i, o⟩ a8 w6 ⟨ha8, hx7, hzl9, hi, hF⟩
  have hzhx7 := hx7.size
  refine wp_seq ?_
  refine wp_region_lit ?_
  refine wl_val ha8 rfl rfl rfl (op_lss ha8 rfl rfl rfl) ?_
  intro a10 ha10; clear ha8 a8
  refine wpList_nil ?_
  refine then_n ?_
  refine wp_seq ?_
  by_cases c11 : ((i : Nat) : Int) < ((list.length : Nat) : Int)
  ·
   rw [decide_eq_true c11] at ha10
   refine cond_t ha10 rfl ?_
   refine wp_skip ?_
   refine then_n ?_
   refine wp_seq ?_
   refine wp_block ?_
   refine wp_seq ?_
   refine wp_region_lit ?_
   refine wl_val ha10 rfl rfl rfl (op_move ha10 rfl rfl) ?_
   intro a12 ha12; clear ha10 a10
   obtain ⟨x13, hx13⟩ := get_ex (xs := list) (j := i) (by omega)
   obtain ⟨p14, c15, hi16, hc17, hr18, hs19⟩ := Rds.at_ h_list hx13
   obtain ⟨rfl, b20⟩ := inv_shStr hr18
   refine wl_val ha12 rfl rfl rfl (op_indexAddr ha12 rfl Try.underlying22 ti9 rfl rfl (by omega) hi16) ?_
   intro a21 ha21; clear ha12 a12
   refine wl_val ha21 rfl rfl rfl (op_loadH ha21 rfl Try.underlying9 rfl rfl (hc17.ext hx7) rfl) ?_
   intro a22 ha22; clear ha21 a21
   refine wl_val ha22 rfl rfl rfl (op_assign ha22 rfl rfl) ?_
   intro a23 ha23; clear ha22 a22
   refine wl_val ha23 rfl rfl rfl (op_assign ha23 rfl rfl) ?_
   intro a24 ha24; clear ha23 a23
   refine wpList_nil ?_
   refine then_n ?_
   refine wp_seq ?_
   refine wp_seq ?_
   refine wp_region_lit ?_
   refine wl_val ha24 rfl rfl rfl (op_move ha24 rfl rfl) ?_
   intro a25 ha25; clear ha24 a24
   refine wl_val ha25 rfl rfl rfl (op_gtr ha25 rfl rfl rfl) ?_
   intro a26 ha26; clear ha25 a25
   refine wpList_nil ?_
   refine then_n ?_
   by_cases c27 : (0 : Int) < ((i : Nat) : Int)
   ·
    rw [decide_eq_true c27] at ha26
    refine cond_t ha26 rfl ?_
    refine wp_region_lit ?_
    refine wl_val ha26 rfl rfl rfl (op_move ha26 rfl rfl) ?_
    intro a28 ha28; clear ha26 a26
    refine wl_val ha28 rfl rfl rfl (op_move ha28 rfl rfl) ?_
    intro a29 ha29; clear ha28 a28
    refine wl_val ha29 rfl rfl rfl (op_sadd ha29 rfl rfl rfl (by have h9 := congrArg List.length hF; rw [drop_cons hx13, joinG] at h9; simp only [List.length_append] at h9 ⊢; split at h9 <;> (first | omega | (simp only [List.length_nil] at h9; omega)))) ?_
    intro a30 ha30; clear ha29 a29
    refine wl_val ha30 rfl rfl rfl (op_assign ha30 rfl rfl) ?_
    intro a31 ha31; clear ha30 a30
    refine wpList_nil ?_
    refine then_n ?_
    refine wp_region_lit ?_
    refine wl_val ha31 rfl rfl rfl (op_move ha31 rfl rfl) ?_
    intro a32 ha32; clear ha31 a31
    refine wl_val ha32 rfl rfl rfl (op_move ha32 rfl rfl) ?_
    intro a33 ha33; clear ha32 a32
    refine wl_val ha33 rfl rfl rfl (op_sadd ha33 rfl rfl rfl (by have h9 := congrArg List.length hF; rw [drop_cons hx13, joinG] at h9; simp only [List.length_append] at h9 ⊢; split at h9 <;> (first | omega | (simp only [List.length_nil] at h9; omega)))) ?_
    intro a34 ha34; clear ha33 a33
    refine wl_val ha34 rfl rfl rfl (op_assign ha34 rfl rfl) ?_
    intro a35 ha35; clear ha34 a34
    refine wpList_nil ?_
    refine block_n ?_
    refine then_n ?_
    refine wp_region_lit ?_
    refine wl_val ha35 rfl rfl rfl ((op_add ha35 rfl rfl rfl).int (IntWalk.i64_in _ (by omega))) ?_
    intro a36 ha36; clear ha35 a35
    refine wl_val ha36 rfl rfl rfl (op_move ha36 rfl rfl) ?_
    intro a37 ha37; clear ha36 a36
    refine wpList_nil ?_
    refine round_end (x := (i, o)) ((i + 1), (o ++ between) ++ x13) ?_ ?_
    ·
     refine ⟨(Sl.cons_ ha37 rfl rfl (Sl.cons_ ha37 rfl rfl (Sl.cons_ ha37 rfl rfl (Sl.cons_ ha37 rfl rfl (Sl.cons_ ha37 rfl (int_eq (by omega)) (Sl.nil_ ha37)))))), hx7, (by omega), (by omega), (by rw [drop_cons hx13, joinG] at hF; first | (rw [if_pos (by omega)] at hF; rw [← hF]; simp; done) | (rw [if_neg (by omega)] at hF; rw [← hF]; simp; done))⟩
    ·show (list.length - ((i + 1)) : Nat) < list.length - i; omega
   ·
    rw [decide_eq_false c27] at ha26
    refine cond_f ha26 rfl ?_
    refine wp_skip ?_
    refine then_n ?_
    refine wp_region_lit ?_
    refine wl_val ha26 rfl rfl rfl (op_move ha26 rfl rfl) ?_
    intro a38 ha38; clear ha26 a26
    refine wl_val ha38 rfl rfl rfl (op_move ha38 rfl rfl) ?_
    intro a39 ha39; clear ha38 a38
    refine wl_val ha39 rfl rfl rfl (op_sadd ha39 rfl rfl rfl (by have h9 := congrArg List.length hF; rw [drop_cons hx13, joinG] at h9; simp only [List.length_append] at h9 ⊢; split at h9 <;> (first | omega | (simp only [List.length_nil] at h9; omega)))) ?_
    intro a40 ha40; clear ha39 a39
    refine wl_val ha40 rfl rfl rfl (op_assign ha40 rfl rfl) ?_
    intro a41 ha41; clear ha40 a40
    refine wpList_nil ?_
    refine block_n ?_
    refine then_n ?_
    refine wp_region_lit ?_
    refine wl_val ha41 rfl rfl rfl ((op_add ha41 rfl rfl rfl).int (IntWalk.i64_in _ (by omega))) ?_
    intro a42 ha42; clear ha41 a41
    refine wl_val ha42 rfl rfl rfl (op_move ha42 rfl rfl) ?_
    intro a43 ha43; clear ha42 a42
    refine wpList_nil ?_
    refine round_end (x := (i, o)) ((i + 1), o ++ x13) ?_ ?_
    ·
     refine ⟨(Sl.cons_ ha43 rfl rfl (Sl.cons_ ha43 rfl rfl (Sl.cons_ ha43 rfl rfl (Sl.cons_ ha43 rfl rfl (Sl.cons_ ha43 rfl (int_eq (by omega)) (Sl.nil_ ha43)))))), hx7, (by omega), (by omega), (by rw [drop_cons hx13, joinG] at hF; first | (rw [if_pos (by omega)] at hF; rw [← hF]; simp; done) | (rw [if_neg (by omega)] at hF; rw [← hF]; simp; done))⟩
    ·show (list.length - ((i + 1)) : Nat) < list.length - i; omega
  ·
   rw [decide_eq_false c11] at ha10
   refine cond_f ha10 rfl ?_
   refine wp_exit ?_
   refine then_e ?_
   refine then_e ?_
   refine block_hit ?_
   refine then_n ?_
   refine wp_seq ?_
   refine wp_region_lit ?_
   refine wl_val ha10 rfl rfl rfl (op_move ha10 rfl rfl) ?_
   intro a44 ha44; clear ha10 a10
   refine wl_val ha44 rfl rfl rfl (op_assign ha44 rfl rfl) ?_
   intro a45 ha45; clear ha44 a44
   refine wpList_nil ?_
   refine then_n ?_
   refine wp_ret ?_
   refine ret1 ha45 rfl rfl ?_
   clear ha45 a45
   exact ret_mk hx7 (congrArg St (by rw [drop_nil (by omega), joinG, List.append_nil] at hF; exact hF))

theorem c_spec_l01Words (w0 : World) (v_words : Value) (words : List Str) {S_words : Nat → Prop} (bt : Str) (h_words : Rds shStr S_words w0 v_words words) (g0 : (joinG bt 0 words).length ≤ 1048576) :
  Calls Try.prog 105 #[v_words, St bt] w0 (Ret w0 (fun v _ => v = St (joinG bt 0 words))) := by
 refine enter (N := 25) Try.func105 rfl rfl rfl ?_
 intro a0 ha0
 have hx0 := Ext.rfl' w0
 have hl_words := h_words.length_le
 refine wp_seq ?_
 refine wp_region_lit ?_
 refine wl_val ha0 rfl rfl rfl (op_assign ha0 rfl rfl) ?_
 intro a1 ha1; clear ha0 a0
 refine wpList_nil ?_
 refine then_n ?_
 refine wp_seq ?_
 refine wp_region_lit ?_
 refine wl_val ha1 rfl rfl rfl (op_assign ha1 rfl rfl) ?_
 intro a2 ha2; clear ha1 a1
 refine wpList_nil ?_
 refine then_n ?_
 refine wp_seq ?_
 refine wp_seq ?_
 refine wp_region_lit ?_
 refine wl_val ha2 rfl rfl rfl (op_assign ha2 rfl rfl) ?_
 intro a3 ha3; clear ha2 a2
 refine wpList_nil ?_
 refine then_n ?_
 refine wp_block ?_
 refine loop_inv (X := Nat × Str) (fun (⟨i, o⟩ : Nat × Str) fr wl => Sl 25 fr [(0, v_words), (1, St bt), (5, St o), (6, .int .i64 ((i : Nat) : Int))] ∧ Ext w0 wl ∧ w0.heap.size ≤ wl.heap.size ∧ (i ≤ words.length) ∧ (o ++ joinG bt i (words.drop i) = joinG bt 0 words)) (fun (⟨i, o⟩ : Nat × Str) => words.length - i) (0, ([] : Str)) ?_ ?_
 ·
  exact ⟨(Sl.cons_ ha3 rfl rfl (Sl.cons_ ha3 rfl rfl (Sl.cons_ ha3 rfl rfl (Sl.cons_ ha3 rfl (int_eq (by omega)) (Sl.nil_ ha3))))), hx0, (by omega), (by omega), (by rfl)⟩
 ·
  clear ha3 a3
  rintro ⟨i, o⟩ a6 w4 ⟨ha6, hx5, hzl7, hi, hF⟩
  have hzhx5 := hx5.size
  refine wp_seq ?_
  refine wp_seq ?_
  refine wp_region_lit ?_
  refine wl_val ha6 rfl rfl rfl (op_move ha6 rfl rfl) ?_
  intro a8 ha8; clear ha6 a6
  refine wl_val ha8 rfl rfl rfl (op_move ha8 rfl rfl) ?_
  intro a9 ha9; clear ha8 a8
  refine wl_val ha9 rfl rfl rfl (op_len_sl ha9 rfl Try.underlying22 rfl h_words) ?_
  intro a10 ha10; clear ha9 a9
  refine wl_val ha10 rfl rfl rfl (op_lss ha10 rfl rfl rfl) ?_
  intro a11 ha11; clear ha10 a10
  refine wpList_nil ?_
  refine then_n ?_
  by_cases c12 : ((i : Nat) : Int) < ((words.length : Nat) : Int)
  ·
   rw [decide_eq_true c12] at ha11
   refine cond_t ha11 rfl ?_
   refine wp_skip ?_
   refine then_n ?_
   refine wp_seq ?_
   refine wp_block ?_
   refine wp_seq ?_
   refine wp_seq ?_
   refine wp_region_lit ?_
   refine wl_val ha11 rfl rfl rfl (op_move ha11 rfl rfl) ?_
   intro a13 ha13; clear ha11 a11
   refine wl_val ha13 rfl rfl rfl (op_gtr ha13 rfl rfl rfl) ?_
   intro a14 ha14; clear ha13 a13
   refine wpList_nil ?_
   refine then_n ?_
   by_cases c15 : (0 : Int) < ((i : Nat) : Int)
   ·
    rw [decide_eq_true c15] at ha14
    refine cond_t ha14 rfl ?_
    refine wp_region_lit ?_
    refine wl_val ha14 rfl rfl rfl (op_move ha14 rfl rfl) ?_
    intro a16 ha16; clear ha14 a14
    refine wl_val ha16 rfl rfl rfl (op_move ha16 rfl rfl) ?_
    intro a17 ha17; clear ha16 a16
    obtain ⟨x18, hx18⟩ := get_ex (xs := words) (j := i) (by omega)
    obtain ⟨p19, c20, hi21, hc22, hr23, hs24⟩ := Rds.at_ h_words hx18
    obtain ⟨rfl, b25⟩ := inv_shStr hr23
    refine wl_val ha17 rfl rfl rfl (op_sadd ha17 rfl rfl rfl (by have h9 := congrArg List.length hF; rw [drop_cons hx18, joinG] at h9; simp only [List.length_append] at h9 ⊢; split at h9 <;> (first | omega | (simp only [List.length_nil] at h9; omega)))) ?_
    intro a26 ha26; clear ha17 a17
    refine wl_val ha26 rfl rfl rfl (op_assign ha26 rfl rfl) ?_
    intro a27 ha27; clear ha26 a26
    refine wpList_nil ?_
    refine then_n ?_
    refine wp_region_lit ?_
    refine wl_val ha27 rfl rfl rfl (op_move ha27 rfl rfl) ?_
    intro a28 ha28; clear ha27 a27
    refine wl_val ha28 rfl rfl rfl (op_move ha28 rfl rfl) ?_
    intro a29 ha29; clear ha28 a28
    refine wl_val ha29 rfl rfl rfl (op_move ha29 rfl rfl) ?_
    intro a30 ha30; clear ha29 a29
    refine wl_val ha30 rfl rfl rfl (op_indexAddr ha30 rfl Try.underlying22 ti9 rfl rfl (by omega) hi21) ?_
    intro a31 ha31; clear ha30 a30
    refine wl_val ha31 rfl rfl rfl (op_loadH ha31 rfl Try.underlying9 rfl rfl (hc22.ext hx5) rfl) ?_
    intro a32 ha32; clear ha31 a31
    refine wl_val ha32 rfl rfl rfl (op_sadd ha32 rfl rfl rfl (by have h9 := congrArg List.length hF; rw [drop_cons hx18, joinG] at h9; simp only [List.length_append] at h9 ⊢; split at h9 <;> (first | omega | (simp only [List.length_nil] at h9; omega)))) ?_
    intro a33 ha33; clear ha32 a32
    refine wl_val ha33 rfl rfl rfl (op_assign ha33 rfl rfl) ?_
    intro a34 ha34; clear ha33 a33
    refine wpList_nil ?_
    refine block_n ?_
    refine then_n ?_
    refine wp_region_lit ?_
    refine wl_val ha34 rfl rfl rfl (op_move ha34 rfl rfl) ?_
    intro a35 ha35; clear ha34 a34
    refine wl_val ha35 rfl rfl rfl ((op_add ha35 rfl rfl rfl).int (IntWalk.i64_in _ (by omega))) ?_
    intro a36 ha36; clear ha35 a35
    refine wl_val ha36 rfl rfl rfl (op_assign ha36 rfl rfl) ?_
    intro a37 ha37; clear ha36 a36
    refine wpList_nil ?_
    refine round_end (x := (i, o)) ((i + 1), (o ++ bt) ++ x18) ?_ ?_
    ·
     refine ⟨(Sl.cons_ ha37 rfl rfl (Sl.cons_ ha37 rfl rfl (Sl.cons_ ha37 rfl rfl (Sl.cons_ ha37 rfl (int_eq (by omega)) (Sl.nil_ ha37))))), hx5, (by omega), (by omega), (by rw [drop_cons hx18, joinG] at hF; first | (rw [if_pos (by omega)] at hF; rw [← hF]; simp; done) | (rw [if_neg (by omega)] at hF; rw [← hF]; simp; done))⟩
    ·show (words.length - ((i + 1)) : Nat) < words.length - i; omega
   ·
    rw [decide_eq_false c15] at ha14
    refine cond_f ha14 rfl ?_
    refine wp_skip ?_
    refine then_n ?_
    refine wp_region_lit ?_
    refine wl_val ha14 rfl rfl rfl (op_move ha14 rfl rfl) ?_
    intro a38 ha38; clear ha14 a14
    refine wl_val ha38 rfl rfl rfl (op_move ha38 rfl rfl) ?_
    intro a39 ha39; clear ha38 a38
    refine wl_val ha39 rfl rfl rfl (op_move ha39 rfl rfl) ?_
    intro a40 ha40; clear ha39 a39
    obtain ⟨x41, hx41⟩ := get_ex (xs := words) (j := i) (by omega)
    obtain ⟨p42, c43, hi44, hc45, hr46, hs47⟩ := Rds.at_ h_words hx41
    obtain ⟨rfl, b48⟩ := inv_shStr hr46
    refine wl_val ha40 rfl rfl rfl (op_indexAddr ha40 rfl Try.underlying22 ti9 rfl rfl (by omega) hi44) ?_
    intro a49 ha49; clear ha40 a40
    refine wl_val ha49 rfl rfl rfl (op_loadH ha49 rfl Try.underlying9 rfl rfl (hc45.ext hx5) rfl) ?_
    intro a50 ha50; clear ha49 a49
    refine wl_val ha50 rfl rfl rfl (op_sadd ha50 rfl rfl rfl (by have h9 := congrArg List.length hF; rw [drop_cons hx41, joinG] at h9; simp only [List.length_append] at h9 ⊢; split at h9 <;> (first | omega | (simp only [List.length_nil] at h9; omega)))) ?_
    intro a51 ha51; clear ha50 a50
    refine wl_val ha51 rfl rfl rfl (op_assign ha51 rfl rfl) ?_
    intro a52 ha52; clear ha51 a51
    refine wpList_nil ?_
    refine block_n ?_
    refine then_n ?_
    refine wp_region_lit ?_
    refine wl_val ha52 rfl rfl rfl (op_move ha52 rfl rfl) ?_
    intro a53 ha53; clear ha52 a52
    refine wl_val ha53 rfl rfl rfl ((op_add ha53 rfl rfl rfl).int (IntWalk.i64_in _ (by omega))) ?_
    intro a54 ha54; clear ha53 a53
    refine wl_val ha54 rfl rfl rfl (op_assign ha54 rfl rfl) ?_
    intro a55 ha55; clear ha54 a54
    refine wpList_nil ?_
    refine round_end (x := (i, o)) ((i + 1), o ++ x41) ?_ ?_
    ·
     refine ⟨(Sl.cons_ ha55 rfl rfl (Sl.cons_ ha55 rfl rfl (Sl.cons_ ha55 rfl rfl (Sl.cons_ ha55 rfl (int_eq (by omega)) (Sl.nil_ ha55))))), hx5, (by omega), (by omega), (by rw [drop_cons hx41, joinG] at hF; first | (rw [if_pos (by omega)] at hF; rw [← hF]; simp; done) | (rw [if_neg (by omega)] at hF; rw [← hF]; simp; done))⟩
    ·show (words.length - ((i + 1)) : Nat) < words.length - i; omega
  ·
   rw [decide_eq_false c12] at ha11
   refine cond_f ha11 rfl ?_
   refine wp_exit ?_
   refine then_e ?_
   refine then_e ?_
   refine block_hit ?_
   refine then_n ?_
   refine wp_seq ?_
   refine wp_region_lit ?_
   refine wl_val ha11 rfl rfl rfl (op_move ha11 rfl rfl) ?_
   intro a56 ha56; clear ha11 a11
   refine wl_val ha56 rfl rfl rfl (op_assign ha56 rfl rfl) ?_
   intro a57 ha57; clear ha56 a56
   refine wpList_nil ?_
   refine then_n ?_
   refine wp_ret ?_
   refine ret1 ha57 rfl rfl ?_
   clear ha57 a57
   exact ret_mk hx5 (congrArg St (by rw [drop_nil (by omega), joinG, List.append_nil] at hF; exact hF))

theorem c_impl_blanks (w0 : World) (n : Int) (g0 : n ≤ 1048576) :
  Calls Try.prog 106 #[.int .i64 n] w0 (Ret w0 (fun v _ => v = St (blS n))) := by
 refine enter (N := 11) Try.func106 rfl rfl rfl ?_
 intro a0 ha0
 have hx0 := Ext.rfl' w0
 refine wp_seq ?_
 refine wp_region_lit ?_
 refine wl_val ha0 rfl rfl rfl (op_assign ha0 rfl rfl) ?_
 intro a1 ha1; clear ha0 a0
 refine wpList_nil ?_
 refine then_n ?_
 refine wp_seq ?_
 refine wp_region_lit ?_
 refine wl_val ha1 rfl rfl rfl (op_assign ha1 rfl rfl) ?_
 intro a2 ha2; clear ha1 a1
 refine wpList_nil ?_
 refine then_n ?_
 refine wp_seq ?_
 refine wp_block ?_
 refine loop_inv (X := Int × Str) (fun (⟨m, o⟩ : Int × Str) fr wl => Sl 11 fr [(0, .int .i64 m), (3, St o)] ∧ Ext w0 wl ∧ w0.heap.size ≤ wl.heap.size ∧ (m ≤ n) ∧ (o ++ blS m = blS n)) (fun (⟨m, o⟩ : Int × Str) => m.toNat) (n, ([] : Str)) ?_ ?_
 ·
  exact ⟨(Sl.cons_ ha2 rfl (int_eq (by omega)) (Sl.cons_ ha2 rfl rfl (Sl.nil_ ha2))), hx0, (by omega), (by omega), (by rfl)⟩
 ·
  clear ha2 a2
  rintro ⟨m, o⟩ a5 w3 ⟨ha5, hx4, hzl6, hm, hF⟩
  have hzhx4 := hx4.size
  refine wp_seq ?_
  refine wp_seq ?_
  refine wp_region_lit ?_
  refine wl_val ha5 rfl rfl rfl (op_move ha5 rfl rfl) ?_
  intro a7 ha7; clear ha5 a5
  refine wl_val ha7 rfl rfl rfl (op_gtr ha7 rfl rfl rfl) ?_
  intro a8 ha8; clear ha7 a7
  refine wpList_nil ?_
  refine then_n ?_
  by_cases c9 : (0 : Int) < m
  ·
   rw [decide_eq_true c9] at ha8
   refine cond_t ha8 rfl ?_
   refine wp_skip ?_
   refine then_n ?_
   refine wp_seq ?_
   refine wp_block ?_
   refine wp_region_lit ?_
   refine wl_val ha8 rfl rfl rfl (op_move ha8 rfl rfl) ?_
   intro a10 ha10; clear ha8 a8
   refine wl_val ha10 rfl rfl rfl (op_sadd ha10 rfl rfl rfl (by have h9 := congrArg List.length hF; rw [List.length_append, blS_len, blS_len] at h9; simp; omega)) ?_
   intro a11 ha11; clear ha10 a10
   refine wl_val ha11 rfl rfl rfl (op_assign ha11 rfl rfl) ?_
   intro a12 ha12; clear ha11 a11
   refine wpList_nil ?_
   refine block_n ?_
   refine then_n ?_
   refine wp_region_lit ?_
   refine wl_val ha12 rfl rfl rfl (op_move ha12 rfl rfl) ?_
   intro a13 ha13; clear ha12 a12
   refine wl_val ha13 rfl rfl rfl ((op_sub ha13 rfl rfl rfl).int (IntWalk.i64_in _ (by omega))) ?_
   intro a14 ha14; clear ha13 a13
   refine wl_val ha14 rfl rfl rfl (op_assign ha14 rfl rfl) ?_
   intro a15 ha15; clear ha14 a14
   refine wpList_nil ?_
   refine round_end (x := (m, o)) ((m - (1 : Int)), o ++ (([32] : Str))) ?_ ?_
   ·
    refine ⟨(Sl.cons_ ha15 rfl (int_eq (by omega)) (Sl.cons_ ha15 rfl rfl (Sl.nil_ ha15))), hx4, (by omega), (by omega), (by rw [blS_pos (by omega)] at hF; rw [← hF]; simp)⟩
   ·show (((m - (1 : Int))).toNat : Nat) < m.toNat; omega
  ·
   rw [decide_eq_false c9] at ha8
   refine cond_f ha8 rfl ?_
   refine wp_exit ?_
   refine then_e ?_
   refine then_e ?_
   refine block_hit ?_
   refine then_n ?_
   refine wp_seq ?_
   refine wp_region_lit ?_
   refine wl_val ha8 rfl rfl rfl (op_move ha8 rfl rfl) ?_
   intro a16 ha16; clear ha8 a8
   refine wl_val ha16 rfl rfl rfl (op_assign ha16 rfl rfl) ?_
   intro a17 ha17; clear ha16 a16
   refine wpList_nil ?_
   refine then_n ?_
   refine wp_ret ?_
   refine ret1 ha17 rfl rfl ?_
   clear ha17 a17
   exact ret_mk hx4 (congrArg St (by rw [blS_no (by omega), List.append_nil] at hF; exact hF))

theorem c_spec_l31Fill (w0 : World) (s : Str) (width : Int) (front : Bool) (g0 : width ≤ 1048576) (g1 : s.length ≤ 9223372036854775807) :
  Calls Try.prog 104 #[St s, .int .i64 width, .bool (front)] w0 (Ret w0 (fun v _ => v = St (fillS width front s))) := by
 refine enter (N := 17) Try.func104 rfl rfl rfl ?_
 intro a0 ha0
 have hx0 := Ext.rfl' w0
 refine wp_seq ?_
 refine wp_region_lit ?_
 refine wl_val ha0 rfl rfl rfl (op_assign ha0 rfl rfl) ?_
 intro a1 ha1; clear ha0 a0
 refine wpList_nil ?_
 refine then_n ?_
 refine wp_seq ?_
 refine wp_block ?_
 refine loop_inv (X := Str × Bool × Nat) (fun (⟨o, f, k⟩ : Str × Bool × Nat) fr wl => Sl 17 fr [(0, St o), (1, .int .i64 width), (2, .bool (f))] ∧ Ext w0 wl ∧ w0.heap.size ≤ wl.heap.size ∧ (o.length = k) ∧ (k ≤ 9223372036854775807) ∧ (f = front) ∧ (fillS width front o = fillS width front s)) (fun (⟨o, f, k⟩ : Str × Bool × Nat) => width.toNat - k) (s, front, s.length) ?_ ?_
 ·
  exact ⟨(Sl.cons_ ha1 rfl rfl (Sl.cons_ ha1 rfl rfl (Sl.cons_ ha1 rfl rfl (Sl.nil_ ha1)))), hx0, (by omega), (by rfl), (by omega), (by rfl), (by rfl)⟩
 ·
  clear ha1 a1
  rintro ⟨o, f, k⟩ a4 w2 ⟨ha4, hx3, hzl5, hk, ho, hff, hF⟩
  have hzhx3 := hx3.size
  refine wp_seq ?_
  refine wp_seq ?_
  refine wp_region_lit ?_
  refine wl_val ha4 rfl rfl rfl (op_move ha4 rfl rfl) ?_
  intro a6 ha6; clear ha4 a4
  refine wl_val ha6 rfl rfl rfl (op_len_str ha6 rfl Try.underlying9 rfl) ?_
  intro a7 ha7; clear ha6 a6
  refine wl_val ha7 rfl rfl rfl (op_move ha7 rfl rfl) ?_
  intro a8 ha8; clear ha7 a7
  refine wl_val ha8 rfl rfl rfl (op_lss ha8 rfl rfl rfl) ?_
  intro a9 ha9; clear ha8 a8
  refine wpList_nil ?_
  refine then_n ?_
  by_cases c10 : ((o.length : Nat) : Int) < width
  ·
   rw [decide_eq_true c10] at ha9
   refine cond_t ha9 rfl ?_
   refine wp_skip ?_
   refine then_n ?_
   refine wp_block ?_
   refine wp_seq ?_
   refine wp_region_lit ?_
   refine wl_val ha9 rfl rfl rfl (op_move ha9 rfl rfl) ?_
   intro a11 ha11; clear ha9 a9
   refine wpList_nil ?_
   refine then_n ?_
   rcases Bool.eq_false_or_eq_true (f) with c12 | c12
   ·
    rw [c12] at ha11
    refine cond_t ha11 rfl ?_
    refine wp_region_lit ?_
    refine wl_val ha11 rfl rfl rfl (op_move ha11 rfl rfl) ?_
    intro a13 ha13; clear ha11 a11
    refine wl_val ha13 rfl rfl rfl (op_sadd ha13 rfl rfl rfl (by simp; omega)) ?_
    intro a14 ha14; clear ha13 a13
    refine wl_val ha14 rfl rfl rfl (op_assign ha14 rfl rfl) ?_
    intro a15 ha15; clear ha14 a14
    refine wpList_nil ?_
    refine block_n ?_
    refine round_end (x := (o, f, k)) ((([32] : Str)) ++ o, true, (k + 1)) ?_ ?_
    ·
     refine ⟨(Sl.cons_ ha15 rfl rfl (Sl.cons_ ha15 rfl rfl (Sl.cons_ ha15 rfl rfl (Sl.nil_ ha15)))), hx3, (by omega), (by (simp; omega)), (by omega), (by exact c12.symm.trans hff), (by have hfr := hff.symm.trans c12; rw [hfr] at hF ⊢; rw [← hF]; exact fillS_t (s := o) (by omega))⟩
    ·show (width.toNat - ((k + 1)) : Nat) < width.toNat - k; omega
   ·
    rw [c12] at ha11
    refine cond_f ha11 rfl ?_
    refine wp_region_lit ?_
    refine wl_val ha11 rfl rfl rfl (op_move ha11 rfl rfl) ?_
    intro a16 ha16; clear ha11 a11
    refine wl_val ha16 rfl rfl rfl (op_sadd ha16 rfl rfl rfl (by simp; omega)) ?_
    intro a17 ha17; clear ha16 a16
    refine wl_val ha17 rfl rfl rfl (op_assign ha17 rfl rfl) ?_
    intro a18 ha18; clear ha17 a17
    refine wpList_nil ?_
    refine block_n ?_
    refine round_end (x := (o, f, k)) (o ++ (([32] : Str)), false, (k + 1)) ?_ ?_
    ·
     refine ⟨(Sl.cons_ ha18 rfl rfl (Sl.cons_ ha18 rfl rfl (Sl.cons_ ha18 rfl rfl (Sl.nil_ ha18)))), hx3, (by omega), (by (simp; omega)), (by omega), (by exact c12.symm.trans hff), (by have hfr := hff.symm.trans c12; rw [hfr] at hF ⊢; rw [← hF]; exact fillS_f (s := o) (by omega))⟩
    ·show (width.toNat - ((k + 1)) : Nat) < width.toNat - k; omega
  ·
   rw [decide_eq_false c10] at ha9
   refine cond_f ha9 rfl ?_
   refine wp_exit ?_
   refine then_e ?_
   refine then_e ?_
   refine block_hit ?_
   refine then_n ?_
   refine wp_seq ?_
   refine wp_region_lit ?_
   refine wl_val ha9 rfl rfl rfl (op_move ha9 rfl rfl) ?_
   intro a19 ha19; clear ha9 a9
   refine wl_val ha19 rfl rfl rfl (op_assign ha19 rfl rfl) ?_
   intro a20 ha20; clear ha19 a19
   refine wpList_nil ?_
   refine then_n ?_
   refine wp_ret ?_
   refine ret1 ha20 rfl rfl ?_
   clear ha20 a20
   exact ret_mk hx3 (congrArg St (by rw [fillS_no (by omega)] at hF; exact hF))


end Go.Proofs.Ytjpldgicibnkcaa
