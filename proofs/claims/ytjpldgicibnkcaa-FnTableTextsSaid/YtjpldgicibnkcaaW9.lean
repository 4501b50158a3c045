/- Texts without blanks at their ends. -/
import Derived.Test.YtjpldgicibnkcaaW8
namespace Go.Proofs.Ytjpldgicibnkcaa
open Go Go.RowKit

def trL : Str → Str
  | [] => []
  | c :: cs => if c = 32 then trL cs else c :: cs
def trR (s : Str) : Str := (trL s.reverse).reverse
/-- Without blanks at both ends. -/
def trS (s : Str) : Str := trR (trL s)
theorem trL_no {s : Str} (h : s = [] ∨ ∃ c, s[0]? = some c ∧ c ≠ 32) : trL s = s := by
  rcases h with rfl | ⟨c, h, hc⟩
  · rfl
  · cases s with
    | nil => rfl
    | cons a s => simp at h; subst h; rw [trL, if_neg hc]
theorem trL_go {s : Str} (h : s[0]? = some 32) : trL s = trL (s.drop 1) := by
  cases s with
  | nil => simp at h
  | cons a s => simp at h; subst h; rw [trL, if_pos rfl]; rfl
theorem trR_no {s : Str} (h : s = [] ∨ ∃ c, s[s.length - 1]? = some c ∧ c ≠ 32) : trR s = s := by
  unfold trR
  rw [trL_no, List.reverse_reverse]
  rcases h with rfl | ⟨c, h, hc⟩
  · exact .inl rfl
  · refine .inr ⟨c, ?_, hc⟩
    have hl := (List.getElem?_eq_some_iff.1 h).1
    rw [List.getElem?_reverse (by omega)]; simpa using h
theorem trR_go {s : Str} (h : s[s.length - 1]? = some 32) : trR s = trR (s.take (s.length - 1)) := by
  unfold trR
  have hl := (List.getElem?_eq_some_iff.1 h).1
  have e : s = s.take (s.length - 1) ++ [32] := by
    have h2 := take_snoc h
    rw [show s.length - 1 + 1 = s.length by omega, List.take_length] at h2; exact h2
  conv => lhs; rw [e]
  rw [List.reverse_append]
  rfl
theorem u32 {b : UInt8} (h : (b.toNat : Int) = 32) : b = 32 := by
  apply UInt8.toNat_inj.1; show b.toNat = 32; omega

theorem c_impl_trimmed (w0 : World) (s : Str) (g0 : s.length ≤ 9223372036854775807) :
  Calls Try.prog 95 #[St s] w0 (Ret w0 (fun v _ => v = St (trS s))) := by
 refine enter (N := 30) Try.func95 rfl rfl rfl ?_
 intro a0 ha0
 have hx0 := Ext.rfl' w0
 refine wp_seq ?_
 refine wp_region_lit ?_
 refine wl_val ha0 rfl rfl rfl (op_assign ha0 rfl rfl) ?_
 intro a1 ha1; clear ha0 a0
 refine wpList_nil ?_
 refine then_n ?_
 refine wp_seq ?_
 refine wp_block ?_
 refine loop_inv (X := Str × Nat) (fun (⟨o, k⟩ : Str × Nat) fr wl => Sl 30 fr [(0, St o)] ∧ Ext w0 wl ∧ w0.heap.size ≤ wl.heap.size ∧ (o.length = k) ∧ (k ≤ 9223372036854775807) ∧ (trL o = trL s)) (fun (⟨o, k⟩ : Str × Nat) => k) (s, s.length) ?_ ?_
 ·
  exact ⟨(Sl.cons_ ha1 rfl rfl (Sl.nil_ ha1)), hx0, (by omega), (by rfl), (by omega), (by rfl)⟩
 ·
  clear ha1 a1
  rintro ⟨o, k⟩ a4 w2 ⟨ha4, hx3, hzl5, hk, hk2, hF⟩
  have hzhx3 := hx3.size
  refine wp_seq ?_
  refine wp_seq ?_
  refine wp_region_lit ?_
  refine wl_val ha4 rfl rfl rfl (op_move ha4 rfl rfl) ?_
  intro a6 ha6; clear ha4 a4
  refine wl_val ha6 rfl rfl rfl (op_len_str ha6 rfl Try.underlying9 rfl) ?_
  intro a7 ha7; clear ha6 a6
  refine wl_val ha7 rfl rfl rfl (op_gtr ha7 rfl rfl rfl) ?_
  intro a8 ha8; clear ha7 a7
  refine wl_val ha8 rfl rfl rfl (op_move ha8 rfl rfl) ?_
  intro a9 ha9; clear ha8 a8
  by_cases c10 : (0 : Int) < ((o.length : Nat) : Int)
  ·
   rw [decide_eq_true c10] at ha9
   refine wl_val ha9 rfl rfl rfl (op_move ha9 rfl rfl) ?_
   intro a11 ha11; clear ha9 a9
   obtain ⟨b12, hb12⟩ := get_ex (xs := o) (j := 0) (by omega)
   have b12_lt := b12.toNat_lt
   refine wl_val ha11 rfl rfl rfl (op_index_str ha11 rfl Try.underlying9 rfl rfl (by omega) hb12) ?_
   intro a13 ha13; clear ha11 a11
   refine wl_val ha13 rfl rfl rfl (op_eql ha13 rfl rfl rfl) ?_
   intro a14 ha14; clear ha13 a13
   refine wl_val ha14 rfl rfl rfl (op_pick_t ha14 rfl rfl rfl) ?_
   intro a15 ha15; clear ha14 a14
   refine wpList_nil ?_
   refine then_n ?_
   by_cases c16 : (b12.toNat : Int) = (32 : Int)
   ·
    rw [decide_eq_true c16] at ha15
    refine cond_t ha15 rfl ?_
    refine wp_skip ?_
    refine then_n ?_
    refine wp_block ?_
    refine wp_region_lit ?_
    refine wl_val ha15 rfl rfl rfl (op_move ha15 rfl rfl) ?_
    intro a17 ha17; clear ha15 a15
    refine wl_val ha17 rfl rfl rfl (op_slice_str_f (i := 1) (by omega) ha17 rfl Try.underlying9 rfl rfl (by omega)) ?_
    intro a18 ha18; clear ha17 a17
    refine wl_val ha18 rfl rfl rfl (op_assign ha18 rfl rfl) ?_
    intro a19 ha19; clear ha18 a18
    refine wpList_nil ?_
    refine block_n ?_
    refine round_end (x := (o, k)) (o.drop 1, (k - 1)) ?_ ?_
    ·
     refine ⟨(Sl.cons_ ha19 rfl rfl (Sl.nil_ ha19)), hx3, (by omega), (by (simp; omega)), (by omega), (by rw [← hF]; exact (trL_go (hb12.trans (congrArg some (u32 c16)))).symm)⟩
    ·show (((k - 1)) : Nat) < k; omega
   ·
    rw [decide_eq_false c16] at ha15
    refine cond_f ha15 rfl ?_
    refine wp_exit ?_
    refine then_e ?_
    refine then_e ?_
    refine block_hit ?_
    refine then_n ?_
    refine wp_seq ?_
    refine wp_block ?_
    refine loop_inv (X := Str × Nat) (fun (⟨p, m⟩ : Str × Nat) fr wl => Sl 30 fr [(0, St p)] ∧ Ext w0 wl ∧ w2.heap.size ≤ wl.heap.size ∧ (p.length = m) ∧ (m ≤ 9223372036854775807) ∧ (trR p = trS s)) (fun (⟨p, m⟩ : Str × Nat) => m) (o, o.length) ?_ ?_
    ·
     exact ⟨(Sl.cons_ ha15 rfl rfl (Sl.nil_ ha15)), hx3, (by omega), (by rfl), (by omega), (by unfold trS; rw [← hF, trL_no (.inr ⟨_, hb12, fun e => c16 (by rw [e]; rfl)⟩)])⟩
    ·
     clear ha15 a15
     rintro ⟨p, m⟩ a22 w20 ⟨ha22, hx21, hzl23, hm, hm2, hG⟩
     have hzhx21 := hx21.size
     refine wp_seq ?_
     refine wp_seq ?_
     refine wp_region_lit ?_
     refine wl_val ha22 rfl rfl rfl (op_move ha22 rfl rfl) ?_
     intro a24 ha24; clear ha22 a22
     refine wl_val ha24 rfl rfl rfl (op_len_str ha24 rfl Try.underlying9 rfl) ?_
     intro a25 ha25; clear ha24 a24
     refine wl_val ha25 rfl rfl rfl (op_gtr ha25 rfl rfl rfl) ?_
     intro a26 ha26; clear ha25 a25
     refine wl_val ha26 rfl rfl rfl (op_move ha26 rfl rfl) ?_
     intro a27 ha27; clear ha26 a26
     by_cases c28 : (0 : Int) < ((p.length : Nat) : Int)
     ·
      rw [decide_eq_true c28] at ha27
      refine wl_val ha27 rfl rfl rfl (op_move ha27 rfl rfl) ?_
      intro a29 ha29; clear ha27 a27
      refine wl_val ha29 rfl rfl rfl (op_move ha29 rfl rfl) ?_
      intro a30 ha30; clear ha29 a29
      refine wl_val ha30 rfl rfl rfl (op_len_str ha30 rfl Try.underlying9 rfl) ?_
      intro a31 ha31; clear ha30 a30
      refine wl_val ha31 rfl rfl rfl ((op_sub ha31 rfl rfl rfl).int (IntWalk.i64_in _ (by omega))) ?_
      intro a32 ha32; clear ha31 a31
      obtain ⟨b33, hb33⟩ := get_ex (xs := p) (j := (p.length - 1)) (by omega)
      have b33_lt := b33.toNat_lt
      refine wl_val ha32 rfl rfl rfl (op_index_str ha32 rfl Try.underlying9 rfl rfl (by omega) hb33) ?_
      intro a34 ha34; clear ha32 a32
      refine wl_val ha34 rfl rfl rfl (op_eql ha34 rfl rfl rfl) ?_
      intro a35 ha35; clear ha34 a34
      refine wl_val ha35 rfl rfl rfl (op_pick_t ha35 rfl rfl rfl) ?_
      intro a36 ha36; clear ha35 a35
      refine wpList_nil ?_
      refine then_n ?_
      by_cases c37 : (b33.toNat : Int) = (32 : Int)
      ·
       rw [decide_eq_true c37] at ha36
       refine cond_t ha36 rfl ?_
       refine wp_skip ?_
       refine then_n ?_
       refine wp_block ?_
       refine wp_region_lit ?_
       refine wl_val ha36 rfl rfl rfl (op_move ha36 rfl rfl) ?_
       intro a38 ha38; clear ha36 a36
       refine wl_val ha38 rfl rfl rfl (op_move ha38 rfl rfl) ?_
       intro a39 ha39; clear ha38 a38
       refine wl_val ha39 rfl rfl rfl (op_len_str ha39 rfl Try.underlying9 rfl) ?_
       intro a40 ha40; clear ha39 a39
       refine wl_val ha40 rfl rfl rfl ((op_sub ha40 rfl rfl rfl).int (IntWalk.i64_in _ (by omega))) ?_
       intro a41 ha41; clear ha40 a40
       refine wl_val ha41 rfl rfl rfl (op_slice_str_t (j := (p.length - 1)) (by omega) ha41 rfl Try.underlying9 rfl rfl (by omega)) ?_
       intro a42 ha42; clear ha41 a41
       refine wl_val ha42 rfl rfl rfl (op_assign ha42 rfl rfl) ?_
       intro a43 ha43; clear ha42 a42
       refine wpList_nil ?_
       refine block_n ?_
       refine round_end (x := (p, m)) (p.take ((p.length - 1)), (m - 1)) ?_ ?_
       ·
        refine ⟨(Sl.cons_ ha43 rfl rfl (Sl.nil_ ha43)), hx21, (by omega), (by (simp; omega)), (by omega), (by rw [← hG]; exact (trR_go (hb33.trans (congrArg some (u32 c37)))).symm)⟩
       ·show (((m - 1)) : Nat) < m; omega
      ·
       rw [decide_eq_false c37] at ha36
       refine cond_f ha36 rfl ?_
       refine wp_exit ?_
       refine then_e ?_
       refine then_e ?_
       refine block_hit ?_
       refine then_n ?_
       refine wp_seq ?_
       refine wp_region_lit ?_
       refine wl_val ha36 rfl rfl rfl (op_move ha36 rfl rfl) ?_
       intro a44 ha44; clear ha36 a36
       refine wl_val ha44 rfl rfl rfl (op_assign ha44 rfl rfl) ?_
       intro a45 ha45; clear ha44 a44
       refine wpList_nil ?_
       refine then_n ?_
       refine wp_ret ?_
       refine ret1 ha45 rfl rfl ?_
       clear ha45 a45
       exact ret_mk hx21 (congrArg St (by rw [← hG]; exact (trR_no (.inr ⟨_, hb33, fun e => c37 (by rw [e]; rfl)⟩)).symm))
     ·
      rw [decide_eq_false c28] at ha27
      refine wl_skip ha27 rfl rfl rfl ?_
      intro a46 ha46; clear ha27 a27
      refine wl_skip ha46 rfl rfl rfl ?_
      intro a47 ha47; clear ha46 a46
      refine wl_skip ha47 rfl rfl rfl ?_
      intro a48 ha48; clear ha47 a47
      refine wl_skip ha48 rfl rfl rfl ?_
      intro a49 ha49; clear ha48 a48
      refine wl_skip ha49 rfl rfl rfl ?_
      intro a50 ha50; clear ha49 a49
      refine wl_skip ha50 rfl rfl rfl ?_
      intro a51 ha51; clear ha50 a50
      refine wl_val ha51 rfl rfl rfl (op_pick_f ha51 rfl rfl rfl) ?_
      intro a52 ha52; clear ha51 a51
      refine wpList_nil ?_
      refine then_n ?_
      refine cond_f ha52 rfl ?_
      refine wp_exit ?_
      refine then_e ?_
      refine then_e ?_
      refine block_hit ?_
      refine then_n ?_
      refine wp_seq ?_
      refine wp_region_lit ?_
      refine wl_val ha52 rfl rfl rfl (op_move ha52 rfl rfl) ?_
      intro a53 ha53; clear ha52 a52
      refine wl_val ha53 rfl rfl rfl (op_assign ha53 rfl rfl) ?_
      intro a54 ha54; clear ha53 a53
      refine wpList_nil ?_
      refine then_n ?_
      refine wp_ret ?_
      refine ret1 ha54 rfl rfl ?_
      clear ha54 a54
      exact ret_mk hx21 (congrArg St (by rw [← hG]; exact (trR_no (.inl (List.length_eq_zero_iff.1 (by omega)))).symm))
  ·
   rw [decide_eq_false c10] at ha9
   refine wl_skip ha9 rfl rfl rfl ?_
   intro a55 ha55; clear ha9 a9
   refine wl_skip ha55 rfl rfl rfl ?_
   intro a56 ha56; clear ha55 a55
   refine wl_skip ha56 rfl rfl rfl ?_
   intro a57 ha57; clear ha56 a56
   refine wl_val ha57 rfl rfl rfl (op_pick_f ha57 rfl rfl rfl) ?_
   intro a58 ha58; clear ha57 a57
   refine wpList_nil ?_
   refine then_n ?_
   refine cond_f ha58 rfl ?_
   refine wp_exit ?_
   refine then_e ?_
   refine then_e ?_
   refine block_hit ?_
   refine then_n ?_
   refine wp_seq ?_
   refine wp_block ?_
   refine loop_inv (X := Str × Nat) (fun (⟨p, m⟩ : Str × Nat) fr wl => Sl 30 fr [(0, St p)] ∧ Ext w0 wl ∧ w2.heap.size ≤ wl.heap.size ∧ (p.length = m) ∧ (m ≤ 9223372036854775807) ∧ (trR p = trS s)) (fun (⟨p, m⟩ : Str × Nat) => m) (o, o.length) ?_ ?_
   ·
    exact ⟨(Sl.cons_ ha58 rfl rfl (Sl.nil_ ha58)), hx3, (by omega), (by rfl), (by omega), (by unfold trS; rw [← hF, trL_no (.inl (List.length_eq_zero_iff.1 (by omega)))])⟩
   ·
    clear ha58 a58
    rintro ⟨p, m⟩ a61 w59 ⟨ha61, hx60, hzl62, hm, hm2, hG⟩
    have hzhx60 := hx60.size
    refine wp_seq ?_
    refine wp_seq ?_
    refine wp_region_lit ?_
    refine wl_val ha61 rfl rfl rfl (op_move ha61 rfl rfl) ?_
    intro a63 ha63; clear ha61 a61
    refine wl_val ha63 rfl rfl rfl (op_len_str ha63 rfl Try.underlying9 rfl) ?_
    intro a64 ha64; clear ha63 a63
    refine wl_val ha64 rfl rfl rfl (op_gtr ha64 rfl rfl rfl) ?_
    intro a65 ha65; clear ha64 a64
    refine wl_val ha65 rfl rfl rfl (op_move ha65 rfl rfl) ?_
    intro a66 ha66; clear ha65 a65
    by_cases c67 : (0 : Int) < ((p.length : Nat) : Int)
    ·
     rw [decide_eq_true c67] at ha66
     refine wl_val ha66 rfl rfl rfl (op_move ha66 rfl rfl) ?_
     intro a68 ha68; clear ha66 a66
     refine wl_val ha68 rfl rfl rfl (op_move ha68 rfl rfl) ?_
     intro a69 ha69; clear ha68 a68
     refine wl_val ha69 rfl rfl rfl (op_len_str ha69 rfl Try.underlying9 rfl) ?_
     intro a70 ha70; clear ha69 a69
     refine wl_val ha70 rfl rfl rfl ((op_sub ha70 rfl rfl rfl).int (IntWalk.i64_in _ (by omega))) ?_
     intro a71 ha71; clear ha70 a70
     obtain ⟨b72, hb72⟩ := get_ex (xs := p) (j := (p.length - 1)) (by omega)
     have b72_lt := b72.toNat_lt
     refine wl_val ha71 rfl rfl rfl (op_index_str ha71 rfl Try.underlying9 rfl rfl (by omega) hb72) ?_
     intro a73 ha73; clear ha71 a71
     refine wl_val ha73 rfl rfl rfl (op_eql ha73 rfl rfl rfl) ?_
     intro a74 ha74; clear ha73 a73
     refine wl_val ha74 rfl rfl rfl (op_pick_t ha74 rfl rfl rfl) ?_
     intro a75 ha75; clear ha74 a74
     refine wpList_nil ?_
     refine then_n ?_
     by_cases c76 : (b72.toNat : Int) = (32 : Int)
     ·
      rw [decide_eq_true c76] at ha75
      refine cond_t ha75 rfl ?_
      refine wp_skip ?_
      refine then_n ?_
      refine wp_block ?_
      refine wp_region_lit ?_
      refine wl_val ha75 rfl rfl rfl (op_move ha75 rfl rfl) ?_
      intro a77 ha77; clear ha75 a75
      refine wl_val ha77 rfl rfl rfl (op_move ha77 rfl rfl) ?_
      intro a78 ha78; clear ha77 a77
      refine wl_val ha78 rfl rfl rfl (op_len_str ha78 rfl Try.underlying9 rfl) ?_
      intro a79 ha79; clear ha78 a78
      refine wl_val ha79 rfl rfl rfl ((op_sub ha79 rfl rfl rfl).int (IntWalk.i64_in _ (by omega))) ?_
      intro a80 ha80; clear ha79 a79
      refine wl_val ha80 rfl rfl rfl (op_slice_str_t (j := (p.length - 1)) (by omega) ha80 rfl Try.underlying9 rfl rfl (by omega)) ?_
      intro a81 ha81; clear ha80 a80
      refine wl_val ha81 rfl rfl rfl (op_assign ha81 rfl rfl) ?_
      intro a82 ha82; clear ha81 a81
      refine wpList_nil ?_
      refine block_n ?_
      refine round_end (x := (p, m)) (p.take ((p.length - 1)), (m - 1)) ?_ ?_
      ·
       refine ⟨(Sl.cons_ ha82 rfl rfl (Sl.nil_ ha82)), hx60, (by omega), (by (simp; omega)), (by omega), (by rw [← hG]; exact (trR_go (hb72.trans (congrArg some (u32 c76)))).symm)⟩
      ·show (((m - 1)) : Nat) < m; omega
     ·
      rw [decide_eq_false c76] at ha75
      refine cond_f ha75 rfl ?_
      refine wp_exit ?_
      refine then_e ?_
      refine then_e ?_
      refine block_hit ?_
      refine then_n ?_
      refine wp_seq ?_
      refine wp_region_lit ?_
      refine wl_val ha75 rfl rfl rfl (op_move ha75 rfl rfl) ?_
      intro a83 ha83; clear ha75 a75
      refine wl_val ha83 rfl rfl rfl (op_assign ha83 rfl rfl) ?_
      intro a84 ha84; clear ha83 a83
      refine wpList_nil ?_
      refine then_n ?_
      refine wp_ret ?_
      refine ret1 ha84 rfl rfl ?_
      clear ha84 a84
      exact ret_mk hx60 (congrArg St (by rw [← hG]; exact (trR_no (.inr ⟨_, hb72, fun e => c76 (by rw [e]; rfl)⟩)).symm))
    ·
     rw [decide_eq_false c67] at ha66
     refine wl_skip ha66 rfl rfl rfl ?_
     intro a85 ha85; clear ha66 a66
     refine wl_skip ha85 rfl rfl rfl ?_
     intro a86 ha86; clear ha85 a85
     refine wl_skip ha86 rfl rfl rfl ?_
     intro a87 ha87; clear ha86 a86
     refine wl_skip ha87 rfl rfl rfl ?_
     intro a88 ha88; clear ha87 a87
     refine wl_skip ha88 rfl rfl rfl ?_
     intro a89 ha89; clear ha88 a88
     refine wl_skip ha89 rfl rfl rfl ?_
     intro a90 ha90; clear ha89 a89
     refine wl_val ha90 rfl rfl rfl (op_pick_f ha90 rfl rfl rfl) ?_
     intro a91 ha91; clear ha90 a90
     refine wpList_nil ?_
     refine then_n ?_
     refine cond_f ha91 rfl ?_
     refine wp_exit ?_
     refine then_e ?_
     refine then_e ?_
     refine block_hit ?_
     refine then_n ?_
     refine wp_seq ?_
     refine wp_region_lit ?_
     refine wl_val ha91 rfl rfl rfl (op_move ha91 rfl rfl) ?_
     intro a92 ha92; clear ha91 a91
     refine wl_val ha92 rfl rfl rfl (op_assign ha92 rfl rfl) ?_
     intro a93 ha93; clear ha92 a92
     refine wpList_nil ?_
     refine then_n ?_
     refine wp_ret ?_
     refine ret1 ha93 rfl rfl ?_
     clear ha93 a93
     exact ret_mk hx60 (congrArg St (by rw [← hG]; exact (trR_no (.inl (List.length_eq_zero_iff.1 (by omega)))).symm))

theorem c_spec_l31Trim (w0 : World) (s : Str) (g0 : s.length ≤ 9223372036854775807) :
  Calls Try.prog 92 #[St s] w0 (Ret w0 (fun v _ => v = St (trS s))) := by
 refine enter (N := 30) Try.func92 rfl rfl rfl ?_
 intro a0 ha0
 have hx0 := Ext.rfl' w0
 refine wp_seq ?_
 refine wp_region_lit ?_
 refine wl_val ha0 rfl rfl rfl (op_assign ha0 rfl rfl) ?_
 intro a1 ha1; clear ha0 a0
 refine wpList_nil ?_
 refine then_n ?_
 refine wp_seq ?_
 refine wp_block ?_
 refine loop_inv (X := Str × Nat) (fun (⟨o, k⟩ : Str × Nat) fr wl => Sl 30 fr [(0, St o)] ∧ Ext w0 wl ∧ w0.heap.size ≤ wl.heap.size ∧ (o.length = k) ∧ (k ≤ 9223372036854775807) ∧ (trL o = trL s)) (fun (⟨o, k⟩ : Str × Nat) => k) (s, s.length) ?_ ?_
 ·
  exact ⟨(Sl.cons_ ha1 rfl rfl (Sl.nil_ ha1)), hx0, (by omega), (by rfl), (by omega), (by rfl)⟩
 ·
  clear ha1 a1
  rintro ⟨o, k⟩ a4 w2 ⟨ha4, hx3, hzl5, hk, hk2, hF⟩
  have hzhx3 := hx3.size
  refine wp_seq ?_
  refine wp_seq ?_
  refine wp_region_lit ?_
  refine wl_val ha4 rfl rfl rfl (op_move ha4 rfl rfl) ?_
  intro a6 ha6; clear ha4 a4
  refine wl_val ha6 rfl rfl rfl (op_len_str ha6 rfl Try.underlying9 rfl) ?_
  intro a7 ha7; clear ha6 a6
  refine wl_val ha7 rfl rfl rfl (op_gtr ha7 rfl rfl rfl) ?_
  intro a8 ha8; clear ha7 a7
  refine wl_val ha8 rfl rfl rfl (op_move ha8 rfl rfl) ?_
  intro a9 ha9; clear ha8 a8
  by_cases c10 : (0 : Int) < ((o.length : Nat) : Int)
  ·
   rw [decide_eq_true c10] at ha9
   refine wl_val ha9 rfl rfl rfl (op_move ha9 rfl rfl) ?_
   intro a11 ha11; clear ha9 a9
   obtain ⟨b12, hb12⟩ := get_ex (xs := o) (j := 0) (by omega)
   have b12_lt := b12.toNat_lt
   refine wl_val ha11 rfl rfl rfl (op_index_str ha11 rfl Try.underlying9 rfl rfl (by omega) hb12) ?_
   intro a13 ha13; clear ha11 a11
   refine wl_val ha13 rfl rfl rfl (op_eql ha13 rfl rfl rfl) ?_
   intro a14 ha14; clear ha13 a13
   refine wl_val ha14 rfl rfl rfl (op_pick_t ha14 rfl rfl rfl) ?_
   intro a15 ha15; clear ha14 a14
   refine wpList_nil ?_
   refine then_n ?_
   by_cases c16 : (b12.toNat : Int) = (32 : Int)
   ·
    rw [decide_eq_true c16] at ha15
    refine cond_t ha15 rfl ?_
    refine wp_skip ?_
    refine then_n ?_
    refine wp_block ?_
    refine wp_region_lit ?_
    refine wl_val ha15 rfl rfl rfl (op_move ha15 rfl rfl) ?_
    intro a17 ha17; clear ha15 a15
    refine wl_val ha17 rfl rfl rfl (op_slice_str_f (i := 1) (by omega) ha17 rfl Try.underlying9 rfl rfl (by omega)) ?_
    intro a18 ha18; clear ha17 a17
    refine wl_val ha18 rfl rfl rfl (op_assign ha18 rfl rfl) ?_
    intro a19 ha19; clear ha18 a18
    refine wpList_nil ?_
    refine block_n ?_
    refine round_end (x := (o, k)) (o.drop 1, (k - 1)) ?_ ?_
    ·
     refine ⟨(Sl.cons_ ha19 rfl rfl (Sl.nil_ ha19)), hx3, (by omega), (by (simp; omega)), (by omega), (by rw [← hF]; exact (trL_go (hb12.trans (congrArg some (u32 c16)))).symm)⟩
    ·show (((k - 1)) : Nat) < k; omega
   ·
    rw [decide_eq_false c16] at ha15
    refine cond_f ha15 rfl ?_
    refine wp_exit ?_
    refine then_e ?_
    refine then_e ?_
    refine block_hit ?_
    refine then_n ?_
    refine wp_seq ?_
    refine wp_block ?_
    refine loop_inv (X := Str × Nat) (fun (⟨p, m⟩ : Str × Nat) fr wl => Sl 30 fr [(0, St p)] ∧ Ext w0 wl ∧ w2.heap.size ≤ wl.heap.size ∧ (p.length = m) ∧ (m ≤ 9223372036854775807) ∧ (trR p = trS s)) (fun (⟨p, m⟩ : Str × Nat) => m) (o, o.length) ?_ ?_
    ·
     exact ⟨(Sl.cons_ ha15 rfl rfl (Sl.nil_ ha15)), hx3, (by omega), (by rfl), (by omega), (by unfold trS; rw [← hF, trL_no (.inr ⟨_, hb12, fun e => c16 (by rw [e]; rfl)⟩)])⟩
    ·
     clear ha15 a15
     rintro ⟨p, m⟩ a22 w20 ⟨ha22, hx21, hzl23, hm, hm2, hG⟩
     have hzhx21 := hx21.size
     refine wp_seq ?_
     refine wp_seq ?_
     refine wp_region_lit ?_
     refine wl_val ha22 rfl rfl rfl (op_move ha22 rfl rfl) ?_
     intro a24 ha24; clear ha22 a22
     refine wl_val ha24 rfl rfl rfl (op_len_str ha24 rfl Try.underlying9 rfl) ?_
     intro a25 ha25; clear ha24 a24
     refine wl_val ha25 rfl rfl rfl (op_gtr ha25 rfl rfl rfl) ?_
     intro a26 ha26; clear ha25 a25
     refine wl_val ha26 rfl rfl rfl (op_move ha26 rfl rfl) ?_
     intro a27 ha27; clear ha26 a26
     by_cases c28 : (0 : Int) < ((p.length : Nat) : Int)
     ·
      rw [decide_eq_true c28] at ha27
      refine wl_val ha27 rfl rfl rfl (op_move ha27 rfl rfl) ?_
      intro a29 ha29; clear ha27 a27
      refine wl_val ha29 rfl rfl rfl (op_move ha29 rfl rfl) ?_
      intro a30 ha30; clear ha29 a29
      refine wl_val ha30 rfl rfl rfl (op_len_str ha30 rfl Try.underlying9 rfl) ?_
      intro a31 ha31; clear ha30 a30
      refine wl_val ha31 rfl rfl rfl ((op_sub ha31 rfl rfl rfl).int (IntWalk.i64_in _ (by omega))) ?_
      intro a32 ha32; clear ha31 a31
      obtain ⟨b33, hb33⟩ := get_ex (xs := p) (j := (p.length - 1)) (by omega)
      have b33_lt := b33.toNat_lt
      refine wl_val ha32 rfl rfl rfl (op_index_str ha32 rfl Try.underlying9 rfl rfl (by omega) hb33) ?_
      intro a34 ha34; clear ha32 a32
      refine wl_val ha34 rfl rfl rfl (op_eql ha34 rfl rfl rfl) ?_
      intro a35 ha35; clear ha34 a34
      refine wl_val ha35 rfl rfl rfl (op_pick_t ha35 rfl rfl rfl) ?_
      intro a36 ha36; clear ha35 a35
      refine wpList_nil ?_
      refine then_n ?_
      by_cases c37 : (b33.toNat : Int) = (32 : Int)
      ·
       rw [decide_eq_true c37] at ha36
       refine cond_t ha36 rfl ?_
       refine wp_skip ?_
       refine then_n ?_
       refine wp_block ?_
       refine wp_region_lit ?_
       refine wl_val ha36 rfl rfl rfl (op_move ha36 rfl rfl) ?_
       intro a38 ha38; clear ha36 a36
       refine wl_val ha38 rfl rfl rfl (op_move ha38 rfl rfl) ?_
       intro a39 ha39; clear ha38 a38
       refine wl_val ha39 rfl rfl rfl (op_len_str ha39 rfl Try.underlying9 rfl) ?_
       intro a40 ha40; clear ha39 a39
       refine wl_val ha40 rfl rfl rfl ((op_sub ha40 rfl rfl rfl).int (IntWalk.i64_in _ (by omega))) ?_
       intro a41 ha41; clear ha40 a40
       refine wl_val ha41 rfl rfl rfl (op_slice_str_t (j := (p.length - 1)) (by omega) ha41 rfl Try.underlying9 rfl rfl (by omega)) ?_
       intro a42 ha42; clear ha41 a41
       refine wl_val ha42 rfl rfl rfl (op_assign ha42 rfl rfl) ?_
       intro a43 ha43; clear ha42 a42
       refine wpList_nil ?_
       refine block_n ?_
       refine round_end (x := (p, m)) (p.take ((p.length - 1)), (m - 1)) ?_ ?_
       ·
        refine ⟨(Sl.cons_ ha43 rfl rfl (Sl.nil_ ha43)), hx21, (by omega), (by (simp; omega)), (by omega), (by rw [← hG]; exact (trR_go (hb33.trans (congrArg some (u32 c37)))).symm)⟩
       ·show (((m - 1)) : Nat) < m; omega
      ·
       rw [decide_eq_false c37] at ha36
       refine cond_f ha36 rfl ?_
       refine wp_exit ?_
       refine then_e ?_
       refine then_e ?_
       refine block_hit ?_
       refine then_n ?_
       refine wp_seq ?_
       refine wp_region_lit ?_
       refine wl_val ha36 rfl rfl rfl (op_move ha36 rfl rfl) ?_
       intro a44 ha44; clear ha36 a36
       refine wl_val ha44 rfl rfl rfl (op_assign ha44 rfl rfl) ?_
       intro a45 ha45; clear ha44 a44
       refine wpList_nil ?_
       refine then_n ?_
       refine wp_ret ?_
       refine ret1 ha45 rfl rfl ?_
       clear ha45 a45
       exact ret_mk hx21 (congrArg St (by rw [← hG]; exact (trR_no (.inr ⟨_, hb33, fun e => c37 (by rw [e]; rfl)⟩)).symm))
     ·
      rw [decide_eq_false c28] at ha27
      refine wl_skip ha27 rfl rfl rfl ?_
      intro a46 ha46; clear ha27 a27
      refine wl_skip ha46 rfl rfl rfl ?_
      intro a47 ha47; clear ha46 a46
      refine wl_skip ha47 rfl rfl rfl ?_
      intro a48 ha48; clear ha47 a47
      refine wl_skip ha48 rfl rfl rfl ?_
      intro a49 ha49; clear ha48 a48
      refine wl_skip ha49 rfl rfl rfl ?_
      intro a50 ha50; clear ha49 a49
      refine wl_skip ha50 rfl rfl rfl ?_
      intro a51 ha51; clear ha50 a50
      refine wl_val ha51 rfl rfl rfl (op_pick_f ha51 rfl rfl rfl) ?_
      intro a52 ha52; clear ha51 a51
      refine wpList_nil ?_
      refine then_n ?_
      refine cond_f ha52 rfl ?_
      refine wp_exit ?_
      refine then_e ?_
      refine then_e ?_
      refine block_hit ?_
      refine then_n ?_
      refine wp_seq ?_
      refine wp_region_lit ?_
      refine wl_val ha52 rfl rfl rfl (op_move ha52 rfl rfl) ?_
      intro a53 ha53; clear ha52 a52
      refine wl_val ha53 rfl rfl rfl (op_assign ha53 rfl rfl) ?_
      intro a54 ha54; clear ha53 a53
      refine wpList_nil ?_
      refine then_n ?_
      refine wp_ret ?_
      refine ret1 ha54 rfl rfl ?_
      clear ha54 a54
      exact ret_mk hx21 (congrArg St (by rw [← hG]; exact (trR_no (.inl (List.length_eq_zero_iff.1 (by omega)))).symm))
  ·
   rw [decide_eq_false c10] at ha9
   refine wl_skip ha9 rfl rfl rfl ?_
   intro a55 ha55; clear ha9 a9
   refine wl_skip ha55 rfl rfl rfl ?_
   intro a56 ha56; clear ha55 a55
   refine wl_skip ha56 rfl rfl rfl ?_
   intro a57 ha57; clear ha56 a56
   refine wl_val ha57 rfl rfl rfl (op_pick_f ha57 rfl rfl rfl) ?_
   intro a58 ha58; clear ha57 a57
   refine wpList_nil ?_
   refine then_n ?_
   refine cond_f ha58 rfl ?_
   refine wp_exit ?_
   refine then_e ?_
   refine then_e ?_
   refine block_hit ?_
   refine then_n ?_
   refine wp_seq ?_
   refine wp_block ?_
   refine loop_inv (X := Str × Nat) (fun (⟨p, m⟩ : Str × Nat) fr wl => Sl 30 fr [(0, St p)] ∧ Ext w0 wl ∧ w2.heap.size ≤ wl.heap.size ∧ (p.length = m) ∧ (m ≤ 9223372036854775807) ∧ (trR p = trS s)) (fun (⟨p, m⟩ : Str × Nat) => m) (o, o.length) ?_ ?_
   ·
    exact ⟨(Sl.cons_ ha58 rfl rfl (Sl.nil_ ha58)), hx3, (by omega), (by rfl), (by omega), (by unfold trS; rw [← hF, trL_no (.inl (List.length_eq_zero_iff.1 (by omega)))])⟩
   ·
    clear ha58 a58
    rintro ⟨p, m⟩ a61 w59 ⟨ha61, hx60, hzl62, hm, hm2, hG⟩
    have hzhx60 := hx60.size
    refine wp_seq ?_
    refine wp_seq ?_
    refine wp_region_lit ?_
    refine wl_val ha61 rfl rfl rfl (op_move ha61 rfl rfl) ?_
    intro a63 ha63; clear ha61 a61
    refine wl_val ha63 rfl rfl rfl (op_len_str ha63 rfl Try.underlying9 rfl) ?_
    intro a64 ha64; clear ha63 a63
    refine wl_val ha64 rfl rfl rfl (op_gtr ha64 rfl rfl rfl) ?_
    intro a65 ha65; clear ha64 a64
    refine wl_val ha65 rfl rfl rfl (op_move ha65 rfl rfl) ?_
    intro a66 ha66; clear ha65 a65
    by_cases c67 : (0 : Int) < ((p.length : Nat) : Int)
    ·
     rw [decide_eq_true c67] at ha66
     refine wl_val ha66 rfl rfl rfl (op_move ha66 rfl rfl) ?_
     intro a68 ha68; clear ha66 a66
     refine wl_val ha68 rfl rfl rfl (op_move ha68 rfl rfl) ?_
     intro a69 ha69; clear ha68 a68
     refine wl_val ha69 rfl rfl rfl (op_len_str ha69 rfl Try.underlying9 rfl) ?_
     intro a70 ha70; clear ha69 a69
     refine wl_val ha70 rfl rfl rfl ((op_sub ha70 rfl rfl rfl).int (IntWalk.i64_in _ (by omega))) ?_
     intro a71 ha71; clear ha70 a70
     obtain ⟨b72, hb72⟩ := get_ex (xs := p) (j := (p.length - 1)) (by omega)
     have b72_lt := b72.toNat_lt
     refine wl_val ha71 rfl rfl rfl (op_index_str ha71 rfl Try.underlying9 rfl rfl (by omega) hb72) ?_
     intro a73 ha73; clear ha71 a71
     refine wl_val ha73 rfl rfl rfl (op_eql ha73 rfl rfl rfl) ?_
     intro a74 ha74; clear ha73 a73
     refine wl_val ha74 rfl rfl rfl (op_pick_t ha74 rfl rfl rfl) ?_
     intro a75 ha75; clear ha74 a74
     refine wpList_nil ?_
     refine then_n ?_
     by_cases c76 : (b72.toNat : Int) = (32 : Int)
     ·
      rw [decide_eq_true c76] at ha75
      refine cond_t ha75 rfl ?_
      refine wp_skip ?_
      refine then_n ?_
      refine wp_block ?_
      refine wp_region_lit ?_
      refine wl_val ha75 rfl rfl rfl (op_move ha75 rfl rfl) ?_
      intro a77 ha77; clear ha75 a75
      refine wl_val ha77 rfl rfl rfl (op_move ha77 rfl rfl) ?_
      intro a78 ha78; clear ha77 a77
      refine wl_val ha78 rfl rfl rfl (op_len_str ha78 rfl Try.underlying9 rfl) ?_
      intro a79 ha79; clear ha78 a78
      refine wl_val ha79 rfl rfl rfl ((op_sub ha79 rfl rfl rfl).int (IntWalk.i64_in _ (by omega))) ?_
      intro a80 ha80; clear ha79 a79
      refine wl_val ha80 rfl rfl rfl (op_slice_str_t (j := (p.length - 1)) (by omega) ha80 rfl Try.underlying9 rfl rfl (by omega)) ?_
      intro a81 ha81; clear ha80 a80
      refine wl_val ha81 rfl rfl rfl (op_assign ha81 rfl rfl) ?_
      intro a82 ha82; clear ha81 a81
      refine wpList_nil ?_
      refine block_n ?_
      refine round_end (x := (p, m)) (p.take ((p.length - 1)), (m - 1)) ?_ ?_
      ·
       refine ⟨(Sl.cons_ ha82 rfl rfl (Sl.nil_ ha82)), hx60, (by omega), (by (simp; omega)), (by omega), (by rw [← hG]; exact (trR_go (hb72.trans (congrArg some (u32 c76)))).symm)⟩
      ·show (((m - 1)) : Nat) < m; omega
     ·
      rw [decide_eq_false c76] at ha75
      refine cond_f ha75 rfl ?_
      refine wp_exit ?_
      refine then_e ?_
      refine then_e ?_
      refine block_hit ?_
      refine then_n ?_
      refine wp_seq ?_
      refine wp_region_lit ?_
      refine wl_val ha75 rfl rfl rfl (op_move ha75 rfl rfl) ?_
      intro a83 ha83; clear ha75 a75
      refine wl_val ha83 rfl rfl rfl (op_assign ha83 rfl rfl) ?_
      intro a84 ha84; clear ha83 a83
      refine wpList_nil ?_
      refine then_n ?_
      refine wp_ret ?_
      refine ret1 ha84 rfl rfl ?_
      clear ha84 a84
      exact ret_mk hx60 (congrArg St (by rw [← hG]; exact (trR_no (.inr ⟨_, hb72, fun e => c76 (by rw [e]; rfl)⟩)).symm))
    ·
     rw [decide_eq_false c67] at ha66
     refine wl_skip ha66 rfl rfl rfl ?_
     intro a85 ha85; clear ha66 a66
     refine wl_skip ha85 rfl rfl rfl ?_
     intro a86 ha86; clear ha85 a85
     refine wl_skip ha86 rfl rfl rfl ?_
     intro a87 ha87; clear ha86 a86
     refine wl_skip ha87 rfl rfl rfl ?_
     intro a88 ha88; clear ha87 a87
     refine wl_skip ha88 rfl rfl rfl ?_
     intro a89 ha89; clear ha88 a88
     refine wl_skip ha89 rfl rfl rfl ?_
     intro a90 ha90; clear ha89 a89
     refine wl_val ha90 rfl rfl rfl (op_pick_f ha90 rfl rfl rfl) ?_
     intro a91 ha91; clear ha90 a90
     refine wpList_nil ?_
     refine then_n ?_
     refine cond_f ha91 rfl ?_
     refine wp_exit ?_
     refine then_e ?_
     refine then_e ?_
     refine block_hit ?_
     refine then_n ?_
     refine wp_seq ?_
     refine wp_region_lit ?_
     refine wl_val ha91 rfl rfl rfl (op_move ha91 rfl rfl) ?_
     intro a92 ha92; clear ha91 a91
     refine wl_val ha92 rfl rfl rfl (op_assign ha92 rfl rfl) ?_
     intro a93 ha93; clear ha92 a92
     refine wpList_nil ?_
     refine then_n ?_
     refine wp_ret ?_
     refine ret1 ha93 rfl rfl ?_
     clear ha93 a93
     exact ret_mk hx60 (congrArg St (by rw [← hG]; exact (trR_no (.inl (List.length_eq_zero_iff.1 (by omega)))).symm))


end Go.Proofs.Ytjpldgicibnkcaa
