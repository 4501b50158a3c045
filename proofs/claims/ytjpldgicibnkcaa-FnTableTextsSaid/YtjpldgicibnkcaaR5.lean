/- Tables and texts drawn. -/
import Derived.Test.YtjpldgicibnkcaaR2
import Derived.Test.YtjpldgicibnkcaaW14
namespace Go.Proofs.Ytjpldgicibnkcaa
open Go Go.RowKit

theorem el_len {xs : List Str} {i : Nat} {x : Str} (n : Nat) (h : (xs.all fun s => decide (s.length ≤ n)) = true) (hx : xs[i]? = some x) : x.length ≤ n := by
  rw [List.all_eq_true] at h
  simpa using h x (List.mem_of_getElem? hx)

theorem drawn_tab {ws : List Str} {t : Tab} (hw : ws = [[100, 97, 121], [115, 97, 108, 101, 115], [104, 111, 117, 114, 115]]) (h1 : 1 ≤ t.1.length) (h2 : t.1.length ≤ ws.length) (h3 : t.2.length ≤ 5) (h4 : ∀ r ∈ t.2, r.length = t.1.length ∧ ∀ n ∈ r, -100 ≤ n ∧ n ≤ 200) (h5 : t.1 = ws.take t.1.length) : tabB t = true := by
  subst hw
  have e : upB (hdAt t.1) t.1.length = true := by
    have h2 : t.1.length ≤ 3 := h2
    generalize t.1.length = k at h1 h2 h5 ⊢
    rw [h5]
    match k, h1, h2 with
    | 1, _, _ => decide
    | 2, _, _ => decide
    | 3, _, _ => decide
  have e2 : upB (rwAt t.1.length t.2) t.2.length = true := by
    rw [upB_iff]
    intro k hk
    have ek : t.2[k]? = some t.2[k] := List.getElem?_eq_getElem hk
    have hr := h4 _ (List.mem_of_getElem? ek)
    exact (rwAt_eq ek).trans (rwB_ok hr.1 (by rw [List.all_eq_true]; intro n hn; have := hr.2 n hn; unfold valB; simp; omega))
  rw [tab_y e e2]
  have h2 : t.1.length ≤ 3 := h2
  simp; omega

set_option maxHeartbeats 4000000 in
theorem c_spec_l01Damage (w0 : World) (g_s b_s : Nat) (t : Str) (h_s : Src w0 g_s b_s 102) (g0 : t.length ≤ 1048576) :
  Calls Try.prog 97 #[.pointer (some (⟨g_s, 0, none⟩ : Addr)), St t] w0 (RetS w0 (some g_s) (fun v w1 => Src w1 g_s b_s 102 ∧ (fun v w1 => ∃ (d : Str), (d.length ≤ t.length + 1) ∧ (fun v _ => v = St (d)) v w1) v w1)) := by
 refine enter (N := 48) Try.func97 rfl rfl rfl ?_
 intro a0 ha0
 have hx0 := Stp.rfl' w0 (some g_s)
 have hgl_s := h_s.lt
 refine wp_seq ?_
 refine wp_region_lit ?_
 refine wl_val ha0 rfl rfl rfl (op_assign ha0 rfl rfl) ?_
 intro a1 ha1; clear ha0 a0
 refine wpList_nil ?_
 refine then_n ?_
 refine wp_seq ?_
 refine wp_region_lit ?_
 refine wl_val ha1 rfl rfl rfl (op_move ha1 rfl rfl) ?_
 intro a2 ha2; clear ha1 a1
 refine wl_val ha2 rfl rfl rfl (op_move ha2 rfl rfl) ?_
 intro a3 ha3; clear ha2 a2
 refine wl_val ha3 rfl rfl rfl (op_len_str ha3 rfl Try.underlying9 rfl) ?_
 intro a4 ha4; clear ha3 a3
 refine wl_val ha4 rfl rfl rfl ((op_add ha4 rfl rfl rfl).int (IntWalk.i64_in _ (by omega))) ?_
 intro a5 ha5; clear ha4 a4
 refine wl_callS ha5 rfl rfl rfl (op_call ha5 rfl cb81 rfl) (c_spec_l01Next _ g_s b_s (((t.length : Nat) : Int) + (1 : Int)) h_s) ?_
 rintro v6 w7 he8 ⟨hS9, ⟨q10, hq11, hq12, hq13, rfl⟩⟩ a14 ha14; clear ha5 a5
 have hx15 := hx0.trans' he8
 have hzhx15 := he8.size
 have hSlhS9 := hS9.lt
 refine wl_val ha14 rfl rfl rfl (op_assign ha14 rfl rfl) ?_
 intro a16 ha16; clear ha14 a14
 refine wpList_nil ?_
 refine then_n ?_
 refine wp_seq ?_
 refine wp_seq ?_
 refine wp_region_lit ?_
 refine wl_val ha16 rfl rfl rfl (op_move ha16 rfl rfl) ?_
 intro a17 ha17; clear ha16 a16
 refine wl_callS ha17 rfl rfl rfl (op_call ha17 rfl cb81 rfl) (c_spec_l01Next _ g_s b_s (8 : Int) hS9) ?_
 rintro v18 w19 he20 ⟨hS21, ⟨q22, hq23, hq24, hq25, rfl⟩⟩ a26 ha26; clear ha17 a17
 have hx27 := hx15.trans' he20
 have hzhx27 := he20.size
 clear hS9
 have hSlhS21 := hS21.lt
 refine wpList_nil ?_
 refine then_n ?_
 refine wp_block ?_
 refine wp_seq ?_
 refine wp_region_lit ?_
 refine wl_val ha26 rfl rfl rfl (op_eql ha26 rfl rfl rfl) ?_
 intro a28 ha28; clear ha26 a26
 refine wl_val ha28 rfl rfl rfl (op_assign ha28 rfl rfl) ?_
 intro a29 ha29; clear ha28 a28
 refine wpList_nil ?_
 refine then_n ?_
 by_cases c30 : (q22 : Int) = (0 : Int)
 ·
  rw [decide_eq_true c30] at ha29
  refine cond_t ha29 rfl ?_
  refine wp_seq ?_
  refine wp_region_lit ?_
  refine wl_val ha29 rfl rfl rfl (op_move ha29 rfl rfl) ?_
  intro a31 ha31; clear ha29 a29
  refine wl_val ha31 rfl rfl rfl (op_move ha31 rfl rfl) ?_
  intro a32 ha32; clear ha31 a31
  refine wl_val ha32 rfl rfl rfl (op_slice_str_t (j := ((q10 : Int)).toNat) (by omega) ha32 rfl Try.underlying9 rfl rfl (by first | omega | (simp; omega))) ?_
  intro a33 ha33; clear ha32 a32
  refine wl_val ha33 rfl rfl rfl (op_assign ha33 rfl rfl) ?_
  intro a34 ha34; clear ha33 a33
  refine wpList_nil ?_
  refine then_n ?_
  refine wp_ret ?_
  refine block_r ?_
  refine then_r ?_
  refine ret1 ha34 rfl rfl ?_
  clear ha34 a34
  refine ret_mkS hx27 ⟨hS21, ?_⟩
  refine ⟨(t.take (((q10 : Int)).toNat) : Str), (by first | omega | (simp; omega)), ?_⟩
  exact (congrArg St (by rfl))
 ·
  rw [decide_eq_false c30] at ha29
  refine cond_f ha29 rfl ?_
  refine wp_seq ?_
  refine wp_region_lit ?_
  refine wl_val ha29 rfl rfl rfl (op_eql ha29 rfl rfl rfl) ?_
  intro a35 ha35; clear ha29 a29
  refine wl_val ha35 rfl rfl rfl (op_assign ha35 rfl rfl) ?_
  intro a36 ha36; clear ha35 a35
  refine wpList_nil ?_
  refine then_n ?_
  by_cases c37 : (q22 : Int) = (1 : Int)
  ·
   rw [decide_eq_true c37] at ha36
   refine cond_t ha36 rfl ?_
   refine wp_seq ?_
   refine dr_enter (fun wa_ wb_ => Stp wa_ wb_ (some g_s)) follows_mixed ?_
   intro w38 he39
   have hx40 := hx27.trans' (Stp.of_ext he39 _)
   have hzhx40 := he39.size
   replace hS21 := hS21.ext he39
   have hs41 : Ext w38 w38 := Ext.rfl' _
   refine dr_val (i := 0) ha36 rfl (by kernel_rfl) (by kernel_rfl) (by kernel_rfl) rfl rfl rfl (Stp.of_ext hs41 _) (fun w' hw' => op_move ha36 rfl rfl) ?_
   intro a42 ha42; clear ha36 a36
   refine dr_val (i := 1) ha42 rfl (by kernel_rfl) (by kernel_rfl) (by kernel_rfl) rfl rfl rfl (Stp.of_ext hs41 _) (fun w' hw' => op_move ha42 rfl rfl) ?_
   intro a43 ha43; clear ha42 a42
   refine dr_val (i := 2) ha43 rfl (by kernel_rfl) (by kernel_rfl) (by kernel_rfl) rfl rfl rfl (Stp.of_ext hs41 _) (fun w' hw' => op_slice_str_t (j := ((q10 : Int)).toNat) (by omega) ha43 rfl Try.underlying9 rfl rfl (by first | omega | (simp; omega))) ?_
   intro a44 ha44; clear ha43 a43
   refine dr_val (i := 4) ha44 rfl (by kernel_rfl) (by kernel_rfl) (by kernel_rfl) rfl rfl rfl (Stp.of_ext hs41 _) (fun w' hw' => op_move ha44 rfl rfl) ?_
   intro a45 ha45; clear ha44 a44
   refine dr_val (i := 9) ha45 rfl (by kernel_rfl) (by kernel_rfl) (by kernel_rfl) rfl rfl rfl (Stp.of_ext hs41 _) (fun w' hw' => op_move ha45 rfl rfl) ?_
   intro a46 ha46; clear ha45 a45
   refine dr_val (i := 10) ha46 rfl (by kernel_rfl) (by kernel_rfl) (by kernel_rfl) rfl rfl rfl (Stp.of_ext hs41 _) (fun w' hw' => op_move ha46 rfl rfl) ?_
   intro a47 ha47; clear ha46 a46
   refine dr_val (i := 11) ha47 rfl (by kernel_rfl) (by kernel_rfl) (by kernel_rfl) rfl rfl rfl (Stp.of_ext hs41 _) (fun w' hw' => op_slice_str_f (i := ((q10 : Int)).toNat) (by omega) ha47 rfl Try.underlying9 rfl rfl (by first | omega | (simp; omega))) ?_
   intro a48 ha48; clear ha47 a47
   refine dr_two (i := 3) (j := 5) (by kernel_rfl) ?_ ?_
   ·
    refine po_eff ha48 rfl rfl rfl rfl (op_buildSlice (s := shStr) (xs := [([48] : Str), ([35] : Str), ([46] : Str), ([47] : Str), ([32] : Str), ([97] : Str), ([45] : Str), ([10] : Str)]) (cs := [St (([48] : Str)), St (([35] : Str)), St (([46] : Str)), St (([47] : Str)), St (([32] : Str)), St (([97] : Str)), St (([45] : Str)), St (([10] : Str))]) (vs := [(0, St (([48] : Str))), (1, St (([35] : Str))), (2, St (([46] : Str))), (3, St (([47] : Str))), (4, St (([32] : Str))), (5, St (([97] : Str))), (6, St (([45] : Str))), (7, St (([10] : Str)))]) (S := fun _ => False) (le := w38.heap.size) ha48 rfl pos_shStr Try.underlying22 ti9 rfl rfl (by decide) (by kernel_rfl) ⟨mk_shStr (([48] : Str)) (by first | assumption | omega | (simp; done) | (simp; omega)), mk_shStr (([35] : Str)) (by first | assumption | omega | (simp; done) | (simp; omega)), mk_shStr (([46] : Str)) (by first | assumption | omega | (simp; done) | (simp; omega)), mk_shStr (([47] : Str)) (by first | assumption | omega | (simp; done) | (simp; omega)), mk_shStr (([32] : Str)) (by first | assumption | omega | (simp; done) | (simp; omega)), mk_shStr (([97] : Str)) (by first | assumption | omega | (simp; done) | (simp; omega)), mk_shStr (([45] : Str)) (by first | assumption | omega | (simp; done) | (simp; omega)), mk_shStr (([10] : Str)) (by first | assumption | omega | (simp; done) | (simp; omega)), rfl⟩ (fun _ h => h.elim)) ?_
    rintro v49 w50 ⟨ho51, he52, hob53⟩ a54 ha54; clear ha48 a48
    have hs55 := hs41.trans' he52
    have hx56 := hx40.trans' (Stp.of_ext he52 _)
    have hzhx56 := he52.size
    refine ⟨(Stp.of_ext hs55 _), ?_⟩
    refine dr_one (i := 5) (by kernel_rfl) ?_
    replace hS21 := hS21.ext hs55
    refine po_callS ha54 rfl rfl rfl rfl (op_call ha54 rfl cb81 rfl) (c_spec_l01Next _ g_s b_s (8 : Int) hS21) ?_
    rintro v57 w58 he59 ⟨hS60, ⟨q61, hq62, hq63, hq64, rfl⟩⟩ a65 ha65; clear ha54 a54
    have hx66 := hx56.trans' he59
    have hzhx66 := he59.size
    replace ho51 : Own shStr 9 w38.heap.size w38.heap.size w50.heap.size w58 v49 ([([48] : Str), ([35] : Str), ([46] : Str), ([47] : Str), ([32] : Str), ([97] : Str), ([45] : Str), ([10] : Str)]) := by first | exact ho51.stp he59 (by intro q hq; cases hq; omega) | exact ho51.stpF flat_shStr he59 (by intro q hq; cases hq; exact ho51.ne_box (by assumption) rfl)
    clear hS21
    have hSlhS60 := hS60.lt
    have hs67 := (Stp.of_ext hs55 (some g_s)).trans' he59
    refine ⟨hs67, ?_⟩
    obtain ⟨x68, hx68⟩ := get_ex (xs := [([48] : Str), ([35] : Str), ([46] : Str), ([47] : Str), ([32] : Str), ([97] : Str), ([45] : Str), ([10] : Str)]) (j := ((q61 : Int)).toNat) (by first | omega | (simp only [List.length_cons, List.length_nil]; omega))
    obtain ⟨p69, c70, hi71, hc72, hr73, hs74⟩ := Rds.at_ (ho51.rds pos_shStr) hx68
    obtain ⟨rfl, b75⟩ := inv_shStr hr73
    obtain ⟨_, _⟩ : _ ∧ _ := hs74
    have hdlx68 := el_len 1 (by rfl) hx68
    refine dr_val (i := 6) ha65 rfl (by kernel_rfl) (by kernel_rfl) (by kernel_rfl) rfl rfl rfl hs67 (fun w' hw' => op_indexAddr ha65 rfl Try.underlying22 ti9 rfl rfl (by omega) hi71) ?_
    intro a76 ha76; clear ha65 a65
    refine dr_one (i := 7) (by kernel_rfl) ?_
    refine po_to ha76 rfl rfl rfl rfl (op_loadH ha76 rfl Try.underlying9 rfl rfl hc72 rfl) ?_
    intro a77 ha77; clear ha76 a76
    refine ⟨hs67, ?_⟩
    refine dr_val (i := 8) ha77 rfl (by kernel_rfl) (by kernel_rfl) (by kernel_rfl) rfl rfl rfl hs67 (fun w' hw' => op_sadd ha77 rfl rfl rfl (by first | omega | (simp; omega))) ?_
    intro a78 ha78; clear ha77 a77
    refine dr_val (i := 12) ha78 rfl (by kernel_rfl) (by kernel_rfl) (by kernel_rfl) rfl rfl rfl hs67 (fun w' hw' => op_sadd ha78 rfl rfl rfl (by first | omega | (simp; omega))) ?_
    intro a79 ha79; clear ha78 a78
    refine dr_val (i := 13) ha79 rfl (by kernel_rfl) (by kernel_rfl) (by kernel_rfl) rfl rfl rfl hs67 (fun w' hw' => op_assign ha79 rfl rfl) ?_
    intro a80 ha80; clear ha79 a79
    refine dr_end (by kernel_rfl) ?_
    refine then_n ?_
    refine wp_ret ?_
    refine block_r ?_
    refine then_r ?_
    refine ret1 ha80 rfl rfl ?_
    clear ha80 a80
    refine ret_mkS hx66 ⟨hS60, ?_⟩
    refine ⟨(((t.take (((q10 : Int)).toNat)) ++ x68) ++ (t.drop (((q10 : Int)).toNat)) : Str), (by first | omega | (simp; omega)), ?_⟩
    exact (congrArg St (by rfl))
   ·
    replace hS21 := hS21.ext hs41
    refine po_callS ha48 rfl rfl rfl rfl (op_call ha48 rfl cb81 rfl) (c_spec_l01Next _ g_s b_s (8 : Int) hS21) ?_
    rintro v81 w82 he83 ⟨hS84, ⟨q85, hq86, hq87, hq88, rfl⟩⟩ a89 ha89; clear ha48 a48
    have hx90 := hx40.trans' he83
    have hzhx90 := he83.size
    clear hS21
    have hSlhS84 := hS84.lt
    have hs91 := (Stp.of_ext hs41 (some g_s)).trans' he83
    refine ⟨hs91, ?_⟩
    refine dr_one (i := 3) (by kernel_rfl) ?_
    refine po_eff ha89 rfl rfl rfl rfl (op_buildSlice (s := shStr) (xs := [([48] : Str), ([35] : Str), ([46] : Str), ([47] : Str), ([32] : Str), ([97] : Str), ([45] : Str), ([10] : Str)]) (cs := [St (([48] : Str)), St (([35] : Str)), St (([46] : Str)), St (([47] : Str)), St (([32] : Str)), St (([97] : Str)), St (([45] : Str)), St (([10] : Str))]) (vs := [(0, St (([48] : Str))), (1, St (([35] : Str))), (2, St (([46] : Str))), (3, St (([47] : Str))), (4, St (([32] : Str))), (5, St (([97] : Str))), (6, St (([45] : Str))), (7, St (([10] : Str)))]) (S := fun _ => False) (le := w82.heap.size) ha89 rfl pos_shStr Try.underlying22 ti9 rfl rfl (by decide) (by kernel_rfl) ⟨mk_shStr (([48] : Str)) (by first | assumption | omega | (simp; done) | (simp; omega)), mk_shStr (([35] : Str)) (by first | assumption | omega | (simp; done) | (simp; omega)), mk_shStr (([46] : Str)) (by first | assumption | omega | (simp; done) | (simp; omega)), mk_shStr (([47] : Str)) (by first | assumption | omega | (simp; done) | (simp; omega)), mk_shStr (([32] : Str)) (by first | assumption | omega | (simp; done) | (simp; omega)), mk_shStr (([97] : Str)) (by first | assumption | omega | (simp; done) | (simp; omega)), mk_shStr (([45] : Str)) (by first | assumption | omega | (simp; done) | (simp; omega)), mk_shStr (([10] : Str)) (by first | assumption | omega | (simp; done) | (simp; omega)), rfl⟩ (fun _ h => h.elim)) ?_
    rintro v92 w93 ⟨ho94, he95, hob96⟩ a97 ha97; clear ha89 a89
    have hs98 := hs91.trans' (Stp.of_ext he95 _)
    have hx99 := hx90.trans' (Stp.of_ext he95 _)
    have hzhx99 := he95.size
    replace hS84 := hS84.ext he95
    refine ⟨hs98, ?_⟩
    obtain ⟨x100, hx100⟩ := get_ex (xs := [([48] : Str), ([35] : Str), ([46] : Str), ([47] : Str), ([32] : Str), ([97] : Str), ([45] : Str), ([10] : Str)]) (j := ((q85 : Int)).toNat) (by first | omega | (simp only [List.length_cons, List.length_nil]; omega))
    obtain ⟨p101, c102, hi103, hc104, hr105, hs106⟩ := Rds.at_ (ho94.rds pos_shStr) hx100
    obtain ⟨rfl, b107⟩ := inv_shStr hr105
    obtain ⟨_, _⟩ : _ ∧ _ := hs106
    have hdlx100 := el_len 1 (by rfl) hx100
    refine dr_val (i := 6) ha97 rfl (by kernel_rfl) (by kernel_rfl) (by kernel_rfl) rfl rfl rfl hs98 (fun w' hw' => op_indexAddr ha97 rfl Try.underlying22 ti9 rfl rfl (by omega) hi103) ?_
    intro a108 ha108; clear ha97 a97
    refine dr_one (i := 7) (by kernel_rfl) ?_
    refine po_to ha108 rfl rfl rfl rfl (op_loadH ha108 rfl Try.underlying9 rfl rfl hc104 rfl) ?_
    intro a109 ha109; clear ha108 a108
    refine ⟨hs98, ?_⟩
    refine dr_val (i := 8) ha109 rfl (by kernel_rfl) (by kernel_rfl) (by kernel_rfl) rfl rfl rfl hs98 (fun w' hw' => op_sadd ha109 rfl rfl rfl (by first | omega | (simp; omega))) ?_
    intro a110 ha110; clear ha109 a109
    refine dr_val (i := 12) ha110 rfl (by kernel_rfl) (by kernel_rfl) (by kernel_rfl) rfl rfl rfl hs98 (fun w' hw' => op_sadd ha110 rfl rfl rfl (by first | omega | (simp; omega))) ?_
    intro a111 ha111; clear ha110 a110
    refine dr_val (i := 13) ha111 rfl (by kernel_rfl) (by kernel_rfl) (by kernel_rfl) rfl rfl rfl hs98 (fun w' hw' => op_assign ha111 rfl rfl) ?_
    intro a112 ha112; clear ha111 a111
    refine dr_end (by kernel_rfl) ?_
    refine then_n ?_
    refine wp_ret ?_
    refine block_r ?_
    refine then_r ?_
    refine ret1 ha112 rfl rfl ?_
    clear ha112 a112
    refine ret_mkS hx99 ⟨hS84, ?_⟩
    refine ⟨(((t.take (((q10 : Int)).toNat)) ++ x100) ++ (t.drop (((q10 : Int)).toNat)) : Str), (by first | omega | (simp; omega)), ?_⟩
    exact (congrArg St (by rfl))
  ·
   rw [decide_eq_false c37] at ha36
   refine cond_f ha36 rfl ?_
   refine wp_seq ?_
   refine wp_region_lit ?_
   refine wl_val ha36 rfl rfl rfl (op_eql ha36 rfl rfl rfl) ?_
   intro a113 ha113; clear ha36 a36
   refine wl_val ha113 rfl rfl rfl (op_assign ha113 rfl rfl) ?_
   intro a114 ha114; clear ha113 a113
   refine wpList_nil ?_
   refine then_n ?_
   by_cases c115 : (q22 : Int) = (2 : Int)
   ·
    rw [decide_eq_true c115] at ha114
    refine cond_t ha114 rfl ?_
    refine wp_seq ?_
    refine wp_region_lit ?_
    refine wl_val ha114 rfl rfl rfl (op_move ha114 rfl rfl) ?_
    intro a116 ha116; clear ha114 a114
    refine wl_val ha116 rfl rfl rfl (op_move ha116 rfl rfl) ?_
    intro a117 ha117; clear ha116 a116
    refine wl_val ha117 rfl rfl rfl (op_len_str ha117 rfl Try.underlying9 rfl) ?_
    intro a118 ha118; clear ha117 a117
    refine wl_val ha118 rfl rfl rfl (op_lss ha118 rfl rfl rfl) ?_
    intro a119 ha119; clear ha118 a118
    refine wpList_nil ?_
    refine then_n ?_
    by_cases c120 : (q10 : Int) < ((t.length : Nat) : Int)
    ·
     rw [decide_eq_true c120] at ha119
     refine cond_t ha119 rfl ?_
     refine wp_seq ?_
     refine dr_enter Ext follows_mixed ?_
     intro w121 he122
     have hx123 := hx27.trans' (Stp.of_ext he122 _)
     have hzhx123 := he122.size
     replace hS21 := hS21.ext he122
     have hs124 : Ext w121 w121 := Ext.rfl' _
     refine dr_val (i := 0) ha119 rfl (by kernel_rfl) (by kernel_rfl) (by kernel_rfl) rfl rfl rfl hs124 (fun w' hw' => op_move ha119 rfl rfl) ?_
     intro a125 ha125; clear ha119 a119
     refine dr_val (i := 1) ha125 rfl (by kernel_rfl) (by kernel_rfl) (by kernel_rfl) rfl rfl rfl hs124 (fun w' hw' => op_move ha125 rfl rfl) ?_
     intro a126 ha126; clear ha125 a125
     refine dr_val (i := 2) ha126 rfl (by kernel_rfl) (by kernel_rfl) (by kernel_rfl) rfl rfl rfl hs124 (fun w' hw' => op_slice_str_t (j := ((q10 : Int)).toNat) (by omega) ha126 rfl Try.underlying9 rfl rfl (by first | omega | (simp; omega))) ?_
     intro a127 ha127; clear ha126 a126
     refine dr_val (i := 3) ha127 rfl (by kernel_rfl) (by kernel_rfl) (by kernel_rfl) rfl rfl rfl hs124 (fun w' hw' => op_move ha127 rfl rfl) ?_
     intro a128 ha128; clear ha127 a127
     refine dr_val (i := 4) ha128 rfl (by kernel_rfl) (by kernel_rfl) (by kernel_rfl) rfl rfl rfl hs124 (fun w' hw' => op_move ha128 rfl rfl) ?_
     intro a129 ha129; clear ha128 a128
     refine dr_val (i := 5) ha129 rfl (by kernel_rfl) (by kernel_rfl) (by kernel_rfl) rfl rfl rfl hs124 (fun w' hw' => (op_add ha129 rfl rfl rfl).int (IntWalk.i64_in _ (by omega))) ?_
     intro a130 ha130; clear ha129 a129
     refine dr_val (i := 6) ha130 rfl (by kernel_rfl) (by kernel_rfl) (by kernel_rfl) rfl rfl rfl hs124 (fun w' hw' => op_slice_str_f (i := (((q10 : Int)).toNat + 1)) (by omega) ha130 rfl Try.underlying9 rfl rfl (by first | omega | (simp; omega))) ?_
     intro a131 ha131; clear ha130 a130
     refine dr_val (i := 7) ha131 rfl (by kernel_rfl) (by kernel_rfl) (by kernel_rfl) rfl rfl rfl hs124 (fun w' hw' => op_sadd ha131 rfl rfl rfl (by first | omega | (simp; omega))) ?_
     intro a132 ha132; clear ha131 a131
     refine dr_val (i := 8) ha132 rfl (by kernel_rfl) (by kernel_rfl) (by kernel_rfl) rfl rfl rfl hs124 (fun w' hw' => op_assign ha132 rfl rfl) ?_
     intro a133 ha133; clear ha132 a132
     refine dr_end (by kernel_rfl) ?_
     replace hS21 := hS21.ext hs124
     refine then_n ?_
     refine wp_ret ?_
     refine block_r ?_
     refine then_r ?_
     refine ret1 ha133 rfl rfl ?_
     clear ha133 a133
     refine ret_mkS hx123 ⟨hS21, ?_⟩
     refine ⟨((t.take (((q10 : Int)).toNat)) ++ (t.drop ((((q10 : Int)).toNat + 1))) : Str), (by first | omega | (simp; omega)), ?_⟩
     exact (congrArg St (by rfl))
    ·
     rw [decide_eq_false c120] at ha119
     refine cond_f ha119 rfl ?_
     refine wp_skip ?_
     refine block_n ?_
     refine then_n ?_
     refine wp_seq ?_
     refine wp_region_lit ?_
     refine wl_val ha119 rfl rfl rfl (op_move ha119 rfl rfl) ?_
     intro a134 ha134; clear ha119 a119
     refine wl_val ha134 rfl rfl rfl (op_assign ha134 rfl rfl) ?_
     intro a135 ha135; clear ha134 a134
     refine wpList_nil ?_
     refine then_n ?_
     refine wp_ret ?_
     refine ret1 ha135 rfl rfl ?_
     clear ha135 a135
     refine ret_mkS hx27 ⟨hS21, ?_⟩
     refine ⟨(t : Str), (by first | omega | (simp; omega)), ?_⟩
     exact (congrArg St (by rfl))
   ·
    rw [decide_eq_false c115] at ha114
    refine cond_f ha114 rfl ?_
    refine wp_skip ?_
    refine block_n ?_
    refine then_n ?_
    refine wp_seq ?_
    refine wp_region_lit ?_
    refine wl_val ha114 rfl rfl rfl (op_move ha114 rfl rfl) ?_
    intro a136 ha136; clear ha114 a114
    refine wl_val ha136 rfl rfl rfl (op_assign ha136 rfl rfl) ?_
    intro a137 ha137; clear ha136 a136
    refine wpList_nil ?_
    refine then_n ?_
    refine wp_ret ?_
    refine ret1 ha137 rfl rfl ?_
    clear ha137 a137
    refine ret_mkS hx27 ⟨hS21, ?_⟩
    refine ⟨(t : Str), (by first | omega | (simp; omega)), ?_⟩
    exact (congrArg St (by rfl))

set_option maxHeartbeats 4000000 in
theorem c_spec_DrawTableText (w0 : World) (v_code : Value) (code : List UInt8) {S_code : Nat → Prop} (h_code : Rds shU8 S_code w0 v_code code) :
  Calls Try.prog 56 #[v_code] w0 (Ret w0 (fun v w1 => ∃ (t : Tab), (fun v w1 => ∃ r0_0 r0_1 z0_1, v = .agg #[r0_0, r0_1] ∧ Own shStr 9 w0.heap.size w0.heap.size w1.heap.size w1 r0_0 ((t).1) ∧ Own shRowN 41 w0.heap.size w0.heap.size w1.heap.size w1 r0_1 z0_1 ∧ Nst shI64 2 (fun x : List Int => x) w0.heap.size w1.heap.size w1 z0_1 ∧ z0_1.map (·.1) = ((t).2)) v w1)) := by
 refine enter (N := 6) Try.func56 rfl rfl rfl ?_
 intro a0 ha0
 have hx0 := Ext.rfl' w0
 have hl_code := h_code.length_le
 refine wp_seq ?_
 refine wp_region_lit ?_
 refine wl_eff ha0 rfl rfl rfl (op_alloc' rfl ti28 rfl) ?_
 rintro _ w2 ⟨rfl, he3, hb4, hz5⟩ a6 ha6; clear ha0 a0
 have hx7 := hx0.trans' he3
 have hzhx7 := he3.size
 refine wpList_nil ?_
 refine then_n ?_
 refine wp_seq ?_
 refine wp_region_lit ?_
 refine wl_val ha6 rfl rfl rfl (op_move ha6 rfl rfl) ?_
 intro a8 ha8; clear ha6 a6
 refine wl_callR ha8 rfl rfl rfl (op_call ha8 rfl cb79 rfl) (c_spec_l01From _ v_code code (h_code.low pos_shU8 hx7 (Nat.le_refl _)) (by omega)) ?_
 rintro v9 w10 he11 ⟨g12, rfl, hg13, hS14⟩ a15 ha15; clear ha8 a8
 have hx16 := hx7.trans' he11
 have hzhx16 := he11.size
 replace hb4 := hb4.ext he11
 have hSlhS14 := hS14.lt
 refine wl_callS ha15 rfl rfl rfl (op_call ha15 rfl cb82 rfl) (c_spec_l31Draw _ g12 w0.heap.size hS14) ?_
 rintro v17 w18 he19 ⟨hS20, ⟨q21, hq22, hq23, hq24, hq25, ⟨u26, u28, z30, rfl, ho27, ho29, hN31, hE32⟩⟩⟩ a33 ha33; clear ha15 a15
 have hx34 := hx16.stp he19 (by intro q hq; cases hq; exact (by omega))
 have hzhx34 := he19.size
 replace hb4 := hb4.stp he19 (by intro q hq; cases hq; omega)
 clear hS14
 have hSlhS20 := hS20.lt
 have hlhE32 := absLen hE32
 refine wl_effS ha33 rfl rfl (op_storeAll' ha33 rfl ti28 rfl rfl hb4 rfl rfl (by intro u hu; have hu : u ∈ ([u26, u28] : List Value) := hu; simp only [List.mem_cons, List.mem_nil_iff, or_false] at hu; rcases hu with rfl | rfl <;> first | rfl | exact ho27.one | exact ho29.one) rfl) ?_
 rintro w35 ⟨hb37, hst36, hz38⟩
 have hx39 := hx34.stp hst36 (by intro q hq; cases hq; exact (by omega))
 have hzhx39 := hst36.size
 replace hS20 := hS20.stp hst36 (by intro q hq; cases hq; omega)
 replace ho27 := ho27.stp hst36 (by intro q hq; cases hq; omega)
 replace ho29 := ho29.stp hst36 (by intro q hq; cases hq; omega)
 replace hN31 := hN31.stp hst36 (by intro q hq; cases hq; omega)
 clear hb4
 refine wpList_nil ?_
 refine then_n ?_
 refine wp_ret ?_
 refine retc ha33 rfl rfl Try.underlying28 ti28 rfl hb37.cells ?_
 clear ha33 a33
 refine ret_mk hx39 ?_
 refine ⟨((((q21).1), ((q21).2)) : Tab), ?_⟩
 refine ⟨u26, u28, z30, (by rfl), ?_, ho29.fin (by omega) (by omega) (by omega), hN31.fin (by omega) (by omega), ?_⟩
 ·
  refine (ho27.fin (by omega) (by omega) (by omega)).cast ?_
  rfl
 ·
  exact hE32

set_option maxHeartbeats 4000000 in
theorem c_spec_DrawReadTable (w0 : World) (v_code : Value) (code : List UInt8) {S_code : Nat → Prop} (h_code : Rds shU8 S_code w0 v_code code) :
  Calls Try.prog 57 #[v_code] w0 (Ret w0 (fun v w1 => ∃ (d : Str), (d.length ≤ 4001) ∧ (fun v _ => v = St (d)) v w1)) := by
 refine enter (N := 18) Try.func57 rfl rfl rfl ?_
 intro a0 ha0
 have hx0 := Ext.rfl' w0
 have hl_code := h_code.length_le
 refine wp_seq ?_
 refine wp_region_lit ?_
 refine wl_val ha0 rfl rfl rfl (op_assign ha0 rfl rfl) ?_
 intro a1 ha1; clear ha0 a0
 refine wpList_nil ?_
 refine then_n ?_
 refine wp_seq ?_
 refine wp_region_lit ?_
 refine wl_val ha1 rfl rfl rfl (op_move ha1 rfl rfl) ?_
 intro a2 ha2; clear ha1 a1
 refine wl_callR ha2 rfl rfl rfl (op_call ha2 rfl cb79 rfl) (c_spec_l01From _ v_code code (h_code.low pos_shU8 hx0 (Nat.le_refl _)) (by omega)) ?_
 rintro v3 w4 he5 ⟨g6, rfl, hg7, hS8⟩ a9 ha9; clear ha2 a2
 have hx10 := hx0.trans' he5
 have hzhx10 := he5.size
 have hSlhS8 := hS8.lt
 refine wl_val ha9 rfl rfl rfl (op_assign ha9 rfl rfl) ?_
 intro a11 ha11; clear ha9 a9
 refine wpList_nil ?_
 refine then_n ?_
 refine wp_seq ?_
 refine wp_region_lit ?_
 refine wl_val ha11 rfl rfl rfl (op_move ha11 rfl rfl) ?_
 intro a12 ha12; clear ha11 a11
 refine wl_eff ha12 rfl rfl rfl (op_buildSlice (s := shStr) (xs := [([100, 97, 121] : Str), ([115, 97, 108, 101, 115] : Str), ([104, 111, 117, 114, 115] : Str)]) (cs := [St (([100, 97, 121] : Str)), St (([115, 97, 108, 101, 115] : Str)), St (([104, 111, 117, 114, 115] : Str))]) (vs := [(0, St (([100, 97, 121] : Str))), (1, St (([115, 97, 108, 101, 115] : Str))), (2, St (([104, 111, 117, 114, 115] : Str)))]) (S := fun _ => False) (le := w4.heap.size) ha12 rfl pos_shStr Try.underlying22 ti9 rfl rfl (by decide) (by kernel_rfl) ⟨mk_shStr (([100, 97, 121] : Str)) (by first | assumption | omega | (simp; done) | (simp; omega)), mk_shStr (([115, 97, 108, 101, 115] : Str)) (by first | assumption | omega | (simp; done) | (simp; omega)), mk_shStr (([104, 111, 117, 114, 115] : Str)) (by first | assumption | omega | (simp; done) | (simp; omega)), rfl⟩ (fun _ h => h.elim)) ?_
 rintro v13 w14 ⟨ho15, he16, hob17⟩ a18 ha18; clear ha12 a12
 have hx19 := hx10.trans' he16
 have hzhx19 := he16.size
 replace hS8 := hS8.ext he16
 refine wl_callS ha18 rfl rfl rfl (op_call ha18 rfl cb83 rfl) (c_spec_l31Good _ g6 w0.heap.size v13 ([([100, 97, 121] : Str), ([115, 97, 108, 101, 115] : Str), ([104, 111, 117, 114, 115] : Str)]) hS8 (ho15.rds pos_shStr) (by rintro ⟨_, _⟩; omega) (by first | assumption | omega | (simp; done) | (simp; omega)) (by first | assumption | omega | (simp; done) | (simp; omega))) ?_
 rintro v20 w21 he22 ⟨hS23, ⟨q24, hq25, hq26, hq27, hq28, hq29, ⟨u30, u32, z34, rfl, ho31, ho33, hN35, hE36⟩⟩⟩ a37 ha37; clear ha18 a18
 have hx38 := hx19.stp he22 (by intro q hq; cases hq; exact (by omega))
 have hzhx38 := he22.size
 replace ho15 : Own shStr 9 w4.heap.size w4.heap.size w14.heap.size w21 v13 ([([100, 97, 121] : Str), ([115, 97, 108, 101, 115] : Str), ([104, 111, 117, 114, 115] : Str)]) := by first | exact ho15.stp he22 (by intro q hq; cases hq; omega) | exact ho15.stpF flat_shStr he22 (by intro q hq; cases hq; exact ho15.ne_box (by assumption) rfl)
 clear hS8
 have hSlhS23 := hS23.lt
 have hlhE36 := absLen hE36
 try simp only [List.length_cons, List.length_nil] at hq26
 refine wl_callR ha37 rfl rfl rfl (op_call ha37 rfl cb88 rfl) (c_spec_l31Text _ u30 u32 ((q24)) (ho31.rds pos_shStr) ((rds_shRowN (ho33.fin (by omega) (by omega) (by omega)) hN35).cast hE36) (by exact drawn_tab rfl hq25 (by first | assumption | (simp; omega)) hq27 hq28 hq29)) ?_
 rintro v39 w40 he41 rfl a42 ha42; clear ha37 a37
 have hx43 := hx38.trans' he41
 have hzhx43 := he41.size
 replace ho15 := ho15.ext he41
 replace hS23 := hS23.ext he41
 replace ho31 := ho31.ext he41
 replace ho33 := ho33.ext he41
 replace hN35 := hN35.ext he41
 refine wl_val ha42 rfl rfl rfl (op_assign ha42 rfl rfl) ?_
 intro a44 ha44; clear ha42 a42
 refine wpList_nil ?_
 refine then_n ?_
 refine wp_seq ?_
 refine wp_seq ?_
 refine wp_region_lit ?_
 refine wl_val ha44 rfl rfl rfl (op_move ha44 rfl rfl) ?_
 intro a45 ha45; clear ha44 a44
 refine wl_callS ha45 rfl rfl rfl (op_call ha45 rfl cb81 rfl) (c_spec_l01Next _ g6 w0.heap.size (3 : Int) hS23) ?_
 rintro v46 w47 he48 ⟨hS49, ⟨q50, hq51, hq52, hq53, rfl⟩⟩ a54 ha54; clear ha45 a45
 have hx55 := hx43.stp he48 (by intro q hq; cases hq; exact (by omega))
 have hzhx55 := he48.size
 replace ho15 : Own shStr 9 w4.heap.size w4.heap.size w14.heap.size w47 v13 ([([100, 97, 121] : Str), ([115, 97, 108, 101, 115] : Str), ([104, 111, 117, 114, 115] : Str)]) := by first | exact ho15.stp he48 (by intro q hq; cases hq; omega) | exact ho15.stpF flat_shStr he48 (by intro q hq; cases hq; exact ho15.ne_box (by assumption) rfl)
 replace ho31 : Own shStr 9 w14.heap.size w14.heap.size w21.heap.size w47 u30 (((q24).1)) := by first | exact ho31.stp he48 (by intro q hq; cases hq; omega) | exact ho31.stpF flat_shStr he48 (by intro q hq; cases hq; exact ho31.ne_box (by assumption) rfl)
 replace ho33 : Own shRowN 41 w14.heap.size w14.heap.size w21.heap.size w47 u32 z34 := by first | exact ho33.stp he48 (by intro q hq; cases hq; omega) | exact ho33.stpF flat_shRowN he48 (by intro q hq; cases hq; exact ho33.ne_box (by assumption) rfl)
 replace hN35 : Nst shI64 2 (fun x : List Int => x) w14.heap.size w21.heap.size w47 z34 := by first | exact hN35.stp he48 (by intro q hq; cases hq; omega) | exact hN35.stpB flat_shI64 he48 (by assumption) rfl
 clear hS23
 have hSlhS49 := hS49.lt
 refine wl_val ha54 rfl rfl rfl (op_eql ha54 rfl rfl rfl) ?_
 intro a56 ha56; clear ha54 a54
 refine wpList_nil ?_
 refine then_n ?_
 by_cases c57 : (q50 : Int) = (0 : Int)
 ·
  rw [decide_eq_true c57] at ha56
  refine cond_t ha56 rfl ?_
  refine wp_seq ?_
  refine wp_region_lit ?_
  refine wl_val ha56 rfl rfl rfl (op_move ha56 rfl rfl) ?_
  intro a58 ha58; clear ha56 a56
  refine wl_val ha58 rfl rfl rfl (op_move ha58 rfl rfl) ?_
  intro a59 ha59; clear ha58 a58
  refine wl_callS ha59 rfl rfl rfl (op_call ha59 rfl cb97 rfl) (c_spec_l01Damage _ g6 w0.heap.size ((txS ((q24)))) hS49 (by have h9 := tx_len (drawn_tab rfl hq25 (by first | assumption | (simp; omega)) hq27 hq28 hq29); omega)) ?_
  rintro v60 w61 he62 ⟨hS63, ⟨q64, hq65, rfl⟩⟩ a66 ha66; clear ha59 a59
  have hx67 := hx55.stp he62 (by intro q hq; cases hq; exact (by omega))
  have hzhx67 := he62.size
  replace ho15 : Own shStr 9 w4.heap.size w4.heap.size w14.heap.size w61 v13 ([([100, 97, 121] : Str), ([115, 97, 108, 101, 115] : Str), ([104, 111, 117, 114, 115] : Str)]) := by first | exact ho15.stp he62 (by intro q hq; cases hq; omega) | exact ho15.stpF flat_shStr he62 (by intro q hq; cases hq; exact ho15.ne_box (by assumption) rfl)
  replace ho31 : Own shStr 9 w14.heap.size w14.heap.size w21.heap.size w61 u30 (((q24).1)) := by first | exact ho31.stp he62 (by intro q hq; cases hq; omega) | exact ho31.stpF flat_shStr he62 (by intro q hq; cases hq; exact ho31.ne_box (by assumption) rfl)
  replace ho33 : Own shRowN 41 w14.heap.size w14.heap.size w21.heap.size w61 u32 z34 := by first | exact ho33.stp he62 (by intro q hq; cases hq; omega) | exact ho33.stpF flat_shRowN he62 (by intro q hq; cases hq; exact ho33.ne_box (by assumption) rfl)
  replace hN35 : Nst shI64 2 (fun x : List Int => x) w14.heap.size w21.heap.size w61 z34 := by first | exact hN35.stp he62 (by intro q hq; cases hq; omega) | exact hN35.stpB flat_shI64 he62 (by assumption) rfl
  clear hS49
  have hSlhS63 := hS63.lt
  refine wl_val ha66 rfl rfl rfl (op_assign ha66 rfl rfl) ?_
  intro a68 ha68; clear ha66 a66
  refine wpList_nil ?_
  refine then_n ?_
  refine wp_ret ?_
  refine then_r ?_
  refine ret1 ha68 rfl rfl ?_
  clear ha68 a68
  refine ret_mk hx67 ?_
  refine ⟨((q64) : Str), (by have h9 := tx_len (drawn_tab rfl hq25 (by first | assumption | (simp; omega)) hq27 hq28 hq29); omega), ?_⟩
  exact (congrArg St (by rfl))
 ·
  rw [decide_eq_false c57] at ha56
  refine cond_f ha56 rfl ?_
  refine wp_skip ?_
  refine then_n ?_
  refine wp_seq ?_
  refine wp_region_lit ?_
  refine wl_val ha56 rfl rfl rfl (op_move ha56 rfl rfl) ?_
  intro a69 ha69; clear ha56 a56
  refine wl_val ha69 rfl rfl rfl (op_assign ha69 rfl rfl) ?_
  intro a70 ha70; clear ha69 a69
  refine wpList_nil ?_
  refine then_n ?_
  refine wp_ret ?_
  refine ret1 ha70 rfl rfl ?_
  clear ha70 a70
  refine ret_mk hx55 ?_
  refine ⟨((txS ((q24))) : Str), (by have h9 := tx_len (drawn_tab rfl hq25 (by first | assumption | (simp; omega)) hq27 hq28 hq29); omega), ?_⟩
  exact (congrArg St (by rfl))


end Go.Proofs.Ytjpldgicibnkcaa
