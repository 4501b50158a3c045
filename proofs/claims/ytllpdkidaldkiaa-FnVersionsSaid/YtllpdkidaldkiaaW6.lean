/- What is merged. -/
import Derived.Test.YtllpdkidaldkiaaW5
namespace Go.Proofs.Ytllpdkidaldkiaa
open Go Go.RowKit

set_option maxHeartbeats 4000000 in
theorem c_impl_merged (w0 : World) (v_list : Value) (list : List (Int × List (Str × Int))) {S_list : Nat → Prop} (ca : Int) (cb : Int) (h_list : Rds shVer S_list w0 v_list list) (g0 : veB list = true) (g1 : 0 ≤ ca) (g2 : ca < (list.length : Nat)) (g3 : 0 ≤ cb) (g4 : cb < (list.length : Nat)) :
  Calls Try.prog 61 #[v_list, .int .i64 ca, .int .i64 cb] w0 (Ret w0 (fun v w1 => ∃ r0 r1, v = .tuple #[r0, r1] ∧ Own shLine 83 w0.heap.size w0.heap.size w1.heap.size w1 r0 (mgLV list ca cb) ∧ Own shStr 9 w0.heap.size w0.heap.size w1.heap.size w1 r1 (mgCV list ca cb))) := by
 refine enter (N := 86) Try.func61 rfl rfl rfl ?_
 intro a0 ha0
 have hx0 := Ext.rfl' w0
 have hl_list := h_list.length_le
 have hlen := veB_len g0
 have hpk := par_ok g0
 have hcmb := cmV_bd hpk cb g1
 refine wp_seq ?_
 refine wp_region_lit ?_
 refine wl_val ha0 rfl rfl rfl (op_assign ha0 rfl rfl) ?_
 intro a1 ha1; clear ha0 a0
 refine wl_val ha1 rfl rfl rfl (op_assign ha1 rfl rfl) ?_
 intro a2 ha2; clear ha1 a1
 refine wpList_nil ?_
 refine then_n ?_
 refine wp_seq ?_
 refine dr_enter Ext follows_mixed ?_
 intro w3 he4
 have hx5 := hx0.trans' he4
 have hzhx5 := he4.size
 have hs6 : Ext w3 w3 := Ext.rfl' _
 refine dr_val (i := 0) ha2 rfl (by kernel_rfl) (by kernel_rfl) (by kernel_rfl) rfl rfl rfl hs6 (fun w' hw' => op_move ha2 rfl rfl) ?_
 intro a7 ha7; clear ha2 a2
 refine dr_val (i := 1) ha7 rfl (by kernel_rfl) (by kernel_rfl) (by kernel_rfl) rfl rfl rfl hs6 (fun w' hw' => op_move ha7 rfl rfl) ?_
 intro a8 ha8; clear ha7 a7
 obtain ⟨x9, hx9⟩ := get_ex (xs := list) (j := ca.toNat) (by omega)
 obtain ⟨p10, c11, hi12, hc13, hr14, hs15⟩ := Rds.at_ h_list hx9
 obtain ⟨v16, rfl, b17, b18⟩ := inv_shVer hr14
 have hlb18 := b18.length_le
 have hvex9 := veB_at g0 hx9
 have hlex9 := lnV_eq hx9
 have hlxx9 := shB_len hvex9.1
 have hshx9 := hvex9.1
 refine dr_val (i := 2) ha8 rfl (by kernel_rfl) (by kernel_rfl) (by kernel_rfl) rfl rfl rfl hs6 (fun w' hw' => op_indexAddr ha8 rfl Try.underlying27 ti56 rfl rfl (by omega) hi12) ?_
 intro a19 ha19; clear ha8 a8
 refine dr_val (i := 3) ha19 rfl (by kernel_rfl) (by kernel_rfl) (by kernel_rfl) rfl rfl rfl hs6 (fun w' hw' => op_fieldAddr (sz := 0) ha19 rfl Try.underlying56 rfl rfl ti34 rfl) ?_
 intro a20 ha20; clear ha19 a19
 refine dr_val (i := 4) ha20 rfl (by kernel_rfl) (by kernel_rfl) (by kernel_rfl) rfl rfl rfl hs6 (fun w' hw' => op_loadF (off := 1) ha20 rfl Try.underlying34 rfl rfl (hc13.ext (hx5.trans' hw')) rfl) ?_
 intro a21 ha21; clear ha20 a20
 refine dr_val (i := 5) ha21 rfl (by kernel_rfl) (by kernel_rfl) (by kernel_rfl) rfl rfl rfl hs6 (fun w' hw' => op_move ha21 rfl rfl) ?_
 intro a22 ha22; clear ha21 a21
 refine dr_val (i := 6) ha22 rfl (by kernel_rfl) (by kernel_rfl) (by kernel_rfl) rfl rfl rfl hs6 (fun w' hw' => op_move ha22 rfl rfl) ?_
 intro a23 ha23; clear ha22 a22
 obtain ⟨x24, hx24⟩ := get_ex (xs := list) (j := cb.toNat) (by omega)
 obtain ⟨p25, c26, hi27, hc28, hr29, hs30⟩ := Rds.at_ h_list hx24
 obtain ⟨v31, rfl, b32, b33⟩ := inv_shVer hr29
 have hlb33 := b33.length_le
 have hvex24 := veB_at g0 hx24
 have hlex24 := lnV_eq hx24
 have hlxx24 := shB_len hvex24.1
 have hshx24 := hvex24.1
 refine dr_val (i := 7) ha23 rfl (by kernel_rfl) (by kernel_rfl) (by kernel_rfl) rfl rfl rfl hs6 (fun w' hw' => op_indexAddr ha23 rfl Try.underlying27 ti56 rfl rfl (by omega) hi27) ?_
 intro a34 ha34; clear ha23 a23
 refine dr_val (i := 8) ha34 rfl (by kernel_rfl) (by kernel_rfl) (by kernel_rfl) rfl rfl rfl hs6 (fun w' hw' => op_fieldAddr (sz := 0) ha34 rfl Try.underlying56 rfl rfl ti34 rfl) ?_
 intro a35 ha35; clear ha34 a34
 refine dr_val (i := 9) ha35 rfl (by kernel_rfl) (by kernel_rfl) (by kernel_rfl) rfl rfl rfl hs6 (fun w' hw' => op_loadF (off := 1) ha35 rfl Try.underlying34 rfl rfl (hc28.ext (hx5.trans' hw')) rfl) ?_
 intro a36 ha36; clear ha35 a35
 refine dr_val (i := 10) ha36 rfl (by kernel_rfl) (by kernel_rfl) (by kernel_rfl) rfl rfl rfl hs6 (fun w' hw' => op_move ha36 rfl rfl) ?_
 intro a37 ha37; clear ha36 a36
 refine dr_val (i := 11) ha37 rfl (by kernel_rfl) (by kernel_rfl) (by kernel_rfl) rfl rfl rfl hs6 (fun w' hw' => op_move ha37 rfl rfl) ?_
 intro a38 ha38; clear ha37 a37
 refine dr_val (i := 12) ha38 rfl (by kernel_rfl) (by kernel_rfl) (by kernel_rfl) rfl rfl rfl hs6 (fun w' hw' => op_move ha38 rfl rfl) ?_
 intro a39 ha39; clear ha38 a38
 refine dr_val (i := 13) ha39 rfl (by kernel_rfl) (by kernel_rfl) (by kernel_rfl) rfl rfl rfl hs6 (fun w' hw' => op_move ha39 rfl rfl) ?_
 intro a40 ha40; clear ha39 a39
 refine dr_one (i := 14) (by kernel_rfl) ?_
 refine po_callR ha40 rfl rfl rfl rfl (op_call ha40 rfl cb81 rfl) (c_impl_commonVersion _ v_list list ca cb (h_list.ext pos_shVer (hx5.trans' hs6)) (by first | assumption | omega | (simp; done) | (simp; omega)) (by first | assumption | omega | (simp; done) | (simp; omega)) (by first | assumption | omega | (simp; done) | (simp; omega)) (by first | assumption | omega | (simp; done) | (simp; omega)) (by first | assumption | omega | (simp; done) | (simp; omega))) ?_
 rintro v41 w42 he43 rfl a44 ha44; clear ha40 a40
 have hs45 := hs6.trans' he43
 have hx46 := hx5.trans' he43
 have hzhx46 := he43.size
 refine ⟨hs45, ?_⟩
 obtain ⟨x47, hx47⟩ := get_ex (xs := list) (j := ((cmV list ca cb : Int)).toNat) (by omega)
 obtain ⟨p48, c49, hi50, hc51, hr52, hs53⟩ := Rds.at_ h_list hx47
 obtain ⟨v54, rfl, b55, b56⟩ := inv_shVer hr52
 have hlb56 := b56.length_le
 have hvex47 := veB_at g0 hx47
 have hlex47 := lnV_eq hx47
 have hlxx47 := shB_len hvex47.1
 have hshx47 := hvex47.1
 refine dr_val (i := 15) ha44 rfl (by kernel_rfl) (by kernel_rfl) (by kernel_rfl) rfl rfl rfl hs45 (fun w' hw' => op_indexAddr ha44 rfl Try.underlying27 ti56 rfl rfl (by omega) hi50) ?_
 intro a57 ha57; clear ha44 a44
 refine dr_val (i := 16) ha57 rfl (by kernel_rfl) (by kernel_rfl) (by kernel_rfl) rfl rfl rfl hs45 (fun w' hw' => op_fieldAddr (sz := 0) ha57 rfl Try.underlying56 rfl rfl ti34 rfl) ?_
 intro a58 ha58; clear ha57 a57
 refine dr_val (i := 17) ha58 rfl (by kernel_rfl) (by kernel_rfl) (by kernel_rfl) rfl rfl rfl hs45 (fun w' hw' => op_loadF (off := 1) ha58 rfl Try.underlying34 rfl rfl (hc51.ext (hx5.trans' hw')) rfl) ?_
 intro a59 ha59; clear ha58 a58
 refine dr_val (i := 18) ha59 rfl (by kernel_rfl) (by kernel_rfl) (by kernel_rfl) rfl rfl rfl hs45 (fun w' hw' => op_assign ha59 rfl rfl) ?_
 intro a60 ha60; clear ha59 a59
 refine dr_val (i := 19) ha60 rfl (by kernel_rfl) (by kernel_rfl) (by kernel_rfl) rfl rfl rfl hs45 (fun w' hw' => op_assign ha60 rfl rfl) ?_
 intro a61 ha61; clear ha60 a60
 refine dr_val (i := 20) ha61 rfl (by kernel_rfl) (by kernel_rfl) (by kernel_rfl) rfl rfl rfl hs45 (fun w' hw' => op_assign ha61 rfl rfl) ?_
 intro a62 ha62; clear ha61 a61
 refine dr_end (by kernel_rfl) ?_
 refine then_n ?_
 refine wp_seq ?_
 refine wp_region_lit ?_
 refine wl_val ha62 rfl rfl rfl (op_assign ha62 rfl rfl) ?_
 intro a63 ha63; clear ha62 a62
 refine wpList_nil ?_
 refine then_n ?_
 refine wp_seq ?_
 refine wp_region_lit ?_
 refine wl_val ha63 rfl rfl rfl (op_assign ha63 rfl rfl) ?_
 intro a64 ha64; clear ha63 a63
 refine wpList_nil ?_
 refine then_n ?_
 refine wp_seq ?_
 refine wp_seq ?_
 refine wp_region_lit ?_
 refine wl_val ha64 rfl rfl rfl (op_move ha64 rfl rfl) ?_
 intro a65 ha65; clear ha64 a64
 refine wl_val ha65 rfl rfl rfl (op_move ha65 rfl rfl) ?_
 intro a66 ha66; clear ha65 a65
 refine wl_val ha66 rfl rfl rfl (op_move ha66 rfl rfl) ?_
 intro a67 ha67; clear ha66 a66
 refine wl_eff ha67 rfl rfl rfl (op_buildSlice (s := shLnsN) (xs := [((x9.2 : List (Str × Int)), (v16 : Value)), ((x24.2 : List (Str × Int)), (v31 : Value)), ((x47.2 : List (Str × Int)), (v54 : Value))]) (cs := [v16, v31, v54]) (vs := [(0, v16), (1, v31), (2, v54)]) (S := fun _ => False) (le := w42.heap.size) ha67 rfl pos_shLnsN Try.underlying72 ti34 rfl rfl (by decide) ((fill_one (off := 0) b18.cells1 (by kernel_rfl) (by kernel_rfl)).trans ((fill_one (off := 1) b33.cells1 (by kernel_rfl) (by kernel_rfl)).trans ((fill_one (off := 2) b56.cells1 (by kernel_rfl) (by kernel_rfl)).trans (by kernel_rfl)))) ⟨mk_shLnsN (((x9.2 : List (Str × Int)), (v16 : Value))) b18.one, mk_shLnsN (((x24.2 : List (Str × Int)), (v31 : Value))) b33.one, mk_shLnsN (((x47.2 : List (Str × Int)), (v54 : Value))) b56.one, rfl⟩ (fun _ h => h.elim)) ?_
 rintro v68 w69 ⟨ho70, he71, hob72⟩ a73 ha73; clear ha67 a67
 have hx74 := hx46.trans' he71
 have hzhx74 := he71.size
 refine wl_callR ha73 rfl rfl rfl (op_call ha73 rfl cb55 rfl) (c_impl_allKeys _ v68 ((([((x9.2 : List (Str × Int)), (v16 : Value)), ((x24.2 : List (Str × Int)), (v31 : Value)), ((x47.2 : List (Str × Int)), (v54 : Value))]).map (·.1))) (rdsR_shLnsN (lo := w42.heap.size) (hi := w69.heap.size) (ho70.fin (by omega) (by omega) (by omega)) (by intro z hz; simp only [List.mem_cons, List.not_mem_nil, or_false] at hz; first | (rcases hz with rfl | rfl | rfl <;> assumption) | (rcases hz with rfl | rfl <;> assumption)) hx74) (by first | assumption | omega | (simp; done) | (simp; omega)) (by intro q hq; simp only [List.map_cons, List.map_nil, List.mem_cons, List.not_mem_nil, or_false] at hq; first | (rcases hq with rfl | rfl | rfl <;> assumption) | (rcases hq with rfl | rfl <;> assumption))) ?_
 rintro v75 w76 he77 ho78 a79 ha79; clear ha73 a73
 have hx80 := hx74.trans' he77
 have hzhx80 := he77.size
 replace ho70 := ho70.ext he77
 refine wl_val ha79 rfl rfl rfl (op_len_sl ha79 rfl Try.underlying24 rfl (ho78.rds pos_shStr)) ?_
 intro a81 ha81; clear ha79 a79
 refine wl_val ha81 rfl rfl rfl (op_move ha81 rfl rfl) ?_
 intro a82 ha82; clear ha81 a81
 refine wpList_nil ?_
 refine then_n ?_
 refine wp_block ?_
 refine loop_inv (X := Nat × Value × (List (Str × Int)) × Value × (List Str)) (fun (⟨i, v, acc, v2, ac2⟩ : Nat × Value × (List (Str × Int)) × Value × (List Str)) fr wl => Sl 86 fr [(8, v16), (9, v31), (10, v54), (11, v), (12, v2), (41, v75), (42, .int .i64 ((((allK ((([((x9.2 : List (Str × Int)), (v16 : Value)), ((x24.2 : List (Str × Int)), (v31 : Value)), ((x47.2 : List (Str × Int)), (v54 : Value))]).map (·.1))))).length : Nat) : Int)), (43, .int .i64 ((i : Nat) : Int))] ∧ Ext w0 wl ∧ Own shStr 9 w69.heap.size w69.heap.size w76.heap.size wl v75 ((allK ((([((x9.2 : List (Str × Int)), (v16 : Value)), ((x24.2 : List (Str × Int)), (v31 : Value)), ((x47.2 : List (Str × Int)), (v54 : Value))]).map (·.1))))) ∧ Own shLine 83 w76.heap.size w76.heap.size wl.heap.size wl v acc ∧ Own shStr 9 w76.heap.size w76.heap.size wl.heap.size wl v2 ac2 ∧ w76.heap.size ≤ wl.heap.size ∧ (∀ q, Value.ownBlock v2 = some q → Value.ownBlock v75 ≠ some q) ∧ (i ≤ (allK ((([((x9.2 : List (Str × Int)), (v16 : Value)), ((x24.2 : List (Str × Int)), (v31 : Value)), ((x47.2 : List (Str × Int)), (v54 : Value))]).map (·.1)))).length) ∧ ((allK ((([((x9.2 : List (Str × Int)), (v16 : Value)), ((x24.2 : List (Str × Int)), (v31 : Value)), ((x47.2 : List (Str × Int)), (v54 : Value))]).map (·.1)))) = mgKs list ca cb) ∧ ((allK ((([((x9.2 : List (Str × Int)), (v16 : Value)), ((x24.2 : List (Str × Int)), (v31 : Value)), ((x47.2 : List (Str × Int)), (v54 : Value))]).map (·.1)))).length ≤ 24) ∧ (acc.length ≤ i) ∧ (ac2.length ≤ i) ∧ (acc ++ mgL (lnV list ca) (lnV list cb) (lnV list (cmV list ca cb)) ((allK ((([((x9.2 : List (Str × Int)), (v16 : Value)), ((x24.2 : List (Str × Int)), (v31 : Value)), ((x47.2 : List (Str × Int)), (v54 : Value))]).map (·.1)))).drop i) = mgLV list ca cb) ∧ (ac2 ++ mgC (lnV list ca) (lnV list cb) (lnV list (cmV list ca cb)) ((allK ((([((x9.2 : List (Str × Int)), (v16 : Value)), ((x24.2 : List (Str × Int)), (v31 : Value)), ((x47.2 : List (Str × Int)), (v54 : Value))]).map (·.1)))).drop i) = mgCV list ca cb)) (fun (⟨i, v, acc, v2, ac2⟩ : Nat × Value × (List (Str × Int)) × Value × (List Str)) => (allK ((([((x9.2 : List (Str × Int)), (v16 : Value)), ((x24.2 : List (Str × Int)), (v31 : Value)), ((x47.2 : List (Str × Int)), (v54 : Value))]).map (·.1)))).length - i) (0, (.slice none 0 0), [], (.slice none 0 0), []) ?_ ?_
 ·
  exact ⟨(Sl.cons_ ha82 rfl rfl (Sl.cons_ ha82 rfl rfl (Sl.cons_ ha82 rfl rfl (Sl.cons_ ha82 rfl rfl (Sl.cons_ ha82 rfl rfl (Sl.cons_ ha82 rfl rfl (Sl.cons_ ha82 rfl rfl (Sl.cons_ ha82 rfl (int_eq (by omega)) (Sl.nil_ ha82))))))))), hx80, ho78, (Own.nil _ _ _ _ _ _), (Own.nil _ _ _ _ _ _), (by omega), (by intro q hq; cases hq), (by omega), (by unfold mgKs; rw [hlex9, hlex24, hlex47]; rfl), (by have h8 := mgKs_len g0 ca cb; unfold mgKs at h8; rw [hlex9, hlex24, hlex47] at h8; exact h8), (by exact Nat.zero_le _), (by exact Nat.zero_le _), (by unfold mgLV mgKs; rw [hlex9, hlex24, hlex47]; rfl), (by unfold mgCV mgKs; rw [hlex9, hlex24, hlex47]; rfl)⟩
 ·
  clear ha82 a82
  rintro ⟨i, v, acc, v2, ac2⟩ a89 w83 ⟨ha89, hx84, hf87, hf85, hf86, hzl90, hsp88, hi, hK, hK2, hl, hl2, hF, hG⟩
  have hzhx84 := hx84.size
  refine wp_seq ?_
  refine wp_region_lit ?_
  refine wl_val ha89 rfl rfl rfl (op_lss ha89 rfl rfl rfl) ?_
  intro a91 ha91; clear ha89 a89
  refine wpList_nil ?_
  refine then_n ?_
  refine wp_seq ?_
  by_cases c92 : ((i : Nat) : Int) < ((((allK ((([((x9.2 : List (Str × Int)), (v16 : Value)), ((x24.2 : List (Str × Int)), (v31 : Value)), ((x47.2 : List (Str × Int)), (v54 : Value))]).map (·.1))))).length : Nat) : Int)
  ·
   rw [decide_eq_true c92] at ha91
   refine cond_t ha91 rfl ?_
   refine wp_skip ?_
   refine then_n ?_
   refine wp_seq ?_
   refine wp_block ?_
   refine wp_seq ?_
   refine wp_region_lit ?_
   obtain ⟨x93, hx93⟩ := get_ex (xs := (allK ((([((x9.2 : List (Str × Int)), (v16 : Value)), ((x24.2 : List (Str × Int)), (v31 : Value)), ((x47.2 : List (Str × Int)), (v54 : Value))]).map (·.1))))) (j := i) (by omega)
   obtain ⟨p94, c95, hi96, hc97, hr98, hs99⟩ := Rds.at_ (hf87.rds pos_shStr) hx93
   obtain ⟨rfl, b100⟩ := inv_shStr hr98
   obtain ⟨_, _⟩ : _ ∧ _ := hs99
   refine wl_val ha91 rfl rfl rfl (op_indexAddr ha91 rfl Try.underlying24 ti9 rfl rfl (by omega) hi96) ?_
   intro a101 ha101; clear ha91 a91
   refine wl_val ha101 rfl rfl rfl (op_loadH ha101 rfl Try.underlying9 rfl rfl hc97 rfl) ?_
   intro a102 ha102; clear ha101 a101
   refine wl_val ha102 rfl rfl rfl (op_assign ha102 rfl rfl) ?_
   intro a103 ha103; clear ha102 a102
   refine wpList_nil ?_
   refine then_n ?_
   refine wp_seq ?_
   refine wp_region_lit ?_
   refine wl_val ha103 rfl rfl rfl (op_move ha103 rfl rfl) ?_
   intro a104 ha104; clear ha103 a103
   refine wl_val ha104 rfl rfl rfl (op_move ha104 rfl rfl) ?_
   intro a105 ha105; clear ha104 a104
   refine wl_callR ha105 rfl rfl rfl (op_call ha105 rfl cb56 rfl) (c_impl_valueOf _ v16 x9.2 x93 (b18.ext pos_shLine hx84)) ?_
   rintro v106 w107 he108 rfl a109 ha109; clear ha105 a105
   have hx110 := hx84.trans' he108
   have hzhx110 := he108.size
   replace hf87 := hf87.ext he108
   replace hf85 := hf85.ext he108
   replace hf86 := hf86.ext he108
   replace hc97 := hc97.ext he108
   refine wl_val ha109 rfl rfl rfl (op_move ha109 rfl rfl) ?_
   intro a111 ha111; clear ha109 a109
   refine wl_val ha111 rfl rfl rfl (op_move ha111 rfl rfl) ?_
   intro a112 ha112; clear ha111 a111
   refine wl_callR ha112 rfl rfl rfl (op_call ha112 rfl cb56 rfl) (c_impl_valueOf _ v31 x24.2 x93 (b33.ext pos_shLine hx110)) ?_
   rintro v113 w114 he115 rfl a116 ha116; clear ha112 a112
   have hx117 := hx110.trans' he115
   have hzhx117 := he115.size
   replace hf87 := hf87.ext he115
   replace hf85 := hf85.ext he115
   replace hf86 := hf86.ext he115
   replace hc97 := hc97.ext he115
   refine wl_val ha116 rfl rfl rfl (op_move ha116 rfl rfl) ?_
   intro a118 ha118; clear ha116 a116
   refine wl_val ha118 rfl rfl rfl (op_move ha118 rfl rfl) ?_
   intro a119 ha119; clear ha118 a118
   refine wl_callR ha119 rfl rfl rfl (op_call ha119 rfl cb56 rfl) (c_impl_valueOf _ v54 x47.2 x93 (b56.ext pos_shLine hx117)) ?_
   rintro v120 w121 he122 rfl a123 ha123; clear ha119 a119
   have hx124 := hx117.trans' he122
   have hzhx124 := he122.size
   replace hf87 := hf87.ext he122
   replace hf85 := hf85.ext he122
   replace hf86 := hf86.ext he122
   replace hc97 := hc97.ext he122
   refine wl_val ha123 rfl rfl rfl (op_assign ha123 rfl rfl) ?_
   intro a125 ha125; clear ha123 a123
   refine wl_val ha125 rfl rfl rfl (op_assign ha125 rfl rfl) ?_
   intro a126 ha126; clear ha125 a125
   refine wl_val ha126 rfl rfl rfl (op_assign ha126 rfl rfl) ?_
   intro a127 ha127; clear ha126 a126
   refine wpList_nil ?_
   refine then_n ?_
   refine wp_seq ?_
   refine wp_region_lit ?_
   refine wl_val ha127 rfl rfl rfl (op_move ha127 rfl rfl) ?_
   intro a128 ha128; clear ha127 a127
   refine wl_val ha128 rfl rfl rfl (op_assign ha128 rfl rfl) ?_
   intro a129 ha129; clear ha128 a128
   refine wpList_nil ?_
   refine then_n ?_
   refine wp_seq ?_
   refine wp_block ?_
   refine wp_seq ?_
   refine wp_region_lit ?_
   refine wl_val ha129 rfl rfl rfl (op_move ha129 rfl rfl) ?_
   intro a130 ha130; clear ha129 a129
   refine wl_val ha130 rfl rfl rfl (op_move ha130 rfl rfl) ?_
   intro a131 ha131; clear ha130 a130
   refine wl_val ha131 rfl rfl rfl (op_eql ha131 rfl rfl rfl) ?_
   intro a132 ha132; clear ha131 a131
   refine wl_val ha132 rfl rfl rfl (op_move ha132 rfl rfl) ?_
   intro a133 ha133; clear ha132 a132
   by_cases c134 : (valV x93 x9.2 : Int) = (valV x93 x24.2 : Int)
   ·
    rw [decide_eq_true c134] at ha133
    refine wl_skip ha133 rfl rfl rfl ?_
    intro a135 ha135; clear ha133 a133
    refine wl_skip ha135 rfl rfl rfl ?_
    intro a136 ha136; clear ha135 a135
    refine wl_skip ha136 rfl rfl rfl ?_
    intro a137 ha137; clear ha136 a136
    refine wl_val ha137 rfl rfl rfl (op_pick_t ha137 rfl rfl rfl) ?_
    intro a138 ha138; clear ha137 a137
    refine wl_val ha138 rfl rfl rfl (op_assign ha138 rfl rfl) ?_
    intro a139 ha139; clear ha138 a138
    refine wpList_nil ?_
    refine then_n ?_
    refine cond_t ha139 rfl ?_
    refine wp_skip ?_
    refine block_n ?_
    refine then_n ?_
    refine wp_seq ?_
    refine wp_region_lit ?_
    refine wl_val ha139 rfl rfl rfl (op_move ha139 rfl rfl) ?_
    intro a140 ha140; clear ha139 a139
    refine wl_val ha140 rfl rfl rfl ((op_neq ha140 rfl rfl rfl).to (congrArg Value.bool decide_not)) ?_
    intro a141 ha141; clear ha140 a140
    refine wpList_nil ?_
    refine then_n ?_
    by_cases c142 : (valV x93 x9.2 : Int) = (-1 : Int)
    ·
     rw [decide_eq_true c142] at ha141
     refine cond_f ha141 rfl ?_
     refine wp_skip ?_
     refine block_n ?_
     refine then_n ?_
     refine wp_region_lit ?_
     refine wl_val ha141 rfl rfl rfl ((op_add ha141 rfl rfl rfl).int (IntWalk.i64_in _ (by omega))) ?_
     intro a143 ha143; clear ha141 a141
     refine wl_val ha143 rfl rfl rfl (op_move ha143 rfl rfl) ?_
     intro a144 ha144; clear ha143 a143
     refine wpList_nil ?_
     refine round_end (x := (i, v, acc, v2, ac2)) ((i + 1), v, acc, v2, ac2) ?_ ?_
     ·
      refine ⟨(Sl.cons_ ha144 rfl rfl (Sl.cons_ ha144 rfl rfl (Sl.cons_ ha144 rfl rfl (Sl.cons_ ha144 rfl rfl (Sl.cons_ ha144 rfl rfl (Sl.cons_ ha144 rfl rfl (Sl.cons_ ha144 rfl rfl (Sl.cons_ ha144 rfl (int_eq (by omega)) (Sl.nil_ ha144))))))))), hx124, hf87, (hf85.fin (by omega) (by omega) (by omega)), (hf86.fin (by omega) (by omega) (by omega)), (by omega), (by intro q hq; first | (intro hb; have hq0 := hf86.lt q hq; have hq1 := hf87.lt q hb; omega) | exact hsp88 q hq), (by omega), (by exact hK), (by exact hK2), (by first | omega | (simp; omega)), (by first | omega | (simp; omega)), (by rw [hlex9, hlex24, hlex47] at hF; have hc : mgc (valV x93 x9.2) (valV x93 x24.2) (valV x93 x47.2) = false := (by simp [mgc, c134]); have hv : mgv (valV x93 x9.2) (valV x93 x24.2) (valV x93 x47.2) = (valV x93 x9.2) := (by simp [mgv, c134]); rw [drop_cons hx93, mgL, if_neg (by rw [hc]; decide), if_pos (hv.trans c142)] at hF; rw [hlex9, hlex24, hlex47]; exact hF), (by rw [hlex9, hlex24, hlex47] at hG; have hc : mgc (valV x93 x9.2) (valV x93 x24.2) (valV x93 x47.2) = false := (by simp [mgc, c134]); have hv : mgv (valV x93 x9.2) (valV x93 x24.2) (valV x93 x47.2) = (valV x93 x9.2) := (by simp [mgv, c134]); rw [drop_cons hx93, mgC, if_neg (by rw [hc]; decide)] at hG; rw [hlex9, hlex24, hlex47]; exact hG)⟩
     ·show ((allK ((([((x9.2 : List (Str × Int)), (v16 : Value)), ((x24.2 : List (Str × Int)), (v31 : Value)), ((x47.2 : List (Str × Int)), (v54 : Value))]).map (·.1)))).length - ((i + 1)) : Nat) < (allK ((([((x9.2 : List (Str × Int)), (v16 : Value)), ((x24.2 : List (Str × Int)), (v31 : Value)), ((x47.2 : List (Str × Int)), (v54 : Value))]).map (·.1)))).length - i; omega
    ·
     rw [decide_eq_false c142] at ha141
     refine cond_t ha141 rfl ?_
     refine wp_region_lit ?_
     refine wl_val ha141 rfl rfl rfl (op_move ha141 rfl rfl) ?_
     intro a145 ha145; clear ha141 a141
     refine wl_val ha145 rfl rfl rfl (op_move ha145 rfl rfl) ?_
     intro a146 ha146; clear ha145 a145
     refine wl_val ha146 rfl rfl rfl (op_move ha146 rfl rfl) ?_
     intro a147 ha147; clear ha146 a146
     refine wl_val ha147 rfl rfl rfl (op_build (vs := [(0, St x93), (1, .int .i64 (valV x93 x9.2 : Int))]) (cs := #[St x93, .int .i64 (valV x93 x9.2 : Int)]) ha147 rfl Try.underlying83 ti83 bp83 rfl rfl) ?_
     intro a148 ha148; clear ha147 a147
     refine wl_eff ha148 rfl rfl rfl (op_buildSlice (s := shLine) (xs := [(x93, (valV x93 x9.2 : Int))]) (cs := [St x93, .int .i64 (valV x93 x9.2 : Int)]) (vs := [(0, .agg #[St x93, .int .i64 (valV x93 x9.2 : Int)])]) (S := fun _ => False) (le := w121.heap.size) ha148 rfl pos_shLine Try.underlying34 ti83 rfl rfl (by decide) (by kernel_rfl) (Els.single (mk_shLine ((x93, (valV x93 x9.2 : Int))) (by first | assumption | omega | exact valI (by assumption) | (simp; done)) (by first | assumption | omega | exact valI (by assumption) | (simp; done)))) (fun _ h => h.elim)) ?_
     rintro v149 w150 ⟨ho151, he152, hob153⟩ a154 ha154; clear ha148 a148
     have hx155 := hx124.trans' he152
     have hzhx155 := he152.size
     replace hf87 := hf87.ext he152
     replace hf85 := hf85.ext he152
     replace hf86 := hf86.ext he152
     replace hc97 := hc97.ext he152
     refine wl_eff ha154 rfl rfl rfl (op_append (ts := #[]) (s := shLine) ha154 rfl Try.underlying34 ti83 rfl pos_shLine rfl rfl hf85 (ho151.rds pos_shLine) (by omega) (by omega) (by first | omega | (simp; omega)) (by first | omega | (simp; omega)) (.inl flat_shLine)) ?_
     rintro v156 w157 ⟨ho158, hst159, hob160⟩ a161 ha161; clear ha154 a154
     have hx162 := hx155.stp hst159 (by intro q hq; have hq0 := hf85.lt q hq; omega)
     have hzhx162 := hst159.size
     replace hf87 := hf87.stp hst159 (by intro q hq; have hq0 := hf85.lt q hq; omega)
     first | replace hf86 := hf86.stp hst159 (by intro q hq; have hq0 := hf85.lt q hq; omega) | replace hf86 := hf86.stpF flat_shStr hst159 (hf86.ne hf85 rfl)
     replace ho151 := ho151.stp hst159 (by intro q hq; have hq0 := hf85.lt q hq; omega)
     have hsp163 : ∀ q, Value.ownBlock v156 = some q → Value.ownBlock v149 ≠ some q := by intro q hq hb; have hq0 := ho151.lt q hb; rcases hob160 with h | h; (rw [h] at hq; first | (have hq1 := hf85.lt q hq; omega)); (rw [h] at hq; cases hq; omega)
     refine wl_val ha161 rfl rfl rfl (op_assign ha161 rfl rfl) ?_
     intro a164 ha164; clear ha161 a161
     refine wpList_nil ?_
     refine block_n ?_
     refine then_n ?_
     refine wp_region_lit ?_
     refine wl_val ha164 rfl rfl rfl ((op_add ha164 rfl rfl rfl).int (IntWalk.i64_in _ (by omega))) ?_
     intro a165 ha165; clear ha164 a164
     refine wl_val ha165 rfl rfl rfl (op_move ha165 rfl rfl) ?_
     intro a166 ha166; clear ha165 a165
     refine wpList_nil ?_
     refine round_end (x := (i, v, acc, v2, ac2)) ((i + 1), v156, (acc ++ [(x93, (valV x93 x9.2 : Int))]), v2, ac2) ?_ ?_
     ·
      refine ⟨(Sl.cons_ ha166 rfl rfl (Sl.cons_ ha166 rfl rfl (Sl.cons_ ha166 rfl rfl (Sl.cons_ ha166 rfl rfl (Sl.cons_ ha166 rfl rfl (Sl.cons_ ha166 rfl rfl (Sl.cons_ ha166 rfl rfl (Sl.cons_ ha166 rfl (int_eq (by omega)) (Sl.nil_ ha166))))))))), hx162, hf87, (ho158.fin (by omega) (by omega) (by omega)), (hf86.fin (by omega) (by omega) (by omega)), (by omega), (by intro q hq; first | (intro hb; have hq0 := hf86.lt q hq; have hq1 := hf87.lt q hb; omega) | exact hsp88 q hq), (by omega), (by exact hK), (by exact hK2), (by first | omega | (simp; omega)), (by first | omega | (simp; omega)), (by rw [hlex9, hlex24, hlex47] at hF; have hc : mgc (valV x93 x9.2) (valV x93 x24.2) (valV x93 x47.2) = false := (by simp [mgc, c134]); have hv : mgv (valV x93 x9.2) (valV x93 x24.2) (valV x93 x47.2) = (valV x93 x9.2) := (by simp [mgv, c134]); rw [drop_cons hx93, mgL, if_neg (by rw [hc]; decide), if_neg (fun e => c142 (hv.symm.trans e)), hv] at hF; rw [hlex9, hlex24, hlex47, List.append_assoc]; exact hF), (by rw [hlex9, hlex24, hlex47] at hG; have hc : mgc (valV x93 x9.2) (valV x93 x24.2) (valV x93 x47.2) = false := (by simp [mgc, c134]); have hv : mgv (valV x93 x9.2) (valV x93 x24.2) (valV x93 x47.2) = (valV x93 x9.2) := (by simp [mgv, c134]); rw [drop_cons hx93, mgC, if_neg (by rw [hc]; decide)] at hG; rw [hlex9, hlex24, hlex47]; exact hG)⟩
     ·show ((allK ((([((x9.2 : List (Str × Int)), (v16 : Value)), ((x24.2 : List (Str × Int)), (v31 : Value)), ((x47.2 : List (Str × Int)), (v54 : Value))]).map (·.1)))).length - ((i + 1)) : Nat) < (allK ((([((x9.2 : List (Str × Int)), (v16 : Value)), ((x24.2 : List (Str × Int)), (v31 : Value)), ((x47.2 : List (Str × Int)), (v54 : Value))]).map (·.1)))).length - i; omega
   ·
    rw [decide_eq_false c134] at ha133
    refine wl_val ha133 rfl rfl rfl (op_move ha133 rfl rfl) ?_
    intro a167 ha167; clear ha133 a133
    refine wl_val ha167 rfl rfl rfl (op_move ha167 rfl rfl) ?_
    intro a168 ha168; clear ha167 a167
    refine wl_val ha168 rfl rfl rfl (op_eql ha168 rfl rfl rfl) ?_
    intro a169 ha169; clear ha168 a168
    refine wl_val ha169 rfl rfl rfl (op_pick_f ha169 rfl rfl rfl) ?_
    intro a170 ha170; clear ha169 a169
    refine wl_val ha170 rfl rfl rfl (op_assign ha170 rfl rfl) ?_
    intro a171 ha171; clear ha170 a170
    refine wpList_nil ?_
    refine then_n ?_
    by_cases c172 : (valV x93 x24.2 : Int) = (valV x93 x47.2 : Int)
    ·
     rw [decide_eq_true c172] at ha171
     refine cond_t ha171 rfl ?_
     refine wp_skip ?_
     refine block_n ?_
     refine then_n ?_
     refine wp_seq ?_
     refine wp_region_lit ?_
     refine wl_val ha171 rfl rfl rfl (op_move ha171 rfl rfl) ?_
     intro a173 ha173; clear ha171 a171
     refine wl_val ha173 rfl rfl rfl ((op_neq ha173 rfl rfl rfl).to (congrArg Value.bool decide_not)) ?_
     intro a174 ha174; clear ha173 a173
     refine wpList_nil ?_
     refine then_n ?_
     by_cases c175 : (valV x93 x9.2 : Int) = (-1 : Int)
     ·
      rw [decide_eq_true c175] at ha174
      refine cond_f ha174 rfl ?_
      refine wp_skip ?_
      refine block_n ?_
      refine then_n ?_
      refine wp_region_lit ?_
      refine wl_val ha174 rfl rfl rfl ((op_add ha174 rfl rfl rfl).int (IntWalk.i64_in _ (by omega))) ?_
      intro a176 ha176; clear ha174 a174
      refine wl_val ha176 rfl rfl rfl (op_move ha176 rfl rfl) ?_
      intro a177 ha177; clear ha176 a176
      refine wpList_nil ?_
      refine round_end (x := (i, v, acc, v2, ac2)) ((i + 1), v, acc, v2, ac2) ?_ ?_
      ·
       refine ⟨(Sl.cons_ ha177 rfl rfl (Sl.cons_ ha177 rfl rfl (Sl.cons_ ha177 rfl rfl (Sl.cons_ ha177 rfl rfl (Sl.cons_ ha177 rfl rfl (Sl.cons_ ha177 rfl rfl (Sl.cons_ ha177 rfl rfl (Sl.cons_ ha177 rfl (int_eq (by omega)) (Sl.nil_ ha177))))))))), hx124, hf87, (hf85.fin (by omega) (by omega) (by omega)), (hf86.fin (by omega) (by omega) (by omega)), (by omega), (by intro q hq; first | (intro hb; have hq0 := hf86.lt q hq; have hq1 := hf87.lt q hb; omega) | exact hsp88 q hq), (by omega), (by exact hK), (by exact hK2), (by first | omega | (simp; omega)), (by first | omega | (simp; omega)), (by rw [hlex9, hlex24, hlex47] at hF; have hc : mgc (valV x93 x9.2) (valV x93 x24.2) (valV x93 x47.2) = false := (by simp [mgc, c134, c172]); have hv : mgv (valV x93 x9.2) (valV x93 x24.2) (valV x93 x47.2) = (valV x93 x9.2) := (by simp [mgv, c134, c172]); rw [drop_cons hx93, mgL, if_neg (by rw [hc]; decide), if_pos (hv.trans c175)] at hF; rw [hlex9, hlex24, hlex47]; exact hF), (by rw [hlex9, hlex24, hlex47] at hG; have hc : mgc (valV x93 x9.2) (valV x93 x24.2) (valV x93 x47.2) = false := (by simp [mgc, c134, c172]); have hv : mgv (valV x93 x9.2) (valV x93 x24.2) (valV x93 x47.2) = (valV x93 x9.2) := (by simp [mgv, c134, c172]); rw [drop_cons hx93, mgC, if_neg (by rw [hc]; decide)] at hG; rw [hlex9, hlex24, hlex47]; exact hG)⟩
      ·show ((allK ((([((x9.2 : List (Str × Int)), (v16 : Value)), ((x24.2 : List (Str × Int)), (v31 : Value)), ((x47.2 : List (Str × Int)), (v54 : Value))]).map (·.1)))).length - ((i + 1)) : Nat) < (allK ((([((x9.2 : List (Str × Int)), (v16 : Value)), ((x24.2 : List (Str × Int)), (v31 : Value)), ((x47.2 : List (Str × Int)), (v54 : Value))]).map (·.1)))).length - i; omega
     ·
      rw [decide_eq_false c175] at ha174
      refine cond_t ha174 rfl ?_
      refine wp_region_lit ?_
      refine wl_val ha174 rfl rfl rfl (op_move ha174 rfl rfl) ?_
      intro a178 ha178; clear ha174 a174
      refine wl_val ha178 rfl rfl rfl (op_move ha178 rfl rfl) ?_
      intro a179 ha179; clear ha178 a178
      refine wl_val ha179 rfl rfl rfl (op_move ha179 rfl rfl) ?_
      intro a180 ha180; clear ha179 a179
      refine wl_val ha180 rfl rfl rfl (op_build (vs := [(0, St x93), (1, .int .i64 (valV x93 x9.2 : Int))]) (cs := #[St x93, .int .i64 (valV x93 x9.2 : Int)]) ha180 rfl Try.underlying83 ti83 bp83 rfl rfl) ?_
      intro a181 ha181; clear ha180 a180
      refine wl_eff ha181 rfl rfl rfl (op_buildSlice (s := shLine) (xs := [(x93, (valV x93 x9.2 : Int))]) (cs := [St x93, .int .i64 (valV x93 x9.2 : Int)]) (vs := [(0, .agg #[St x93, .int .i64 (valV x93 x9.2 : Int)])]) (S := fun _ => False) (le := w121.heap.size) ha181 rfl pos_shLine Try.underlying34 ti83 rfl rfl (by decide) (by kernel_rfl) (Els.single (mk_shLine ((x93, (valV x93 x9.2 : Int))) (by first | assumption | omega | exact valI (by assumption) | (simp; done)) (by first | assumption | omega | exact valI (by assumption) | (simp; done)))) (fun _ h => h.elim)) ?_
      rintro v182 w183 ⟨ho184, he185, hob186⟩ a187 ha187; clear ha181 a181
      have hx188 := hx124.trans' he185
      have hzhx188 := he185.size
      replace hf87 := hf87.ext he185
      replace hf85 := hf85.ext he185
      replace hf86 := hf86.ext he185
      replace hc97 := hc97.ext he185
      refine wl_eff ha187 rfl rfl rfl (op_append (ts := #[]) (s := shLine) ha187 rfl Try.underlying34 ti83 rfl pos_shLine rfl rfl hf85 (ho184.rds pos_shLine) (by omega) (by omega) (by first | omega | (simp; omega)) (by first | omega | (simp; omega)) (.inl flat_shLine)) ?_
      rintro v189 w190 ⟨ho191, hst192, hob193⟩ a194 ha194; clear ha187 a187
      have hx195 := hx188.stp hst192 (by intro q hq; have hq0 := hf85.lt q hq; omega)
      have hzhx195 := hst192.size
      replace hf87 := hf87.stp hst192 (by intro q hq; have hq0 := hf85.lt q hq; omega)
      first | replace hf86 := hf86.stp hst192 (by intro q hq; have hq0 := hf85.lt q hq; omega) | replace hf86 := hf86.stpF flat_shStr hst192 (hf86.ne hf85 rfl)
      replace ho184 := ho184.stp hst192 (by intro q hq; have hq0 := hf85.lt q hq; omega)
      have hsp196 : ∀ q, Value.ownBlock v189 = some q → Value.ownBlock v182 ≠ some q := by intro q hq hb; have hq0 := ho184.lt q hb; rcases hob193 with h | h; (rw [h] at hq; first | (have hq1 := hf85.lt q hq; omega)); (rw [h] at hq; cases hq; omega)
      refine wl_val ha194 rfl rfl rfl (op_assign ha194 rfl rfl) ?_
      intro a197 ha197; clear ha194 a194
      refine wpList_nil ?_
      refine block_n ?_
      refine then_n ?_
      refine wp_region_lit ?_
      refine wl_val ha197 rfl rfl rfl ((op_add ha197 rfl rfl rfl).int (IntWalk.i64_in _ (by omega))) ?_
      intro a198 ha198; clear ha197 a197
      refine wl_val ha198 rfl rfl rfl (op_move ha198 rfl rfl) ?_
      intro a199 ha199; clear ha198 a198
      refine wpList_nil ?_
      refine round_end (x := (i, v, acc, v2, ac2)) ((i + 1), v189, (acc ++ [(x93, (valV x93 x9.2 : Int))]), v2, ac2) ?_ ?_
      ·
       refine ⟨(Sl.cons_ ha199 rfl rfl (Sl.cons_ ha199 rfl rfl (Sl.cons_ ha199 rfl rfl (Sl.cons_ ha199 rfl rfl (Sl.cons_ ha199 rfl rfl (Sl.cons_ ha199 rfl rfl (Sl.cons_ ha199 rfl rfl (Sl.cons_ ha199 rfl (int_eq (by omega)) (Sl.nil_ ha199))))))))), hx195, hf87, (ho191.fin (by omega) (by omega) (by omega)), (hf86.fin (by omega) (by omega) (by omega)), (by omega), (by intro q hq; first | (intro hb; have hq0 := hf86.lt q hq; have hq1 := hf87.lt q hb; omega) | exact hsp88 q hq), (by omega), (by exact hK), (by exact hK2), (by first | omega | (simp; omega)), (by first | omega | (simp; omega)), (by rw [hlex9, hlex24, hlex47] at hF; have hc : mgc (valV x93 x9.2) (valV x93 x24.2) (valV x93 x47.2) = false := (by simp [mgc, c134, c172]); have hv : mgv (valV x93 x9.2) (valV x93 x24.2) (valV x93 x47.2) = (valV x93 x9.2) := (by simp [mgv, c134, c172]); rw [drop_cons hx93, mgL, if_neg (by rw [hc]; decide), if_neg (fun e => c175 (hv.symm.trans e)), hv] at hF; rw [hlex9, hlex24, hlex47, List.append_assoc]; exact hF), (by rw [hlex9, hlex24, hlex47] at hG; have hc : mgc (valV x93 x9.2) (valV x93 x24.2) (valV x93 x47.2) = false := (by simp [mgc, c134, c172]); have hv : mgv (valV x93 x9.2) (valV x93 x24.2) (valV x93 x47.2) = (valV x93 x9.2) := (by simp [mgv, c134, c172]); rw [drop_cons hx93, mgC, if_neg (by rw [hc]; decide)] at hG; rw [hlex9, hlex24, hlex47]; exact hG)⟩
      ·show ((allK ((([((x9.2 : List (Str × Int)), (v16 : Value)), ((x24.2 : List (Str × Int)), (v31 : Value)), ((x47.2 : List (Str × Int)), (v54 : Value))]).map (·.1)))).length - ((i + 1)) : Nat) < (allK ((([((x9.2 : List (Str × Int)), (v16 : Value)), ((x24.2 : List (Str × Int)), (v31 : Value)), ((x47.2 : List (Str × Int)), (v54 : Value))]).map (·.1)))).length - i; omega
    ·
     rw [decide_eq_false c172] at ha171
     refine cond_f ha171 rfl ?_
     refine wp_seq ?_
     refine wp_region_lit ?_
     refine wl_val ha171 rfl rfl rfl (op_move ha171 rfl rfl) ?_
     intro a200 ha200; clear ha171 a171
     refine wl_val ha200 rfl rfl rfl (op_move ha200 rfl rfl) ?_
     intro a201 ha201; clear ha200 a200
     refine wl_val ha201 rfl rfl rfl (op_eql ha201 rfl rfl rfl) ?_
     intro a202 ha202; clear ha201 a201
     refine wl_val ha202 rfl rfl rfl (op_assign ha202 rfl rfl) ?_
     intro a203 ha203; clear ha202 a202
     refine wpList_nil ?_
     refine then_n ?_
     by_cases c204 : (valV x93 x9.2 : Int) = (valV x93 x47.2 : Int)
     ·
      rw [decide_eq_true c204] at ha203
      refine cond_t ha203 rfl ?_
      refine wp_region_lit ?_
      refine wl_val ha203 rfl rfl rfl (op_move ha203 rfl rfl) ?_
      intro a205 ha205; clear ha203 a203
      refine wl_val ha205 rfl rfl rfl (op_assign ha205 rfl rfl) ?_
      intro a206 ha206; clear ha205 a205
      refine wpList_nil ?_
      refine block_n ?_
      refine then_n ?_
      refine wp_seq ?_
      refine wp_region_lit ?_
      refine wl_val ha206 rfl rfl rfl (op_move ha206 rfl rfl) ?_
      intro a207 ha207; clear ha206 a206
      refine wl_val ha207 rfl rfl rfl ((op_neq ha207 rfl rfl rfl).to (congrArg Value.bool decide_not)) ?_
      intro a208 ha208; clear ha207 a207
      refine wpList_nil ?_
      refine then_n ?_
      by_cases c209 : (valV x93 x24.2 : Int) = (-1 : Int)
      ·
       rw [decide_eq_true c209] at ha208
       refine cond_f ha208 rfl ?_
       refine wp_skip ?_
       refine block_n ?_
       refine then_n ?_
       refine wp_region_lit ?_
       refine wl_val ha208 rfl rfl rfl ((op_add ha208 rfl rfl rfl).int (IntWalk.i64_in _ (by omega))) ?_
       intro a210 ha210; clear ha208 a208
       refine wl_val ha210 rfl rfl rfl (op_move ha210 rfl rfl) ?_
       intro a211 ha211; clear ha210 a210
       refine wpList_nil ?_
       refine round_end (x := (i, v, acc, v2, ac2)) ((i + 1), v, acc, v2, ac2) ?_ ?_
       ·
        refine ⟨(Sl.cons_ ha211 rfl rfl (Sl.cons_ ha211 rfl rfl (Sl.cons_ ha211 rfl rfl (Sl.cons_ ha211 rfl rfl (Sl.cons_ ha211 rfl rfl (Sl.cons_ ha211 rfl rfl (Sl.cons_ ha211 rfl rfl (Sl.cons_ ha211 rfl (int_eq (by omega)) (Sl.nil_ ha211))))))))), hx124, hf87, (hf85.fin (by omega) (by omega) (by omega)), (hf86.fin (by omega) (by omega) (by omega)), (by omega), (by intro q hq; first | (intro hb; have hq0 := hf86.lt q hq; have hq1 := hf87.lt q hb; omega) | exact hsp88 q hq), (by omega), (by exact hK), (by exact hK2), (by first | omega | (simp; omega)), (by first | omega | (simp; omega)), (by rw [hlex9, hlex24, hlex47] at hF; have hc : mgc (valV x93 x9.2) (valV x93 x24.2) (valV x93 x47.2) = false := (by simp [mgc, c134, c172, c204]); have hv : mgv (valV x93 x9.2) (valV x93 x24.2) (valV x93 x47.2) = (valV x93 x24.2) := (by simp [mgv, c134, c172, c204]); rw [drop_cons hx93, mgL, if_neg (by rw [hc]; decide), if_pos (hv.trans c209)] at hF; rw [hlex9, hlex24, hlex47]; exact hF), (by rw [hlex9, hlex24, hlex47] at hG; have hc : mgc (valV x93 x9.2) (valV x93 x24.2) (valV x93 x47.2) = false := (by simp [mgc, c134, c172, c204]); have hv : mgv (valV x93 x9.2) (valV x93 x24.2) (valV x93 x47.2) = (valV x93 x24.2) := (by simp [mgv, c134, c172, c204]); rw [drop_cons hx93, mgC, if_neg (by rw [hc]; decide)] at hG; rw [hlex9, hlex24, hlex47]; exact hG)⟩
       ·show ((allK ((([((x9.2 : List (Str × Int)), (v16 : Value)), ((x24.2 : List (Str × Int)), (v31 : Value)), ((x47.2 : List (Str × Int)), (v54 : Value))]).map (·.1)))).length - ((i + 1)) : Nat) < (allK ((([((x9.2 : List (Str × Int)), (v16 : Value)), ((x24.2 : List (Str × Int)), (v31 : Value)), ((x47.2 : List (Str × Int)), (v54 : Value))]).map (·.1)))).length - i; omega
      ·
       rw [decide_eq_false c209] at ha208
       refine cond_t ha208 rfl ?_
       refine wp_region_lit ?_
       refine wl_val ha208 rfl rfl rfl (op_move ha208 rfl rfl) ?_
       intro a212 ha212; clear ha208 a208
       refine wl_val ha212 rfl rfl rfl (op_move ha212 rfl rfl) ?_
       intro a213 ha213; clear ha212 a212
       refine wl_val ha213 rfl rfl rfl (op_move ha213 rfl rfl) ?_
       intro a214 ha214; clear ha213 a213
       refine wl_val ha214 rfl rfl rfl (op_build (vs := [(0, St x93), (1, .int .i64 (valV x93 x24.2 : Int))]) (cs := #[St x93, .int .i64 (valV x93 x24.2 : Int)]) ha214 rfl Try.underlying83 ti83 bp83 rfl rfl) ?_
       intro a215 ha215; clear ha214 a214
       refine wl_eff ha215 rfl rfl rfl (op_buildSlice (s := shLine) (xs := [(x93, (valV x93 x24.2 : Int))]) (cs := [St x93, .int .i64 (valV x93 x24.2 : Int)]) (vs := [(0, .agg #[St x93, .int .i64 (valV x93 x24.2 : Int)])]) (S := fun _ => False) (le := w121.heap.size) ha215 rfl pos_shLine Try.underlying34 ti83 rfl rfl (by decide) (by kernel_rfl) (Els.single (mk_shLine ((x93, (valV x93 x24.2 : Int))) (by first | assumption | omega | exact valI (by assumption) | (simp; done)) (by first | assumption | omega | exact valI (by assumption) | (simp; done)))) (fun _ h => h.elim)) ?_
       rintro v216 w217 ⟨ho218, he219, hob220⟩ a221 ha221; clear ha215 a215
       have hx222 := hx124.trans' he219
       have hzhx222 := he219.size
       replace hf87 := hf87.ext he219
       replace hf85 := hf85.ext he219
       replace hf86 := hf86.ext he219
       replace hc97 := hc97.ext he219
       refine wl_eff ha221 rfl rfl rfl (op_append (ts := #[]) (s := shLine) ha221 rfl Try.underlying34 ti83 rfl pos_shLine rfl rfl hf85 (ho218.rds pos_shLine) (by omega) (by omega) (by first | omega | (simp; omega)) (by first | omega | (simp; omega)) (.inl flat_shLine)) ?_
       rintro v223 w224 ⟨ho225, hst226, hob227⟩ a228 ha228; clear ha221 a221
       have hx229 := hx222.stp hst226 (by intro q hq; have hq0 := hf85.lt q hq; omega)
       have hzhx229 := hst226.size
       replace hf87 := hf87.stp hst226 (by intro q hq; have hq0 := hf85.lt q hq; omega)
       first | replace hf86 := hf86.stp hst226 (by intro q hq; have hq0 := hf85.lt q hq; omega) | replace hf86 := hf86.stpF flat_shStr hst226 (hf86.ne hf85 rfl)
       replace ho218 := ho218.stp hst226 (by intro q hq; have hq0 := hf85.lt q hq; omega)
       have hsp230 : ∀ q, Value.ownBlock v223 = some q → Value.ownBlock v216 ≠ some q := by intro q hq hb; have hq0 := ho218.lt q hb; rcases hob227 with h | h; (rw [h] at hq; first | (have hq1 := hf85.lt q hq; omega)); (rw [h] at hq; cases hq; omega)
       refine wl_val ha228 rfl rfl rfl (op_assign ha228 rfl rfl) ?_
       intro a231 ha231; clear ha228 a228
       refine wpList_nil ?_
       refine block_n ?_
       refine then_n ?_
       refine wp_region_lit ?_
       refine wl_val ha231 rfl rfl rfl ((op_add ha231 rfl rfl rfl).int (IntWalk.i64_in _ (by omega))) ?_
       intro a232 ha232; clear ha231 a231
       refine wl_val ha232 rfl rfl rfl (op_move ha232 rfl rfl) ?_
       intro a233 ha233; clear ha232 a232
       refine wpList_nil ?_
       refine round_end (x := (i, v, acc, v2, ac2)) ((i + 1), v223, (acc ++ [(x93, (valV x93 x24.2 : Int))]), v2, ac2) ?_ ?_
       ·
        refine ⟨(Sl.cons_ ha233 rfl rfl (Sl.cons_ ha233 rfl rfl (Sl.cons_ ha233 rfl rfl (Sl.cons_ ha233 rfl rfl (Sl.cons_ ha233 rfl rfl (Sl.cons_ ha233 rfl rfl (Sl.cons_ ha233 rfl rfl (Sl.cons_ ha233 rfl (int_eq (by omega)) (Sl.nil_ ha233))))))))), hx229, hf87, (ho225.fin (by omega) (by omega) (by omega)), (hf86.fin (by omega) (by omega) (by omega)), (by omega), (by intro q hq; first | (intro hb; have hq0 := hf86.lt q hq; have hq1 := hf87.lt q hb; omega) | exact hsp88 q hq), (by omega), (by exact hK), (by exact hK2), (by first | omega | (simp; omega)), (by first | omega | (simp; omega)), (by rw [hlex9, hlex24, hlex47] at hF; have hc : mgc (valV x93 x9.2) (valV x93 x24.2) (valV x93 x47.2) = false := (by simp [mgc, c134, c172, c204]); have hv : mgv (valV x93 x9.2) (valV x93 x24.2) (valV x93 x47.2) = (valV x93 x24.2) := (by simp [mgv, c134, c172, c204]); rw [drop_cons hx93, mgL, if_neg (by rw [hc]; decide), if_neg (fun e => c209 (hv.symm.trans e)), hv] at hF; rw [hlex9, hlex24, hlex47, List.append_assoc]; exact hF), (by rw [hlex9, hlex24, hlex47] at hG; have hc : mgc (valV x93 x9.2) (valV x93 x24.2) (valV x93 x47.2) = false := (by simp [mgc, c134, c172, c204]); have hv : mgv (valV x93 x9.2) (valV x93 x24.2) (valV x93 x47.2) = (valV x93 x24.2) := (by simp [mgv, c134, c172, c204]); rw [drop_cons hx93, mgC, if_neg (by rw [hc]; decide)] at hG; rw [hlex9, hlex24, hlex47]; exact hG)⟩
       ·show ((allK ((([((x9.2 : List (Str × Int)), (v16 : Value)), ((x24.2 : List (Str × Int)), (v31 : Value)), ((x47.2 : List (Str × Int)), (v54 : Value))]).map (·.1)))).length - ((i + 1)) : Nat) < (allK ((([((x9.2 : List (Str × Int)), (v16 : Value)), ((x24.2 : List (Str × Int)), (v31 : Value)), ((x47.2 : List (Str × Int)), (v54 : Value))]).map (·.1)))).length - i; omega
     ·
      rw [decide_eq_false c204] at ha203
      refine cond_f ha203 rfl ?_
      refine wp_seq ?_
      refine wp_region_lit ?_
      refine wl_val ha203 rfl rfl rfl (op_move ha203 rfl rfl) ?_
      intro a234 ha234; clear ha203 a203
      refine wl_val ha234 rfl rfl rfl (op_move ha234 rfl rfl) ?_
      intro a235 ha235; clear ha234 a234
      refine wl_eff ha235 rfl rfl rfl (op_buildSlice (s := shStr) (xs := [x93]) (cs := [St x93]) (vs := [(0, St x93)]) (S := fun _ => False) (le := w121.heap.size) ha235 rfl pos_shStr Try.underlying24 ti9 rfl rfl (by decide) (by kernel_rfl) (Els.single (mk_shStr x93 (by first | assumption | omega | exact valI (by assumption) | (simp; done)))) (fun _ h => h.elim)) ?_
      rintro v236 w237 ⟨ho238, he239, hob240⟩ a241 ha241; clear ha235 a235
      have hx242 := hx124.trans' he239
      have hzhx242 := he239.size
      replace hf87 := hf87.ext he239
      replace hf85 := hf85.ext he239
      replace hf86 := hf86.ext he239
      replace hc97 := hc97.ext he239
      refine wl_eff ha241 rfl rfl rfl (op_append (ts := #[]) (s := shStr) ha241 rfl Try.underlying24 ti9 rfl pos_shStr rfl rfl hf86 (ho238.rds pos_shStr) (by omega) (by omega) (by first | omega | (simp; omega)) (by first | omega | (simp; omega)) (.inl flat_shStr)) ?_
      rintro v243 w244 ⟨ho245, hst246, hob247⟩ a248 ha248; clear ha241 a241
      have hx249 := hx242.stp hst246 (by intro q hq; have hq0 := hf86.lt q hq; omega)
      have hzhx249 := hst246.size
      replace hf87 := hf87.stp hst246 (by intro q hq; have hq0 := hf86.lt q hq; omega)
      first | replace hf85 := hf85.stp hst246 (by intro q hq; have hq0 := hf86.lt q hq; omega) | replace hf85 := hf85.stpF flat_shLine hst246 (hf85.ne hf86 rfl)
      replace ho238 := ho238.stp hst246 (by intro q hq; have hq0 := hf86.lt q hq; omega)
      have hsp250 : ∀ q, Value.ownBlock v243 = some q → Value.ownBlock v75 ≠ some q := by intro q hq hb; have hq0 := hf87.lt q hb; rcases hob247 with h | h; (rw [h] at hq; first | (have hq1 := hf86.lt q hq; omega) | exact hsp88 q hq hb); (rw [h] at hq; cases hq; omega)
      have hsp251 : ∀ q, Value.ownBlock v243 = some q → Value.ownBlock v236 ≠ some q := by intro q hq hb; have hq0 := ho238.lt q hb; rcases hob247 with h | h; (rw [h] at hq; first | (have hq1 := hf86.lt q hq; omega)); (rw [h] at hq; cases hq; omega)
      refine wl_val ha248 rfl rfl rfl (op_assign ha248 rfl rfl) ?_
      intro a252 ha252; clear ha248 a248
      refine wpList_nil ?_
      refine then_n ?_
      refine wp_exit ?_
      refine block_miss rfl ?_
      refine then_e ?_
      refine block_hit ?_
      refine then_n ?_
      refine wp_region_lit ?_
      refine wl_val ha252 rfl rfl rfl ((op_add ha252 rfl rfl rfl).int (IntWalk.i64_in _ (by omega))) ?_
      intro a253 ha253; clear ha252 a252
      refine wl_val ha253 rfl rfl rfl (op_move ha253 rfl rfl) ?_
      intro a254 ha254; clear ha253 a253
      refine wpList_nil ?_
      refine round_end (x := (i, v, acc, v2, ac2)) ((i + 1), v, acc, v243, (ac2 ++ [x93])) ?_ ?_
      ·
       refine ⟨(Sl.cons_ ha254 rfl rfl (Sl.cons_ ha254 rfl rfl (Sl.cons_ ha254 rfl rfl (Sl.cons_ ha254 rfl rfl (Sl.cons_ ha254 rfl rfl (Sl.cons_ ha254 rfl rfl (Sl.cons_ ha254 rfl rfl (Sl.cons_ ha254 rfl (int_eq (by omega)) (Sl.nil_ ha254))))))))), hx249, hf87, (hf85.fin (by omega) (by omega) (by omega)), (ho245.fin (by omega) (by omega) (by omega)), (by omega), (by intro q hq; first | (intro hb; have hq0 := ho245.lt q hq; have hq1 := hf87.lt q hb; omega) | exact hsp250 q hq), (by omega), (by exact hK), (by exact hK2), (by first | omega | (simp; omega)), (by first | omega | (simp; omega)), (by rw [hlex9, hlex24, hlex47] at hF; have hc : mgc (valV x93 x9.2) (valV x93 x24.2) (valV x93 x47.2) = true := (by simp [mgc, c134, c172, c204]); rw [drop_cons hx93, mgL, if_pos hc] at hF; rw [hlex9, hlex24, hlex47]; exact hF), (by rw [hlex9, hlex24, hlex47] at hG; have hc : mgc (valV x93 x9.2) (valV x93 x24.2) (valV x93 x47.2) = true := (by simp [mgc, c134, c172, c204]); rw [drop_cons hx93, mgC, if_pos hc] at hG; rw [hlex9, hlex24, hlex47, List.append_assoc]; exact hG)⟩
      ·show ((allK ((([((x9.2 : List (Str × Int)), (v16 : Value)), ((x24.2 : List (Str × Int)), (v31 : Value)), ((x47.2 : List (Str × Int)), (v54 : Value))]).map (·.1)))).length - ((i + 1)) : Nat) < (allK ((([((x9.2 : List (Str × Int)), (v16 : Value)), ((x24.2 : List (Str × Int)), (v31 : Value)), ((x47.2 : List (Str × Int)), (v54 : Value))]).map (·.1)))).length - i; omega
  ·
   rw [decide_eq_false c92] at ha91
   refine cond_f ha91 rfl ?_
   refine wp_exit ?_
   refine then_e ?_
   refine then_e ?_
   refine block_hit ?_
   refine then_n ?_
   refine wp_seq ?_
   refine wp_region_lit ?_
   refine wl_val ha91 rfl rfl rfl (op_move ha91 rfl rfl) ?_
   intro a255 ha255; clear ha91 a91
   refine wl_val ha255 rfl rfl rfl (op_move ha255 rfl rfl) ?_
   intro a256 ha256; clear ha255 a255
   refine wl_val ha256 rfl rfl rfl (op_assign ha256 rfl rfl) ?_
   intro a257 ha257; clear ha256 a256
   refine wl_val ha257 rfl rfl rfl (op_assign ha257 rfl rfl) ?_
   intro a258 ha258; clear ha257 a257
   refine wpList_nil ?_
   refine then_n ?_
   refine wp_ret ?_
   refine ret2 ha258 rfl rfl rfl ?_
   clear ha258 a258
   refine ret_mk hx84 ⟨v, v2, (tup2_eq rfl rfl), ?_, ?_⟩
   ·refine (hf85.fin (by omega) (by omega) (by omega)).cast ?_
    rw [drop_nil (by omega), mgL, List.append_nil] at hF; exact hF
   ·refine (hf86.fin (by omega) (by omega) (by omega)).cast ?_
    rw [drop_nil (by omega), mgC, List.append_nil] at hG; exact hG

set_option maxHeartbeats 4000000 in
theorem c_spec_l29Merge (w0 : World) (v_list : Value) (list : List (Int × List (Str × Int))) {S_list : Nat → Prop} (ca : Int) (cb : Int) (h_list : Rds shVer S_list w0 v_list list) (g0 : veB list = true) (g1 : 0 ≤ ca) (g2 : ca < (list.length : Nat)) (g3 : 0 ≤ cb) (g4 : cb < (list.length : Nat)) :
  Calls Try.prog 59 #[v_list, .int .i64 ca, .int .i64 cb] w0 (Ret w0 (fun v w1 => ∃ r0 r1, v = .tuple #[r0, r1] ∧ Own shLine 83 w0.heap.size w0.heap.size w1.heap.size w1 r0 (mgLV list ca cb) ∧ Own shStr 9 w0.heap.size w0.heap.size w1.heap.size w1 r1 (mgCV list ca cb))) := by
 refine enter (N := 101) Try.func59 rfl rfl rfl ?_
 intro a0 ha0
 have hx0 := Ext.rfl' w0
 have hl_list := h_list.length_le
 have hlen := veB_len g0
 have hpk := par_ok g0
 have hcmb := cmV_bd hpk cb g1
 refine wp_seq ?_
 refine wp_region_lit ?_
 refine wl_val ha0 rfl rfl rfl (op_assign ha0 rfl rfl) ?_
 intro a1 ha1; clear ha0 a0
 refine wl_val ha1 rfl rfl rfl (op_assign ha1 rfl rfl) ?_
 intro a2 ha2; clear ha1 a1
 refine wpList_nil ?_
 refine then_n ?_
 refine wp_seq ?_
 refine dr_enter Ext follows_mixed ?_
 intro w3 he4
 have hx5 := hx0.trans' he4
 have hzhx5 := he4.size
 have hs6 : Ext w3 w3 := Ext.rfl' _
 refine dr_val (i := 0) ha2 rfl (by kernel_rfl) (by kernel_rfl) (by kernel_rfl) rfl rfl rfl hs6 (fun w' hw' => op_move ha2 rfl rfl) ?_
 intro a7 ha7; clear ha2 a2
 refine dr_val (i := 1) ha7 rfl (by kernel_rfl) (by kernel_rfl) (by kernel_rfl) rfl rfl rfl hs6 (fun w' hw' => op_move ha7 rfl rfl) ?_
 intro a8 ha8; clear ha7 a7
 obtain ⟨x9, hx9⟩ := get_ex (xs := list) (j := ca.toNat) (by omega)
 obtain ⟨p10, c11, hi12, hc13, hr14, hs15⟩ := Rds.at_ h_list hx9
 obtain ⟨v16, rfl, b17, b18⟩ := inv_shVer hr14
 have hlb18 := b18.length_le
 have hvex9 := veB_at g0 hx9
 have hlex9 := lnV_eq hx9
 have hlxx9 := shB_len hvex9.1
 have hshx9 := hvex9.1
 refine dr_val (i := 2) ha8 rfl (by kernel_rfl) (by kernel_rfl) (by kernel_rfl) rfl rfl rfl hs6 (fun w' hw' => op_indexAddr ha8 rfl Try.underlying27 ti56 rfl rfl (by omega) hi12) ?_
 intro a19 ha19; clear ha8 a8
 refine dr_val (i := 3) ha19 rfl (by kernel_rfl) (by kernel_rfl) (by kernel_rfl) rfl rfl rfl hs6 (fun w' hw' => op_fieldAddr (sz := 0) ha19 rfl Try.underlying56 rfl rfl ti34 rfl) ?_
 intro a20 ha20; clear ha19 a19
 refine dr_val (i := 4) ha20 rfl (by kernel_rfl) (by kernel_rfl) (by kernel_rfl) rfl rfl rfl hs6 (fun w' hw' => op_loadF (off := 1) ha20 rfl Try.underlying34 rfl rfl (hc13.ext (hx5.trans' hw')) rfl) ?_
 intro a21 ha21; clear ha20 a20
 refine dr_val (i := 5) ha21 rfl (by kernel_rfl) (by kernel_rfl) (by kernel_rfl) rfl rfl rfl hs6 (fun w' hw' => op_move ha21 rfl rfl) ?_
 intro a22 ha22; clear ha21 a21
 refine dr_val (i := 6) ha22 rfl (by kernel_rfl) (by kernel_rfl) (by kernel_rfl) rfl rfl rfl hs6 (fun w' hw' => op_move ha22 rfl rfl) ?_
 intro a23 ha23; clear ha22 a22
 obtain ⟨x24, hx24⟩ := get_ex (xs := list) (j := cb.toNat) (by omega)
 obtain ⟨p25, c26, hi27, hc28, hr29, hs30⟩ := Rds.at_ h_list hx24
 obtain ⟨v31, rfl, b32, b33⟩ := inv_shVer hr29
 have hlb33 := b33.length_le
 have hvex24 := veB_at g0 hx24
 have hlex24 := lnV_eq hx24
 have hlxx24 := shB_len hvex24.1
 have hshx24 := hvex24.1
 refine dr_val (i := 7) ha23 rfl (by kernel_rfl) (by kernel_rfl) (by kernel_rfl) rfl rfl rfl hs6 (fun w' hw' => op_indexAddr ha23 rfl Try.underlying27 ti56 rfl rfl (by omega) hi27) ?_
 intro a34 ha34; clear ha23 a23
 refine dr_val (i := 8) ha34 rfl (by kernel_rfl) (by kernel_rfl) (by kernel_rfl) rfl rfl rfl hs6 (fun w' hw' => op_fieldAddr (sz := 0) ha34 rfl Try.underlying56 rfl rfl ti34 rfl) ?_
 intro a35 ha35; clear ha34 a34
 refine dr_val (i := 9) ha35 rfl (by kernel_rfl) (by kernel_rfl) (by kernel_rfl) rfl rfl rfl hs6 (fun w' hw' => op_loadF (off := 1) ha35 rfl Try.underlying34 rfl rfl (hc28.ext (hx5.trans' hw')) rfl) ?_
 intro a36 ha36; clear ha35 a35
 refine dr_val (i := 10) ha36 rfl (by kernel_rfl) (by kernel_rfl) (by kernel_rfl) rfl rfl rfl hs6 (fun w' hw' => op_move ha36 rfl rfl) ?_
 intro a37 ha37; clear ha36 a36
 refine dr_val (i := 11) ha37 rfl (by kernel_rfl) (by kernel_rfl) (by kernel_rfl) rfl rfl rfl hs6 (fun w' hw' => op_move ha37 rfl rfl) ?_
 intro a38 ha38; clear ha37 a37
 refine dr_val (i := 12) ha38 rfl (by kernel_rfl) (by kernel_rfl) (by kernel_rfl) rfl rfl rfl hs6 (fun w' hw' => op_move ha38 rfl rfl) ?_
 intro a39 ha39; clear ha38 a38
 refine dr_val (i := 13) ha39 rfl (by kernel_rfl) (by kernel_rfl) (by kernel_rfl) rfl rfl rfl hs6 (fun w' hw' => op_move ha39 rfl rfl) ?_
 intro a40 ha40; clear ha39 a39
 refine dr_one (i := 14) (by kernel_rfl) ?_
 refine po_callR ha40 rfl rfl rfl rfl (op_call ha40 rfl cb82 rfl) (c_spec_l29Common _ v_list list ca cb (h_list.ext pos_shVer (hx5.trans' hs6)) (by first | assumption | omega | (simp; done) | (simp; omega)) (by first | assumption | omega | (simp; done) | (simp; omega)) (by first | assumption | omega | (simp; done) | (simp; omega)) (by first | assumption | omega | (simp; done) | (simp; omega)) (by first | assumption | omega | (simp; done) | (simp; omega))) ?_
 rintro v41 w42 he43 rfl a44 ha44; clear ha40 a40
 have hs45 := hs6.trans' he43
 have hx46 := hx5.trans' he43
 have hzhx46 := he43.size
 refine ⟨hs45, ?_⟩
 obtain ⟨x47, hx47⟩ := get_ex (xs := list) (j := ((cmV list ca cb : Int)).toNat) (by omega)
 obtain ⟨p48, c49, hi50, hc51, hr52, hs53⟩ := Rds.at_ h_list hx47
 obtain ⟨v54, rfl, b55, b56⟩ := inv_shVer hr52
 have hlb56 := b56.length_le
 have hvex47 := veB_at g0 hx47
 have hlex47 := lnV_eq hx47
 have hlxx47 := shB_len hvex47.1
 have hshx47 := hvex47.1
 refine dr_val (i := 15) ha44 rfl (by kernel_rfl) (by kernel_rfl) (by kernel_rfl) rfl rfl rfl hs45 (fun w' hw' => op_indexAddr ha44 rfl Try.underlying27 ti56 rfl rfl (by omega) hi50) ?_
 intro a57 ha57; clear ha44 a44
 refine dr_val (i := 16) ha57 rfl (by kernel_rfl) (by kernel_rfl) (by kernel_rfl) rfl rfl rfl hs45 (fun w' hw' => op_fieldAddr (sz := 0) ha57 rfl Try.underlying56 rfl rfl ti34 rfl) ?_
 intro a58 ha58; clear ha57 a57
 refine dr_val (i := 17) ha58 rfl (by kernel_rfl) (by kernel_rfl) (by kernel_rfl) rfl rfl rfl hs45 (fun w' hw' => op_loadF (off := 1) ha58 rfl Try.underlying34 rfl rfl (hc51.ext (hx5.trans' hw')) rfl) ?_
 intro a59 ha59; clear ha58 a58
 refine dr_val (i := 18) ha59 rfl (by kernel_rfl) (by kernel_rfl) (by kernel_rfl) rfl rfl rfl hs45 (fun w' hw' => op_assign ha59 rfl rfl) ?_
 intro a60 ha60; clear ha59 a59
 refine dr_val (i := 19) ha60 rfl (by kernel_rfl) (by kernel_rfl) (by kernel_rfl) rfl rfl rfl hs45 (fun w' hw' => op_assign ha60 rfl rfl) ?_
 intro a61 ha61; clear ha60 a60
 refine dr_val (i := 20) ha61 rfl (by kernel_rfl) (by kernel_rfl) (by kernel_rfl) rfl rfl rfl hs45 (fun w' hw' => op_assign ha61 rfl rfl) ?_
 intro a62 ha62; clear ha61 a61
 refine dr_end (by kernel_rfl) ?_
 refine then_n ?_
 refine wp_seq ?_
 refine wp_region_lit ?_
 refine wl_eff ha62 rfl rfl rfl (op_buildSlice (s := shLine) (xs := ([] : List (Str × Int))) (cs := []) (vs := []) (S := fun _ => False) (le := w42.heap.size) ha62 rfl pos_shLine Try.underlying34 ti83 rfl rfl (by decide) (by kernel_rfl) rfl (fun _ h => h.elim)) ?_
 rintro v63 w64 ⟨ho65, he66, hob67⟩ a68 ha68; clear ha62 a62
 have hx69 := hx46.trans' he66
 have hzhx69 := he66.size
 refine wl_eff ha68 rfl rfl rfl (op_buildSlice (s := shStr) (xs := ([] : List Str)) (cs := []) (vs := []) (S := fun _ => False) (le := w64.heap.size) ha68 rfl pos_shStr Try.underlying24 ti9 rfl rfl (by decide) (by kernel_rfl) rfl (fun _ h => h.elim)) ?_
 rintro v70 w71 ⟨ho72, he73, hob74⟩ a75 ha75; clear ha68 a68
 have hx76 := hx69.trans' he73
 have hzhx76 := he73.size
 replace ho65 := ho65.ext he73
 refine wl_val ha75 rfl rfl rfl (op_assign ha75 rfl rfl) ?_
 intro a77 ha77; clear ha75 a75
 refine wl_val ha77 rfl rfl rfl (op_assign ha77 rfl rfl) ?_
 intro a78 ha78; clear ha77 a77
 refine wpList_nil ?_
 refine then_n ?_
 refine wp_seq ?_
 refine wp_region_lit ?_
 refine wl_val ha78 rfl rfl rfl (op_move ha78 rfl rfl) ?_
 intro a79 ha79; clear ha78 a78
 refine wl_val ha79 rfl rfl rfl (op_move ha79 rfl rfl) ?_
 intro a80 ha80; clear ha79 a79
 refine wl_val ha80 rfl rfl rfl (op_move ha80 rfl rfl) ?_
 intro a81 ha81; clear ha80 a80
 refine wl_eff ha81 rfl rfl rfl (op_buildSlice (s := shLnsN) (xs := [((x9.2 : List (Str × Int)), (v16 : Value)), ((x24.2 : List (Str × Int)), (v31 : Value)), ((x47.2 : List (Str × Int)), (v54 : Value))]) (cs := [v16, v31, v54]) (vs := [(0, v16), (1, v31), (2, v54)]) (S := fun _ => False) (le := w71.heap.size) ha81 rfl pos_shLnsN Try.underlying72 ti34 rfl rfl (by decide) ((fill_one (off := 0) b18.cells1 (by kernel_rfl) (by kernel_rfl)).trans ((fill_one (off := 1) b33.cells1 (by kernel_rfl) (by kernel_rfl)).trans ((fill_one (off := 2) b56.cells1 (by kernel_rfl) (by kernel_rfl)).trans (by kernel_rfl)))) ⟨mk_shLnsN (((x9.2 : List (Str × Int)), (v16 : Value))) b18.one, mk_shLnsN (((x24.2 : List (Str × Int)), (v31 : Value))) b33.one, mk_shLnsN (((x47.2 : List (Str × Int)), (v54 : Value))) b56.one, rfl⟩ (fun _ h => h.elim)) ?_
 rintro v82 w83 ⟨ho84, he85, hob86⟩ a87 ha87; clear ha81 a81
 have hx88 := hx76.trans' he85
 have hzhx88 := he85.size
 replace ho65 := ho65.ext he85
 replace ho72 := ho72.ext he85
 refine wl_callR ha87 rfl rfl rfl (op_call ha87 rfl cb51 rfl) (c_spec_l29Keys _ v82 ((([((x9.2 : List (Str × Int)), (v16 : Value)), ((x24.2 : List (Str × Int)), (v31 : Value)), ((x47.2 : List (Str × Int)), (v54 : Value))]).map (·.1))) (rdsR_shLnsN (lo := w71.heap.size) (hi := w83.heap.size) (ho84.fin (by omega) (by omega) (by omega)) (by intro z hz; simp only [List.mem_cons, List.not_mem_nil, or_false] at hz; first | (rcases hz with rfl | rfl | rfl <;> assumption) | (rcases hz with rfl | rfl <;> assumption)) hx88) (by first | assumption | omega | (simp; done) | (simp; omega)) (by intro q hq; simp only [List.map_cons, List.map_nil, List.mem_cons, List.not_mem_nil, or_false] at hq; first | (rcases hq with rfl | rfl | rfl <;> assumption) | (rcases hq with rfl | rfl <;> assumption))) ?_
 rintro v89 w90 he91 ho92 a93 ha93; clear ha87 a87
 have hx94 := hx88.trans' he91
 have hzhx94 := he91.size
 replace ho65 := ho65.ext he91
 replace ho72 := ho72.ext he91
 replace ho84 := ho84.ext he91
 refine wl_val ha93 rfl rfl rfl (op_assign ha93 rfl rfl) ?_
 intro a95 ha95; clear ha93 a93
 refine wpList_nil ?_
 refine then_n ?_
 refine wp_seq ?_
 refine wp_seq ?_
 refine wp_region_lit ?_
 refine wl_val ha95 rfl rfl rfl (op_assign ha95 rfl rfl) ?_
 intro a96 ha96; clear ha95 a95
 refine wpList_nil ?_
 refine then_n ?_
 refine wp_block ?_
 refine loop_inv (X := Nat × Value × (List (Str × Int)) × Value × (List Str)) (fun (⟨i, v, acc, v2, ac2⟩ : Nat × Value × (List (Str × Int)) × Value × (List Str)) fr wl => Sl 101 fr [(8, v16), (9, v31), (10, v54), (11, v), (12, v2), (13, v89), (14, .int .i64 ((i : Nat) : Int))] ∧ Ext w0 wl ∧ Own shStr 9 w83.heap.size w83.heap.size w90.heap.size wl v89 ((allK ((([((x9.2 : List (Str × Int)), (v16 : Value)), ((x24.2 : List (Str × Int)), (v31 : Value)), ((x47.2 : List (Str × Int)), (v54 : Value))]).map (·.1))))) ∧ Own shLine 83 w42.heap.size w42.heap.size wl.heap.size wl v acc ∧ Own shStr 9 w64.heap.size w64.heap.size wl.heap.size wl v2 ac2 ∧ w90.heap.size ≤ wl.heap.size ∧ (∀ q, Value.ownBlock v2 = some q → Value.ownBlock v89 ≠ some q) ∧ (i ≤ (allK ((([((x9.2 : List (Str × Int)), (v16 : Value)), ((x24.2 : List (Str × Int)), (v31 : Value)), ((x47.2 : List (Str × Int)), (v54 : Value))]).map (·.1)))).length) ∧ ((allK ((([((x9.2 : List (Str × Int)), (v16 : Value)), ((x24.2 : List (Str × Int)), (v31 : Value)), ((x47.2 : List (Str × Int)), (v54 : Value))]).map (·.1)))) = mgKs list ca cb) ∧ ((allK ((([((x9.2 : List (Str × Int)), (v16 : Value)), ((x24.2 : List (Str × Int)), (v31 : Value)), ((x47.2 : List (Str × Int)), (v54 : Value))]).map (·.1)))).length ≤ 24) ∧ (acc.length ≤ i) ∧ (ac2.length ≤ i) ∧ (acc ++ mgL (lnV list ca) (lnV list cb) (lnV list (cmV list ca cb)) ((allK ((([((x9.2 : List (Str × Int)), (v16 : Value)), ((x24.2 : List (Str × Int)), (v31 : Value)), ((x47.2 : List (Str × Int)), (v54 : Value))]).map (·.1)))).drop i) = mgLV list ca cb) ∧ (ac2 ++ mgC (lnV list ca) (lnV list cb) (lnV list (cmV list ca cb)) ((allK ((([((x9.2 : List (Str × Int)), (v16 : Value)), ((x24.2 : List (Str × Int)), (v31 : Value)), ((x47.2 : List (Str × Int)), (v54 : Value))]).map (·.1)))).drop i) = mgCV list ca cb)) (fun (⟨i, v, acc, v2, ac2⟩ : Nat × Value × (List (Str × Int)) × Value × (List Str)) => (allK ((([((x9.2 : List (Str × Int)), (v16 : Value)), ((x24.2 : List (Str × Int)), (v31 : Value)), ((x47.2 : List (Str × Int)), (v54 : Value))]).map (·.1)))).length - i) (0, v63, ([] : List (Str × Int)), v70, ([] : List Str)) ?_ ?_
 ·
  exact ⟨(Sl.cons_ ha96 rfl rfl (Sl.cons_ ha96 rfl rfl (Sl.cons_ ha96 rfl rfl (Sl.cons_ ha96 rfl rfl (Sl.cons_ ha96 rfl rfl (Sl.cons_ ha96 rfl rfl (Sl.cons_ ha96 rfl (int_eq (by omega)) (Sl.nil_ ha96)))))))), hx94, ho92, (ho65.fin (by omega) (by omega) (by omega)), (ho72.fin (by omega) (by omega) (by omega)), (by omega), (by intro q hq; first | (intro hb; have hq0 := ho72.lt q hq; have hq1 := ho92.lt q hb; omega)), (by omega), (by unfold mgKs; rw [hlex9, hlex24, hlex47]; rfl), (by have h8 := mgKs_len g0 ca cb; unfold mgKs at h8; rw [hlex9, hlex24, hlex47] at h8; exact h8), (by exact Nat.zero_le _), (by exact Nat.zero_le _), (by unfold mgLV mgKs; rw [hlex9, hlex24, hlex47]; rfl), (by unfold mgCV mgKs; rw [hlex9, hlex24, hlex47]; rfl)⟩
 ·
  clear ha96 a96
  rintro ⟨i, v, acc, v2, ac2⟩ a103 w97 ⟨ha103, hx98, hf101, hf99, hf100, hzl104, hsp102, hi, hK, hK2, hl, hl2, hF, hG⟩
  have hzhx98 := hx98.size
  refine wp_seq ?_
  refine wp_seq ?_
  refine wp_region_lit ?_
  refine wl_val ha103 rfl rfl rfl (op_move ha103 rfl rfl) ?_
  intro a105 ha105; clear ha103 a103
  refine wl_val ha105 rfl rfl rfl (op_move ha105 rfl rfl) ?_
  intro a106 ha106; clear ha105 a105
  refine wl_val ha106 rfl rfl rfl (op_len_sl ha106 rfl Try.underlying24 rfl (hf101.rds pos_shStr)) ?_
  intro a107 ha107; clear ha106 a106
  refine wl_val ha107 rfl rfl rfl (op_lss ha107 rfl rfl rfl) ?_
  intro a108 ha108; clear ha107 a107
  refine wpList_nil ?_
  refine then_n ?_
  by_cases c109 : ((i : Nat) : Int) < ((((allK ((([((x9.2 : List (Str × Int)), (v16 : Value)), ((x24.2 : List (Str × Int)), (v31 : Value)), ((x47.2 : List (Str × Int)), (v54 : Value))]).map (·.1))))).length : Nat) : Int)
  ·
   rw [decide_eq_true c109] at ha108
   refine cond_t ha108 rfl ?_
   refine wp_skip ?_
   refine then_n ?_
   refine wp_seq ?_
   refine wp_block ?_
   refine wp_seq ?_
   refine dr_enter Ext follows_mixed ?_
   intro w110 he111
   have hx112 := hx98.trans' he111
   have hzhx112 := he111.size
   replace hf101 := hf101.ext he111
   replace hf99 := hf99.ext he111
   replace hf100 := hf100.ext he111
   have hs113 : Ext w110 w110 := Ext.rfl' _
   refine dr_val (i := 0) ha108 rfl (by kernel_rfl) (by kernel_rfl) (by kernel_rfl) rfl rfl rfl hs113 (fun w' hw' => op_move ha108 rfl rfl) ?_
   intro a114 ha114; clear ha108 a108
   refine dr_val (i := 1) ha114 rfl (by kernel_rfl) (by kernel_rfl) (by kernel_rfl) rfl rfl rfl hs113 (fun w' hw' => op_move ha114 rfl rfl) ?_
   intro a115 ha115; clear ha114 a114
   refine dr_val (i := 2) ha115 rfl (by kernel_rfl) (by kernel_rfl) (by kernel_rfl) rfl rfl rfl hs113 (fun w' hw' => op_move ha115 rfl rfl) ?_
   intro a116 ha116; clear ha115 a115
   obtain ⟨x117, hx117⟩ := get_ex (xs := (allK ((([((x9.2 : List (Str × Int)), (v16 : Value)), ((x24.2 : List (Str × Int)), (v31 : Value)), ((x47.2 : List (Str × Int)), (v54 : Value))]).map (·.1))))) (j := i) (by omega)
   obtain ⟨p118, c119, hi120, hc121, hr122, hs123⟩ := Rds.at_ (hf101.rds pos_shStr) hx117
   obtain ⟨rfl, b124⟩ := inv_shStr hr122
   obtain ⟨_, _⟩ : _ ∧ _ := hs123
   refine dr_val (i := 3) ha116 rfl (by kernel_rfl) (by kernel_rfl) (by kernel_rfl) rfl rfl rfl hs113 (fun w' hw' => op_indexAddr ha116 rfl Try.underlying24 ti9 rfl rfl (by omega) hi120) ?_
   intro a125 ha125; clear ha116 a116
   refine dr_val (i := 4) ha125 rfl (by kernel_rfl) (by kernel_rfl) (by kernel_rfl) rfl rfl rfl hs113 (fun w' hw' => op_loadH ha125 rfl Try.underlying9 rfl rfl (hc121.ext hw') rfl) ?_
   intro a126 ha126; clear ha125 a125
   refine dr_val (i := 6) ha126 rfl (by kernel_rfl) (by kernel_rfl) (by kernel_rfl) rfl rfl rfl hs113 (fun w' hw' => op_move ha126 rfl rfl) ?_
   intro a127 ha127; clear ha126 a126
   refine dr_val (i := 7) ha127 rfl (by kernel_rfl) (by kernel_rfl) (by kernel_rfl) rfl rfl rfl hs113 (fun w' hw' => op_move ha127 rfl rfl) ?_
   intro a128 ha128; clear ha127 a127
   refine dr_val (i := 8) ha128 rfl (by kernel_rfl) (by kernel_rfl) (by kernel_rfl) rfl rfl rfl hs113 (fun w' hw' => op_move ha128 rfl rfl) ?_
   intro a129 ha129; clear ha128 a128
   refine dr_val (i := 9) ha129 rfl (by kernel_rfl) (by kernel_rfl) (by kernel_rfl) rfl rfl rfl hs113 (fun w' hw' => op_indexAddr ha129 rfl Try.underlying24 ti9 rfl rfl (by omega) hi120) ?_
   intro a130 ha130; clear ha129 a129
   refine dr_val (i := 10) ha130 rfl (by kernel_rfl) (by kernel_rfl) (by kernel_rfl) rfl rfl rfl hs113 (fun w' hw' => op_loadH ha130 rfl Try.underlying9 rfl rfl (hc121.ext hw') rfl) ?_
   intro a131 ha131; clear ha130 a130
   refine dr_val (i := 12) ha131 rfl (by kernel_rfl) (by kernel_rfl) (by kernel_rfl) rfl rfl rfl hs113 (fun w' hw' => op_move ha131 rfl rfl) ?_
   intro a132 ha132; clear ha131 a131
   refine dr_val (i := 13) ha132 rfl (by kernel_rfl) (by kernel_rfl) (by kernel_rfl) rfl rfl rfl hs113 (fun w' hw' => op_move ha132 rfl rfl) ?_
   intro a133 ha133; clear ha132 a132
   refine dr_val (i := 14) ha133 rfl (by kernel_rfl) (by kernel_rfl) (by kernel_rfl) rfl rfl rfl hs113 (fun w' hw' => op_move ha133 rfl rfl) ?_
   intro a134 ha134; clear ha133 a133
   refine dr_val (i := 15) ha134 rfl (by kernel_rfl) (by kernel_rfl) (by kernel_rfl) rfl rfl rfl hs113 (fun w' hw' => op_indexAddr ha134 rfl Try.underlying24 ti9 rfl rfl (by omega) hi120) ?_
   intro a135 ha135; clear ha134 a134
   refine dr_val (i := 16) ha135 rfl (by kernel_rfl) (by kernel_rfl) (by kernel_rfl) rfl rfl rfl hs113 (fun w' hw' => op_loadH ha135 rfl Try.underlying9 rfl rfl (hc121.ext hw') rfl) ?_
   intro a136 ha136; clear ha135 a135
   refine dr_one (i := 5) (by kernel_rfl) ?_
   refine po_callR ha136 rfl rfl rfl rfl (op_call ha136 rfl cb52 rfl) (c_spec_l29Value _ v16 x9.2 x117 (b18.ext pos_shLine (hx112.trans' hs113))) ?_
   rintro v137 w138 he139 rfl a140 ha140; clear ha136 a136
   have hs141 := hs113.trans' he139
   have hx142 := hx112.trans' he139
   have hzhx142 := he139.size
   refine ⟨hs141, ?_⟩
   refine dr_one (i := 11) (by kernel_rfl) ?_
   refine po_callR ha140 rfl rfl rfl rfl (op_call ha140 rfl cb52 rfl) (c_spec_l29Value _ v31 x24.2 x117 (b33.ext pos_shLine (hx112.trans' hs141))) ?_
   rintro v143 w144 he145 rfl a146 ha146; clear ha140 a140
   have hs147 := hs141.trans' he145
   have hx148 := hx142.trans' he145
   have hzhx148 := he145.size
   refine ⟨hs147, ?_⟩
   refine dr_one (i := 17) (by kernel_rfl) ?_
   refine po_callR ha146 rfl rfl rfl rfl (op_call ha146 rfl cb52 rfl) (c_spec_l29Value _ v54 x47.2 x117 (b56.ext pos_shLine (hx112.trans' hs147))) ?_
   rintro v149 w150 he151 rfl a152 ha152; clear ha146 a146
   have hs153 := hs147.trans' he151
   have hx154 := hx148.trans' he151
   have hzhx154 := he151.size
   refine ⟨hs153, ?_⟩
   refine dr_val (i := 18) ha152 rfl (by kernel_rfl) (by kernel_rfl) (by kernel_rfl) rfl rfl rfl hs153 (fun w' hw' => op_assign ha152 rfl rfl) ?_
   intro a155 ha155; clear ha152 a152
   refine dr_val (i := 19) ha155 rfl (by kernel_rfl) (by kernel_rfl) (by kernel_rfl) rfl rfl rfl hs153 (fun w' hw' => op_assign ha155 rfl rfl) ?_
   intro a156 ha156; clear ha155 a155
   refine dr_val (i := 20) ha156 rfl (by kernel_rfl) (by kernel_rfl) (by kernel_rfl) rfl rfl rfl hs153 (fun w' hw' => op_assign ha156 rfl rfl) ?_
   intro a157 ha157; clear ha156 a156
   refine dr_end (by kernel_rfl) ?_
   replace hf101 := hf101.ext hs153
   replace hf99 := hf99.ext hs153
   replace hf100 := hf100.ext hs153
   replace hc121 := hc121.ext hs153
   refine then_n ?_
   refine wp_seq ?_
   refine wp_block ?_
   refine wp_seq ?_
   refine wp_region_lit ?_
   refine wl_val ha157 rfl rfl rfl (op_move ha157 rfl rfl) ?_
   intro a158 ha158; clear ha157 a157
   refine wl_val ha158 rfl rfl rfl (op_move ha158 rfl rfl) ?_
   intro a159 ha159; clear ha158 a158
   refine wl_val ha159 rfl rfl rfl (op_eql ha159 rfl rfl rfl) ?_
   intro a160 ha160; clear ha159 a159
   refine wl_val ha160 rfl rfl rfl (op_move ha160 rfl rfl) ?_
   intro a161 ha161; clear ha160 a160
   by_cases c162 : (valV x117 x9.2 : Int) = (valV x117 x24.2 : Int)
   ·
    rw [decide_eq_true c162] at ha161
    refine wl_skip ha161 rfl rfl rfl ?_
    intro a163 ha163; clear ha161 a161
    refine wl_skip ha163 rfl rfl rfl ?_
    intro a164 ha164; clear ha163 a163
    refine wl_skip ha164 rfl rfl rfl ?_
    intro a165 ha165; clear ha164 a164
    refine wl_val ha165 rfl rfl rfl (op_pick_t ha165 rfl rfl rfl) ?_
    intro a166 ha166; clear ha165 a165
    refine wl_val ha166 rfl rfl rfl (op_assign ha166 rfl rfl) ?_
    intro a167 ha167; clear ha166 a166
    refine wpList_nil ?_
    refine then_n ?_
    refine cond_t ha167 rfl ?_
    refine wp_skip ?_
    refine block_n ?_
    refine then_n ?_
    refine wp_seq ?_
    refine wp_region_lit ?_
    refine wl_val ha167 rfl rfl rfl (op_move ha167 rfl rfl) ?_
    intro a168 ha168; clear ha167 a167
    refine wl_val ha168 rfl rfl rfl ((op_neq ha168 rfl rfl rfl).to (congrArg Value.bool decide_not)) ?_
    intro a169 ha169; clear ha168 a168
    refine wpList_nil ?_
    refine then_n ?_
    by_cases c170 : (valV x117 x9.2 : Int) = (-1 : Int)
    ·
     rw [decide_eq_true c170] at ha169
     refine cond_f ha169 rfl ?_
     refine wp_skip ?_
     refine block_n ?_
     refine then_n ?_
     refine wp_region_lit ?_
     refine wl_val ha169 rfl rfl rfl (op_move ha169 rfl rfl) ?_
     intro a171 ha171; clear ha169 a169
     refine wl_val ha171 rfl rfl rfl ((op_add ha171 rfl rfl rfl).int (IntWalk.i64_in _ (by omega))) ?_
     intro a172 ha172; clear ha171 a171
     refine wl_val ha172 rfl rfl rfl (op_assign ha172 rfl rfl) ?_
     intro a173 ha173; clear ha172 a172
     refine wpList_nil ?_
     refine round_end (x := (i, v, acc, v2, ac2)) ((i + 1), v, acc, v2, ac2) ?_ ?_
     ·
      refine ⟨(Sl.cons_ ha173 rfl rfl (Sl.cons_ ha173 rfl rfl (Sl.cons_ ha173 rfl rfl (Sl.cons_ ha173 rfl rfl (Sl.cons_ ha173 rfl rfl (Sl.cons_ ha173 rfl rfl (Sl.cons_ ha173 rfl (int_eq (by omega)) (Sl.nil_ ha173)))))))), hx154, hf101, (hf99.fin (by omega) (by omega) (by omega)), (hf100.fin (by omega) (by omega) (by omega)), (by omega), (by intro q hq; first | (intro hb; have hq0 := hf100.lt q hq; have hq1 := hf101.lt q hb; omega) | exact hsp102 q hq), (by omega), (by exact hK), (by exact hK2), (by first | omega | (simp; omega)), (by first | omega | (simp; omega)), (by rw [hlex9, hlex24, hlex47] at hF; have hc : mgc (valV x117 x9.2) (valV x117 x24.2) (valV x117 x47.2) = false := (by simp [mgc, c162]); have hv : mgv (valV x117 x9.2) (valV x117 x24.2) (valV x117 x47.2) = (valV x117 x9.2) := (by simp [mgv, c162]); rw [drop_cons hx117, mgL, if_neg (by rw [hc]; decide), if_pos (hv.trans c170)] at hF; rw [hlex9, hlex24, hlex47]; exact hF), (by rw [hlex9, hlex24, hlex47] at hG; have hc : mgc (valV x117 x9.2) (valV x117 x24.2) (valV x117 x47.2) = false := (by simp [mgc, c162]); have hv : mgv (valV x117 x9.2) (valV x117 x24.2) (valV x117 x47.2) = (valV x117 x9.2) := (by simp [mgv, c162]); rw [drop_cons hx117, mgC, if_neg (by rw [hc]; decide)] at hG; rw [hlex9, hlex24, hlex47]; exact hG)⟩
     ·show ((allK ((([((x9.2 : List (Str × Int)), (v16 : Value)), ((x24.2 : List (Str × Int)), (v31 : Value)), ((x47.2 : List (Str × Int)), (v54 : Value))]).map (·.1)))).length - ((i + 1)) : Nat) < (allK ((([((x9.2 : List (Str × Int)), (v16 : Value)), ((x24.2 : List (Str × Int)), (v31 : Value)), ((x47.2 : List (Str × Int)), (v54 : Value))]).map (·.1)))).length - i; omega
    ·
     rw [decide_eq_false c170] at ha169
     refine cond_t ha169 rfl ?_
     refine wp_region_lit ?_
     refine wl_val ha169 rfl rfl rfl (op_move ha169 rfl rfl) ?_
     intro a174 ha174; clear ha169 a169
     refine wl_val ha174 rfl rfl rfl (op_move ha174 rfl rfl) ?_
     intro a175 ha175; clear ha174 a174
     refine wl_val ha175 rfl rfl rfl (op_move ha175 rfl rfl) ?_
     intro a176 ha176; clear ha175 a175
     refine wl_val ha176 rfl rfl rfl (op_indexAddr ha176 rfl Try.underlying24 ti9 rfl rfl (by omega) hi120) ?_
     intro a177 ha177; clear ha176 a176
     refine wl_val ha177 rfl rfl rfl (op_loadH ha177 rfl Try.underlying9 rfl rfl hc121 rfl) ?_
     intro a178 ha178; clear ha177 a177
     refine wl_val ha178 rfl rfl rfl (op_move ha178 rfl rfl) ?_
     intro a179 ha179; clear ha178 a178
     refine wl_val ha179 rfl rfl rfl (op_build (vs := [(0, St x117), (1, .int .i64 (valV x117 x9.2 : Int))]) (cs := #[St x117, .int .i64 (valV x117 x9.2 : Int)]) ha179 rfl Try.underlying83 ti83 bp83 rfl rfl) ?_
     intro a180 ha180; clear ha179 a179
     refine wl_eff ha180 rfl rfl rfl (op_buildSlice (s := shLine) (xs := [(x117, (valV x117 x9.2 : Int))]) (cs := [St x117, .int .i64 (valV x117 x9.2 : Int)]) (vs := [(0, .agg #[St x117, .int .i64 (valV x117 x9.2 : Int)])]) (S := fun _ => False) (le := w150.heap.size) ha180 rfl pos_shLine Try.underlying34 ti83 rfl rfl (by decide) (by kernel_rfl) (Els.single (mk_shLine ((x117, (valV x117 x9.2 : Int))) (by first | assumption | omega | exact valI (by assumption) | (simp; done)) (by first | assumption | omega | exact valI (by assumption) | (simp; done)))) (fun _ h => h.elim)) ?_
     rintro v181 w182 ⟨ho183, he184, hob185⟩ a186 ha186; clear ha180 a180
     have hx187 := hx154.trans' he184
     have hzhx187 := he184.size
     replace hf101 := hf101.ext he184
     replace hf99 := hf99.ext he184
     replace hf100 := hf100.ext he184
     replace hc121 := hc121.ext he184
     refine wl_eff ha186 rfl rfl rfl (op_append (ts := #[]) (s := shLine) ha186 rfl Try.underlying34 ti83 rfl pos_shLine rfl rfl hf99 (ho183.rds pos_shLine) (by omega) (by omega) (by first | omega | (simp; omega)) (by first | omega | (simp; omega)) (.inl flat_shLine)) ?_
     rintro v188 w189 ⟨ho190, hst191, hob192⟩ a193 ha193; clear ha186 a186
     have hx194 := hx187.stp hst191 (by intro q hq; have hq0 := hf99.lt q hq; omega)
     have hzhx194 := hst191.size
     first | replace hf101 := hf101.stp hst191 (by intro q hq; have hq0 := hf99.lt q hq; omega) | replace hf101 := hf101.stpF flat_shStr hst191 (hf101.ne hf99 rfl)
     first | replace hf100 := hf100.stp hst191 (by intro q hq; have hq0 := hf99.lt q hq; omega) | replace hf100 := hf100.stpF flat_shStr hst191 (hf100.ne hf99 rfl)
     replace ho183 := ho183.stp hst191 (by intro q hq; have hq0 := hf99.lt q hq; omega)
     have hsp195 : ∀ q, Value.ownBlock v188 = some q → Value.ownBlock v181 ≠ some q := by intro q hq hb; have hq0 := ho183.lt q hb; rcases hob192 with h | h; (rw [h] at hq; first | (have hq1 := hf99.lt q hq; omega)); (rw [h] at hq; cases hq; omega)
     refine wl_val ha193 rfl rfl rfl (op_assign ha193 rfl rfl) ?_
     intro a196 ha196; clear ha193 a193
     refine wpList_nil ?_
     refine block_n ?_
     refine then_n ?_
     refine wp_region_lit ?_
     refine wl_val ha196 rfl rfl rfl (op_move ha196 rfl rfl) ?_
     intro a197 ha197; clear ha196 a196
     refine wl_val ha197 rfl rfl rfl ((op_add ha197 rfl rfl rfl).int (IntWalk.i64_in _ (by omega))) ?_
     intro a198 ha198; clear ha197 a197
     refine wl_val ha198 rfl rfl rfl (op_assign ha198 rfl rfl) ?_
     intro a199 ha199; clear ha198 a198
     refine wpList_nil ?_
     refine round_end (x := (i, v, acc, v2, ac2)) ((i + 1), v188, (acc ++ [(x117, (valV x117 x9.2 : Int))]), v2, ac2) ?_ ?_
     ·
      refine ⟨(Sl.cons_ ha199 rfl rfl (Sl.cons_ ha199 rfl rfl (Sl.cons_ ha199 rfl rfl (Sl.cons_ ha199 rfl rfl (Sl.cons_ ha199 rfl rfl (Sl.cons_ ha199 rfl rfl (Sl.cons_ ha199 rfl (int_eq (by omega)) (Sl.nil_ ha199)))))))), hx194, hf101, (ho190.fin (by omega) (by omega) (by omega)), (hf100.fin (by omega) (by omega) (by omega)), (by omega), (by intro q hq; first | (intro hb; have hq0 := hf100.lt q hq; have hq1 := hf101.lt q hb; omega) | exact hsp102 q hq), (by omega), (by exact hK), (by exact hK2), (by first | omega | (simp; omega)), (by first | omega | (simp; omega)), (by rw [hlex9, hlex24, hlex47] at hF; have hc : mgc (valV x117 x9.2) (valV x117 x24.2) (valV x117 x47.2) = false := (by simp [mgc, c162]); have hv : mgv (valV x117 x9.2) (valV x117 x24.2) (valV x117 x47.2) = (valV x117 x9.2) := (by simp [mgv, c162]); rw [drop_cons hx117, mgL, if_neg (by rw [hc]; decide), if_neg (fun e => c170 (hv.symm.trans e)), hv] at hF; rw [hlex9, hlex24, hlex47, List.append_assoc]; exact hF), (by rw [hlex9, hlex24, hlex47] at hG; have hc : mgc (valV x117 x9.2) (valV x117 x24.2) (valV x117 x47.2) = false := (by simp [mgc, c162]); have hv : mgv (valV x117 x9.2) (valV x117 x24.2) (valV x117 x47.2) = (valV x117 x9.2) := (by simp [mgv, c162]); rw [drop_cons hx117, mgC, if_neg (by rw [hc]; decide)] at hG; rw [hlex9, hlex24, hlex47]; exact hG)⟩
     ·show ((allK ((([((x9.2 : List (Str × Int)), (v16 : Value)), ((x24.2 : List (Str × Int)), (v31 : Value)), ((x47.2 : List (Str × Int)), (v54 : Value))]).map (·.1)))).length - ((i + 1)) : Nat) < (allK ((([((x9.2 : List (Str × Int)), (v16 : Value)), ((x24.2 : List (Str × Int)), (v31 : Value)), ((x47.2 : List (Str × Int)), (v54 : Value))]).map (·.1)))).length - i; omega
   ·
    rw [decide_eq_false c162] at ha161
    refine wl_val ha161 rfl rfl rfl (op_move ha161 rfl rfl) ?_
    intro a200 ha200; clear ha161 a161
    refine wl_val ha200 rfl rfl rfl (op_move ha200 rfl rfl) ?_
    intro a201 ha201; clear ha200 a200
    refine wl_val ha201 rfl rfl rfl (op_eql ha201 rfl rfl rfl) ?_
    intro a202 ha202; clear ha201 a201
    refine wl_val ha202 rfl rfl rfl (op_pick_f ha202 rfl rfl rfl) ?_
    intro a203 ha203; clear ha202 a202
    refine wl_val ha203 rfl rfl rfl (op_assign ha203 rfl rfl) ?_
    intro a204 ha204; clear ha203 a203
    refine wpList_nil ?_
    refine then_n ?_
    by_cases c205 : (valV x117 x24.2 : Int) = (valV x117 x47.2 : Int)
    ·
     rw [decide_eq_true c205] at ha204
     refine cond_t ha204 rfl ?_
     refine wp_skip ?_
     refine block_n ?_
     refine then_n ?_
     refine wp_seq ?_
     refine wp_region_lit ?_
     refine wl_val ha204 rfl rfl rfl (op_move ha204 rfl rfl) ?_
     intro a206 ha206; clear ha204 a204
     refine wl_val ha206 rfl rfl rfl ((op_neq ha206 rfl rfl rfl).to (congrArg Value.bool decide_not)) ?_
     intro a207 ha207; clear ha206 a206
     refine wpList_nil ?_
     refine then_n ?_
     by_cases c208 : (valV x117 x9.2 : Int) = (-1 : Int)
     ·
      rw [decide_eq_true c208] at ha207
      refine cond_f ha207 rfl ?_
      refine wp_skip ?_
      refine block_n ?_
      refine then_n ?_
      refine wp_region_lit ?_
      refine wl_val ha207 rfl rfl rfl (op_move ha207 rfl rfl) ?_
      intro a209 ha209; clear ha207 a207
      refine wl_val ha209 rfl rfl rfl ((op_add ha209 rfl rfl rfl).int (IntWalk.i64_in _ (by omega))) ?_
      intro a210 ha210; clear ha209 a209
      refine wl_val ha210 rfl rfl rfl (op_assign ha210 rfl rfl) ?_
      intro a211 ha211; clear ha210 a210
      refine wpList_nil ?_
      refine round_end (x := (i, v, acc, v2, ac2)) ((i + 1), v, acc, v2, ac2) ?_ ?_
      ·
       refine ⟨(Sl.cons_ ha211 rfl rfl (Sl.cons_ ha211 rfl rfl (Sl.cons_ ha211 rfl rfl (Sl.cons_ ha211 rfl rfl (Sl.cons_ ha211 rfl rfl (Sl.cons_ ha211 rfl rfl (Sl.cons_ ha211 rfl (int_eq (by omega)) (Sl.nil_ ha211)))))))), hx154, hf101, (hf99.fin (by omega) (by omega) (by omega)), (hf100.fin (by omega) (by omega) (by omega)), (by omega), (by intro q hq; first | (intro hb; have hq0 := hf100.lt q hq; have hq1 := hf101.lt q hb; omega) | exact hsp102 q hq), (by omega), (by exact hK), (by exact hK2), (by first | omega | (simp; omega)), (by first | omega | (simp; omega)), (by rw [hlex9, hlex24, hlex47] at hF; have hc : mgc (valV x117 x9.2) (valV x117 x24.2) (valV x117 x47.2) = false := (by simp [mgc, c162, c205]); have hv : mgv (valV x117 x9.2) (valV x117 x24.2) (valV x117 x47.2) = (valV x117 x9.2) := (by simp [mgv, c162, c205]); rw [drop_cons hx117, mgL, if_neg (by rw [hc]; decide), if_pos (hv.trans c208)] at hF; rw [hlex9, hlex24, hlex47]; exact hF), (by rw [hlex9, hlex24, hlex47] at hG; have hc : mgc (valV x117 x9.2) (valV x117 x24.2) (valV x117 x47.2) = false := (by simp [mgc, c162, c205]); have hv : mgv (valV x117 x9.2) (valV x117 x24.2) (valV x117 x47.2) = (valV x117 x9.2) := (by simp [mgv, c162, c205]); rw [drop_cons hx117, mgC, if_neg (by rw [hc]; decide)] at hG; rw [hlex9, hlex24, hlex47]; exact hG)⟩
      ·show ((allK ((([((x9.2 : List (Str × Int)), (v16 : Value)), ((x24.2 : List (Str × Int)), (v31 : Value)), ((x47.2 : List (Str × Int)), (v54 : Value))]).map (·.1)))).length - ((i + 1)) : Nat) < (allK ((([((x9.2 : List (Str × Int)), (v16 : Value)), ((x24.2 : List (Str × Int)), (v31 : Value)), ((x47.2 : List (Str × Int)), (v54 : Value))]).map (·.1)))).length - i; omega
     ·
      rw [decide_eq_false c208] at ha207
      refine cond_t ha207 rfl ?_
      refine wp_region_lit ?_
      refine wl_val ha207 rfl rfl rfl (op_move ha207 rfl rfl) ?_
      intro a212 ha212; clear ha207 a207
      refine wl_val ha212 rfl rfl rfl (op_move ha212 rfl rfl) ?_
      intro a213 ha213; clear ha212 a212
      refine wl_val ha213 rfl rfl rfl (op_move ha213 rfl rfl) ?_
      intro a214 ha214; clear ha213 a213
      refine wl_val ha214 rfl rfl rfl (op_indexAddr ha214 rfl Try.underlying24 ti9 rfl rfl (by omega) hi120) ?_
      intro a215 ha215; clear ha214 a214
      refine wl_val ha215 rfl rfl rfl (op_loadH ha215 rfl Try.underlying9 rfl rfl hc121 rfl) ?_
      intro a216 ha216; clear ha215 a215
      refine wl_val ha216 rfl rfl rfl (op_move ha216 rfl rfl) ?_
      intro a217 ha217; clear ha216 a216
      refine wl_val ha217 rfl rfl rfl (op_build (vs := [(0, St x117), (1, .int .i64 (valV x117 x9.2 : Int))]) (cs := #[St x117, .int .i64 (valV x117 x9.2 : Int)]) ha217 rfl Try.underlying83 ti83 bp83 rfl rfl) ?_
      intro a218 ha218; clear ha217 a217
      refine wl_eff ha218 rfl rfl rfl (op_buildSlice (s := shLine) (xs := [(x117, (valV x117 x9.2 : Int))]) (cs := [St x117, .int .i64 (valV x117 x9.2 : Int)]) (vs := [(0, .agg #[St x117, .int .i64 (valV x117 x9.2 : Int)])]) (S := fun _ => False) (le := w150.heap.size) ha218 rfl pos_shLine Try.underlying34 ti83 rfl rfl (by decide) (by kernel_rfl) (Els.single (mk_shLine ((x117, (valV x117 x9.2 : Int))) (by first | assumption | omega | exact valI (by assumption) | (simp; done)) (by first | assumption | omega | exact valI (by assumption) | (simp; done)))) (fun _ h => h.elim)) ?_
      rintro v219 w220 ⟨ho221, he222, hob223⟩ a224 ha224; clear ha218 a218
      have hx225 := hx154.trans' he222
      have hzhx225 := he222.size
      replace hf101 := hf101.ext he222
      replace hf99 := hf99.ext he222
      replace hf100 := hf100.ext he222
      replace hc121 := hc121.ext he222
      refine wl_eff ha224 rfl rfl rfl (op_append (ts := #[]) (s := shLine) ha224 rfl Try.underlying34 ti83 rfl pos_shLine rfl rfl hf99 (ho221.rds pos_shLine) (by omega) (by omega) (by first | omega | (simp; omega)) (by first | omega | (simp; omega)) (.inl flat_shLine)) ?_
      rintro v226 w227 ⟨ho228, hst229, hob230⟩ a231 ha231; clear ha224 a224
      have hx232 := hx225.stp hst229 (by intro q hq; have hq0 := hf99.lt q hq; omega)
      have hzhx232 := hst229.size
      first | replace hf101 := hf101.stp hst229 (by intro q hq; have hq0 := hf99.lt q hq; omega) | replace hf101 := hf101.stpF flat_shStr hst229 (hf101.ne hf99 rfl)
      first | replace hf100 := hf100.stp hst229 (by intro q hq; have hq0 := hf99.lt q hq; omega) | replace hf100 := hf100.stpF flat_shStr hst229 (hf100.ne hf99 rfl)
      replace ho221 := ho221.stp hst229 (by intro q hq; have hq0 := hf99.lt q hq; omega)
      have hsp233 : ∀ q, Value.ownBlock v226 = some q → Value.ownBlock v219 ≠ some q := by intro q hq hb; have hq0 := ho221.lt q hb; rcases hob230 with h | h; (rw [h] at hq; first | (have hq1 := hf99.lt q hq; omega)); (rw [h] at hq; cases hq; omega)
      refine wl_val ha231 rfl rfl rfl (op_assign ha231 rfl rfl) ?_
      intro a234 ha234; clear ha231 a231
      refine wpList_nil ?_
      refine block_n ?_
      refine then_n ?_
      refine wp_region_lit ?_
      refine wl_val ha234 rfl rfl rfl (op_move ha234 rfl rfl) ?_
      intro a235 ha235; clear ha234 a234
      refine wl_val ha235 rfl rfl rfl ((op_add ha235 rfl rfl rfl).int (IntWalk.i64_in _ (by omega))) ?_
      intro a236 ha236; clear ha235 a235
      refine wl_val ha236 rfl rfl rfl (op_assign ha236 rfl rfl) ?_
      intro a237 ha237; clear ha236 a236
      refine wpList_nil ?_
      refine round_end (x := (i, v, acc, v2, ac2)) ((i + 1), v226, (acc ++ [(x117, (valV x117 x9.2 : Int))]), v2, ac2) ?_ ?_
      ·
       refine ⟨(Sl.cons_ ha237 rfl rfl (Sl.cons_ ha237 rfl rfl (Sl.cons_ ha237 rfl rfl (Sl.cons_ ha237 rfl rfl (Sl.cons_ ha237 rfl rfl (Sl.cons_ ha237 rfl rfl (Sl.cons_ ha237 rfl (int_eq (by omega)) (Sl.nil_ ha237)))))))), hx232, hf101, (ho228.fin (by omega) (by omega) (by omega)), (hf100.fin (by omega) (by omega) (by omega)), (by omega), (by intro q hq; first | (intro hb; have hq0 := hf100.lt q hq; have hq1 := hf101.lt q hb; omega) | exact hsp102 q hq), (by omega), (by exact hK), (by exact hK2), (by first | omega | (simp; omega)), (by first | omega | (simp; omega)), (by rw [hlex9, hlex24, hlex47] at hF; have hc : mgc (valV x117 x9.2) (valV x117 x24.2) (valV x117 x47.2) = false := (by simp [mgc, c162, c205]); have hv : mgv (valV x117 x9.2) (valV x117 x24.2) (valV x117 x47.2) = (valV x117 x9.2) := (by simp [mgv, c162, c205]); rw [drop_cons hx117, mgL, if_neg (by rw [hc]; decide), if_neg (fun e => c208 (hv.symm.trans e)), hv] at hF; rw [hlex9, hlex24, hlex47, List.append_assoc]; exact hF), (by rw [hlex9, hlex24, hlex47] at hG; have hc : mgc (valV x117 x9.2) (valV x117 x24.2) (valV x117 x47.2) = false := (by simp [mgc, c162, c205]); have hv : mgv (valV x117 x9.2) (valV x117 x24.2) (valV x117 x47.2) = (valV x117 x9.2) := (by simp [mgv, c162, c205]); rw [drop_cons hx117, mgC, if_neg (by rw [hc]; decide)] at hG; rw [hlex9, hlex24, hlex47]; exact hG)⟩
      ·show ((allK ((([((x9.2 : List (Str × Int)), (v16 : Value)), ((x24.2 : List (Str × Int)), (v31 : Value)), ((x47.2 : List (Str × Int)), (v54 : Value))]).map (·.1)))).length - ((i + 1)) : Nat) < (allK ((([((x9.2 : List (Str × Int)), (v16 : Value)), ((x24.2 : List (Str × Int)), (v31 : Value)), ((x47.2 : List (Str × Int)), (v54 : Value))]).map (·.1)))).length - i; omega
    ·
     rw [decide_eq_false c205] at ha204
     refine cond_f ha204 rfl ?_
     refine wp_seq ?_
     refine wp_region_lit ?_
     refine wl_val ha204 rfl rfl rfl (op_move ha204 rfl rfl) ?_
     intro a238 ha238; clear ha204 a204
     refine wl_val ha238 rfl rfl rfl (op_move ha238 rfl rfl) ?_
     intro a239 ha239; clear ha238 a238
     refine wl_val ha239 rfl rfl rfl (op_eql ha239 rfl rfl rfl) ?_
     intro a240 ha240; clear ha239 a239
     refine wl_val ha240 rfl rfl rfl (op_assign ha240 rfl rfl) ?_
     intro a241 ha241; clear ha240 a240
     refine wpList_nil ?_
     refine then_n ?_
     by_cases c242 : (valV x117 x9.2 : Int) = (valV x117 x47.2 : Int)
     ·
      rw [decide_eq_true c242] at ha241
      refine cond_t ha241 rfl ?_
      refine wp_region_lit ?_
      refine wl_val ha241 rfl rfl rfl (op_move ha241 rfl rfl) ?_
      intro a243 ha243; clear ha241 a241
      refine wl_val ha243 rfl rfl rfl (op_assign ha243 rfl rfl) ?_
      intro a244 ha244; clear ha243 a243
      refine wpList_nil ?_
      refine block_n ?_
      refine then_n ?_
      refine wp_seq ?_
      refine wp_region_lit ?_
      refine wl_val ha244 rfl rfl rfl (op_move ha244 rfl rfl) ?_
      intro a245 ha245; clear ha244 a244
      refine wl_val ha245 rfl rfl rfl ((op_neq ha245 rfl rfl rfl).to (congrArg Value.bool decide_not)) ?_
      intro a246 ha246; clear ha245 a245
      refine wpList_nil ?_
      refine then_n ?_
      by_cases c247 : (valV x117 x24.2 : Int) = (-1 : Int)
      ·
       rw [decide_eq_true c247] at ha246
       refine cond_f ha246 rfl ?_
       refine wp_skip ?_
       refine block_n ?_
       refine then_n ?_
       refine wp_region_lit ?_
       refine wl_val ha246 rfl rfl rfl (op_move ha246 rfl rfl) ?_
       intro a248 ha248; clear ha246 a246
       refine wl_val ha248 rfl rfl rfl ((op_add ha248 rfl rfl rfl).int (IntWalk.i64_in _ (by omega))) ?_
       intro a249 ha249; clear ha248 a248
       refine wl_val ha249 rfl rfl rfl (op_assign ha249 rfl rfl) ?_
       intro a250 ha250; clear ha249 a249
       refine wpList_nil ?_
       refine round_end (x := (i, v, acc, v2, ac2)) ((i + 1), v, acc, v2, ac2) ?_ ?_
       ·
        refine ⟨(Sl.cons_ ha250 rfl rfl (Sl.cons_ ha250 rfl rfl (Sl.cons_ ha250 rfl rfl (Sl.cons_ ha250 rfl rfl (Sl.cons_ ha250 rfl rfl (Sl.cons_ ha250 rfl rfl (Sl.cons_ ha250 rfl (int_eq (by omega)) (Sl.nil_ ha250)))))))), hx154, hf101, (hf99.fin (by omega) (by omega) (by omega)), (hf100.fin (by omega) (by omega) (by omega)), (by omega), (by intro q hq; first | (intro hb; have hq0 := hf100.lt q hq; have hq1 := hf101.lt q hb; omega) | exact hsp102 q hq), (by omega), (by exact hK), (by exact hK2), (by first | omega | (simp; omega)), (by first | omega | (simp; omega)), (by rw [hlex9, hlex24, hlex47] at hF; have hc : mgc (valV x117 x9.2) (valV x117 x24.2) (valV x117 x47.2) = false := (by simp [mgc, c162, c205, c242]); have hv : mgv (valV x117 x9.2) (valV x117 x24.2) (valV x117 x47.2) = (valV x117 x24.2) := (by simp [mgv, c162, c205, c242]); rw [drop_cons hx117, mgL, if_neg (by rw [hc]; decide), if_pos (hv.trans c247)] at hF; rw [hlex9, hlex24, hlex47]; exact hF), (by rw [hlex9, hlex24, hlex47] at hG; have hc : mgc (valV x117 x9.2) (valV x117 x24.2) (valV x117 x47.2) = false := (by simp [mgc, c162, c205, c242]); have hv : mgv (valV x117 x9.2) (valV x117 x24.2) (valV x117 x47.2) = (valV x117 x24.2) := (by simp [mgv, c162, c205, c242]); rw [drop_cons hx117, mgC, if_neg (by rw [hc]; decide)] at hG; rw [hlex9, hlex24, hlex47]; exact hG)⟩
       ·show ((allK ((([((x9.2 : List (Str × Int)), (v16 : Value)), ((x24.2 : List (Str × Int)), (v31 : Value)), ((x47.2 : List (Str × Int)), (v54 : Value))]).map (·.1)))).length - ((i + 1)) : Nat) < (allK ((([((x9.2 : List (Str × Int)), (v16 : Value)), ((x24.2 : List (Str × Int)), (v31 : Value)), ((x47.2 : List (Str × Int)), (v54 : Value))]).map (·.1)))).length - i; omega
      ·
       rw [decide_eq_false c247] at ha246
       refine cond_t ha246 rfl ?_
       refine wp_region_lit ?_
       refine wl_val ha246 rfl rfl rfl (op_move ha246 rfl rfl) ?_
       intro a251 ha251; clear ha246 a246
       refine wl_val ha251 rfl rfl rfl (op_move ha251 rfl rfl) ?_
       intro a252 ha252; clear ha251 a251
       refine wl_val ha252 rfl rfl rfl (op_move ha252 rfl rfl) ?_
       intro a253 ha253; clear ha252 a252
       refine wl_val ha253 rfl rfl rfl (op_indexAddr ha253 rfl Try.underlying24 ti9 rfl rfl (by omega) hi120) ?_
       intro a254 ha254; clear ha253 a253
       refine wl_val ha254 rfl rfl rfl (op_loadH ha254 rfl Try.underlying9 rfl rfl hc121 rfl) ?_
       intro a255 ha255; clear ha254 a254
       refine wl_val ha255 rfl rfl rfl (op_move ha255 rfl rfl) ?_
       intro a256 ha256; clear ha255 a255
       refine wl_val ha256 rfl rfl rfl (op_build (vs := [(0, St x117), (1, .int .i64 (valV x117 x24.2 : Int))]) (cs := #[St x117, .int .i64 (valV x117 x24.2 : Int)]) ha256 rfl Try.underlying83 ti83 bp83 rfl rfl) ?_
       intro a257 ha257; clear ha256 a256
       refine wl_eff ha257 rfl rfl rfl (op_buildSlice (s := shLine) (xs := [(x117, (valV x117 x24.2 : Int))]) (cs := [St x117, .int .i64 (valV x117 x24.2 : Int)]) (vs := [(0, .agg #[St x117, .int .i64 (valV x117 x24.2 : Int)])]) (S := fun _ => False) (le := w150.heap.size) ha257 rfl pos_shLine Try.underlying34 ti83 rfl rfl (by decide) (by kernel_rfl) (Els.single (mk_shLine ((x117, (valV x117 x24.2 : Int))) (by first | assumption | omega | exact valI (by assumption) | (simp; done)) (by first | assumption | omega | exact valI (by assumption) | (simp; done)))) (fun _ h => h.elim)) ?_
       rintro v258 w259 ⟨ho260, he261, hob262⟩ a263 ha263; clear ha257 a257
       have hx264 := hx154.trans' he261
       have hzhx264 := he261.size
       replace hf101 := hf101.ext he261
       replace hf99 := hf99.ext he261
       replace hf100 := hf100.ext he261
       replace hc121 := hc121.ext he261
       refine wl_eff ha263 rfl rfl rfl (op_append (ts := #[]) (s := shLine) ha263 rfl Try.underlying34 ti83 rfl pos_shLine rfl rfl hf99 (ho260.rds pos_shLine) (by omega) (by omega) (by first | omega | (simp; omega)) (by first | omega | (simp; omega)) (.inl flat_shLine)) ?_
       rintro v265 w266 ⟨ho267, hst268, hob269⟩ a270 ha270; clear ha263 a263
       have hx271 := hx264.stp hst268 (by intro q hq; have hq0 := hf99.lt q hq; omega)
       have hzhx271 := hst268.size
       first | replace hf101 := hf101.stp hst268 (by intro q hq; have hq0 := hf99.lt q hq; omega) | replace hf101 := hf101.stpF flat_shStr hst268 (hf101.ne hf99 rfl)
       first | replace hf100 := hf100.stp hst268 (by intro q hq; have hq0 := hf99.lt q hq; omega) | replace hf100 := hf100.stpF flat_shStr hst268 (hf100.ne hf99 rfl)
       replace ho260 := ho260.stp hst268 (by intro q hq; have hq0 := hf99.lt q hq; omega)
       have hsp272 : ∀ q, Value.ownBlock v265 = some q → Value.ownBlock v258 ≠ some q := by intro q hq hb; have hq0 := ho260.lt q hb; rcases hob269 with h | h; (rw [h] at hq; first | (have hq1 := hf99.lt q hq; omega)); (rw [h] at hq; cases hq; omega)
       refine wl_val ha270 rfl rfl rfl (op_assign ha270 rfl rfl) ?_
       intro a273 ha273; clear ha270 a270
       refine wpList_nil ?_
       refine block_n ?_
       refine then_n ?_
       refine wp_region_lit ?_
       refine wl_val ha273 rfl rfl rfl (op_move ha273 rfl rfl) ?_
       intro a274 ha274; clear ha273 a273
       refine wl_val ha274 rfl rfl rfl ((op_add ha274 rfl rfl rfl).int (IntWalk.i64_in _ (by omega))) ?_
       intro a275 ha275; clear ha274 a274
       refine wl_val ha275 rfl rfl rfl (op_assign ha275 rfl rfl) ?_
       intro a276 ha276; clear ha275 a275
       refine wpList_nil ?_
       refine round_end (x := (i, v, acc, v2, ac2)) ((i + 1), v265, (acc ++ [(x117, (valV x117 x24.2 : Int))]), v2, ac2) ?_ ?_
       ·
        refine ⟨(Sl.cons_ ha276 rfl rfl (Sl.cons_ ha276 rfl rfl (Sl.cons_ ha276 rfl rfl (Sl.cons_ ha276 rfl rfl (Sl.cons_ ha276 rfl rfl (Sl.cons_ ha276 rfl rfl (Sl.cons_ ha276 rfl (int_eq (by omega)) (Sl.nil_ ha276)))))))), hx271, hf101, (ho267.fin (by omega) (by omega) (by omega)), (hf100.fin (by omega) (by omega) (by omega)), (by omega), (by intro q hq; first | (intro hb; have hq0 := hf100.lt q hq; have hq1 := hf101.lt q hb; omega) | exact hsp102 q hq), (by omega), (by exact hK), (by exact hK2), (by first | omega | (simp; omega)), (by first | omega | (simp; omega)), (by rw [hlex9, hlex24, hlex47] at hF; have hc : mgc (valV x117 x9.2) (valV x117 x24.2) (valV x117 x47.2) = false := (by simp [mgc, c162, c205, c242]); have hv : mgv (valV x117 x9.2) (valV x117 x24.2) (valV x117 x47.2) = (valV x117 x24.2) := (by simp [mgv, c162, c205, c242]); rw [drop_cons hx117, mgL, if_neg (by rw [hc]; decide), if_neg (fun e => c247 (hv.symm.trans e)), hv] at hF; rw [hlex9, hlex24, hlex47, List.append_assoc]; exact hF), (by rw [hlex9, hlex24, hlex47] at hG; have hc : mgc (valV x117 x9.2) (valV x117 x24.2) (valV x117 x47.2) = false := (by simp [mgc, c162, c205, c242]); have hv : mgv (valV x117 x9.2) (valV x117 x24.2) (valV x117 x47.2) = (valV x117 x24.2) := (by simp [mgv, c162, c205, c242]); rw [drop_cons hx117, mgC, if_neg (by rw [hc]; decide)] at hG; rw [hlex9, hlex24, hlex47]; exact hG)⟩
       ·show ((allK ((([((x9.2 : List (Str × Int)), (v16 : Value)), ((x24.2 : List (Str × Int)), (v31 : Value)), ((x47.2 : List (Str × Int)), (v54 : Value))]).map (·.1)))).length - ((i + 1)) : Nat) < (allK ((([((x9.2 : List (Str × Int)), (v16 : Value)), ((x24.2 : List (Str × Int)), (v31 : Value)), ((x47.2 : List (Str × Int)), (v54 : Value))]).map (·.1)))).length - i; omega
     ·
      rw [decide_eq_false c242] at ha241
      refine cond_f ha241 rfl ?_
      refine wp_seq ?_
      refine wp_region_lit ?_
      refine wl_val ha241 rfl rfl rfl (op_move ha241 rfl rfl) ?_
      intro a277 ha277; clear ha241 a241
      refine wl_val ha277 rfl rfl rfl (op_move ha277 rfl rfl) ?_
      intro a278 ha278; clear ha277 a277
      refine wl_val ha278 rfl rfl rfl (op_move ha278 rfl rfl) ?_
      intro a279 ha279; clear ha278 a278
      refine wl_val ha279 rfl rfl rfl (op_indexAddr ha279 rfl Try.underlying24 ti9 rfl rfl (by omega) hi120) ?_
      intro a280 ha280; clear ha279 a279
      refine wl_val ha280 rfl rfl rfl (op_loadH ha280 rfl Try.underlying9 rfl rfl hc121 rfl) ?_
      intro a281 ha281; clear ha280 a280
      refine wl_eff ha281 rfl rfl rfl (op_buildSlice (s := shStr) (xs := [x117]) (cs := [St x117]) (vs := [(0, St x117)]) (S := fun _ => False) (le := w150.heap.size) ha281 rfl pos_shStr Try.underlying24 ti9 rfl rfl (by decide) (by kernel_rfl) (Els.single (mk_shStr x117 (by first | assumption | omega | exact valI (by assumption) | (simp; done)))) (fun _ h => h.elim)) ?_
      rintro v282 w283 ⟨ho284, he285, hob286⟩ a287 ha287; clear ha281 a281
      have hx288 := hx154.trans' he285
      have hzhx288 := he285.size
      replace hf101 := hf101.ext he285
      replace hf99 := hf99.ext he285
      replace hf100 := hf100.ext he285
      replace hc121 := hc121.ext he285
      refine wl_eff ha287 rfl rfl rfl (op_append (ts := #[]) (s := shStr) ha287 rfl Try.underlying24 ti9 rfl pos_shStr rfl rfl hf100 (ho284.rds pos_shStr) (by omega) (by omega) (by first | omega | (simp; omega)) (by first | omega | (simp; omega)) (.inl flat_shStr)) ?_
      rintro v289 w290 ⟨ho291, hst292, hob293⟩ a294 ha294; clear ha287 a287
      have hx295 := hx288.stp hst292 (by intro q hq; have hq0 := hf100.lt q hq; omega)
      have hzhx295 := hst292.size
      first | replace hf101 := hf101.stp hst292 (by intro q hq; have hq0 := hf100.lt q hq; omega) | replace hf101 := hf101.stpF flat_shStr hst292 (fun q hq => hsp102 q hq)
      first | replace hf99 := hf99.stp hst292 (by intro q hq; have hq0 := hf100.lt q hq; omega) | replace hf99 := hf99.stpF flat_shLine hst292 (hf99.ne hf100 rfl)
      replace ho284 := ho284.stp hst292 (by intro q hq; have hq0 := hf100.lt q hq; omega)
      have hsp296 : ∀ q, Value.ownBlock v289 = some q → Value.ownBlock v89 ≠ some q := by intro q hq hb; have hq0 := hf101.lt q hb; rcases hob293 with h | h; (rw [h] at hq; first | (have hq1 := hf100.lt q hq; omega) | exact hsp102 q hq hb); (rw [h] at hq; cases hq; omega)
      have hsp297 : ∀ q, Value.ownBlock v289 = some q → Value.ownBlock v282 ≠ some q := by intro q hq hb; have hq0 := ho284.lt q hb; rcases hob293 with h | h; (rw [h] at hq; first | (have hq1 := hf100.lt q hq; omega)); (rw [h] at hq; cases hq; omega)
      refine wl_val ha294 rfl rfl rfl (op_assign ha294 rfl rfl) ?_
      intro a298 ha298; clear ha294 a294
      refine wpList_nil ?_
      refine then_n ?_
      refine wp_exit ?_
      refine block_miss rfl ?_
      refine then_e ?_
      refine block_hit ?_
      refine then_n ?_
      refine wp_region_lit ?_
      refine wl_val ha298 rfl rfl rfl (op_move ha298 rfl rfl) ?_
      intro a299 ha299; clear ha298 a298
      refine wl_val ha299 rfl rfl rfl ((op_add ha299 rfl rfl rfl).int (IntWalk.i64_in _ (by omega))) ?_
      intro a300 ha300; clear ha299 a299
      refine wl_val ha300 rfl rfl rfl (op_assign ha300 rfl rfl) ?_
      intro a301 ha301; clear ha300 a300
      refine wpList_nil ?_
      refine round_end (x := (i, v, acc, v2, ac2)) ((i + 1), v, acc, v289, (ac2 ++ [x117])) ?_ ?_
      ·
       refine ⟨(Sl.cons_ ha301 rfl rfl (Sl.cons_ ha301 rfl rfl (Sl.cons_ ha301 rfl rfl (Sl.cons_ ha301 rfl rfl (Sl.cons_ ha301 rfl rfl (Sl.cons_ ha301 rfl rfl (Sl.cons_ ha301 rfl (int_eq (by omega)) (Sl.nil_ ha301)))))))), hx295, hf101, (hf99.fin (by omega) (by omega) (by omega)), (ho291.fin (by omega) (by omega) (by omega)), (by omega), (by intro q hq; first | (intro hb; have hq0 := ho291.lt q hq; have hq1 := hf101.lt q hb; omega) | exact hsp296 q hq), (by omega), (by exact hK), (by exact hK2), (by first | omega | (simp; omega)), (by first | omega | (simp; omega)), (by rw [hlex9, hlex24, hlex47] at hF; have hc : mgc (valV x117 x9.2) (valV x117 x24.2) (valV x117 x47.2) = true := (by simp [mgc, c162, c205, c242]); rw [drop_cons hx117, mgL, if_pos hc] at hF; rw [hlex9, hlex24, hlex47]; exact hF), (by rw [hlex9, hlex24, hlex47] at hG; have hc : mgc (valV x117 x9.2) (valV x117 x24.2) (valV x117 x47.2) = true := (by simp [mgc, c162, c205, c242]); rw [drop_cons hx117, mgC, if_pos hc] at hG; rw [hlex9, hlex24, hlex47, List.append_assoc]; exact hG)⟩
      ·show ((allK ((([((x9.2 : List (Str × Int)), (v16 : Value)), ((x24.2 : List (Str × Int)), (v31 : Value)), ((x47.2 : List (Str × Int)), (v54 : Value))]).map (·.1)))).length - ((i + 1)) : Nat) < (allK ((([((x9.2 : List (Str × Int)), (v16 : Value)), ((x24.2 : List (Str × Int)), (v31 : Value)), ((x47.2 : List (Str × Int)), (v54 : Value))]).map (·.1)))).length - i; omega
  ·
   rw [decide_eq_false c109] at ha108
   refine cond_f ha108 rfl ?_
   refine wp_exit ?_
   refine then_e ?_
   refine then_e ?_
   refine block_hit ?_
   refine then_n ?_
   refine wp_seq ?_
   refine wp_region_lit ?_
   refine wl_val ha108 rfl rfl rfl (op_move ha108 rfl rfl) ?_
   intro a302 ha302; clear ha108 a108
   refine wl_val ha302 rfl rfl rfl (op_move ha302 rfl rfl) ?_
   intro a303 ha303; clear ha302 a302
   refine wl_val ha303 rfl rfl rfl (op_assign ha303 rfl rfl) ?_
   intro a304 ha304; clear ha303 a303
   refine wl_val ha304 rfl rfl rfl (op_assign ha304 rfl rfl) ?_
   intro a305 ha305; clear ha304 a304
   refine wpList_nil ?_
   refine then_n ?_
   refine wp_ret ?_
   refine ret2 ha305 rfl rfl rfl ?_
   clear ha305 a305
   refine ret_mk hx98 ⟨v, v2, (tup2_eq rfl rfl), ?_, ?_⟩
   ·refine (hf99.fin (by omega) (by omega) (by omega)).cast ?_
    rw [drop_nil (by omega), mgL, List.append_nil] at hF; exact hF
   ·refine (hf100.fin (by omega) (by omega) (by omega)).cast ?_
    rw [drop_nil (by omega), mgC, List.append_nil] at hG; exact hG

theorem c_impl_MergeVersions (w0 : World) (v_list : Value) (list : List (Int × List (Str × Int))) {S_list : Nat → Prop} (ca : Int) (cb : Int) (h_list : Rds shVer S_list w0 v_list list) :
  Calls Try.prog 18 #[v_list, .int .i64 ca, .int .i64 cb] w0 (Ret w0 (fun v w1 => ∃ r0, v = .tuple #[r0, .int .i64 (mvC list ca cb)] ∧ Own shLine 83 w0.heap.size w0.heap.size w1.heap.size w1 r0 (mvL list ca cb))) := by
 refine enter (N := 32) Try.func18 rfl rfl rfl ?_
 intro a0 ha0
 have hx0 := Ext.rfl' w0
 have hl_list := h_list.length_le
 have hL24 := fun h => mgLV_len (vs := list) h ca cb
 refine wp_seq ?_
 refine wp_region_lit ?_
 refine wl_val ha0 rfl rfl rfl (op_assign ha0 rfl rfl) ?_
 intro a1 ha1; clear ha0 a0
 refine wl_val ha1 rfl rfl rfl (op_assign ha1 rfl rfl) ?_
 intro a2 ha2; clear ha1 a1
 refine wpList_nil ?_
 refine then_n ?_
 refine wp_seq ?_
 refine wp_seq ?_
 refine wp_region_lit ?_
 refine wl_val ha2 rfl rfl rfl (op_move ha2 rfl rfl) ?_
 intro a3 ha3; clear ha2 a2
 refine wl_val ha3 rfl rfl rfl (op_move ha3 rfl rfl) ?_
 intro a4 ha4; clear ha3 a3
 refine wl_val ha4 rfl rfl rfl (op_move ha4 rfl rfl) ?_
 intro a5 ha5; clear ha4 a4
 refine wl_callR ha5 rfl rfl rfl (op_call ha5 rfl cb54 rfl) (c_impl_twoVersions _ v_list list ca cb (h_list.ext pos_shVer hx0)) ?_
 rintro v6 w7 he8 rfl a9 ha9; clear ha5 a5
 have hx10 := hx0.trans' he8
 have hzhx10 := he8.size
 refine wl_val ha9 rfl rfl rfl (op_assign ha9 rfl rfl) ?_
 intro a11 ha11; clear ha9 a9
 refine wpList_nil ?_
 refine then_n ?_
 refine wp_seq ?_
 refine wp_region_lit ?_
 refine wl_val ha11 rfl rfl rfl (op_move ha11 rfl rfl) ?_
 intro a12 ha12; clear ha11 a11
 refine wl_val ha12 rfl rfl rfl ((op_neq ha12 rfl rfl rfl).to (congrArg Value.bool decide_not)) ?_
 intro a13 ha13; clear ha12 a12
 refine wpList_nil ?_
 refine then_n ?_
 by_cases c14 : (cdV list ca cb : Int) = (0 : Int)
 ·
  rw [decide_eq_true c14] at ha13
  obtain ⟨hv1, hv2, hv3⟩ := cdV_ok c14
  have hlen := veB_len hv1
  have hia := in_bd hv2
  have hib := in_bd hv3
  refine cond_f ha13 rfl ?_
  refine wp_skip ?_
  refine then_n ?_
  refine wp_seq ?_
  refine wp_region_lit ?_
  refine wl_val ha13 rfl rfl rfl (op_move ha13 rfl rfl) ?_
  intro a15 ha15; clear ha13 a13
  refine wl_val ha15 rfl rfl rfl (op_move ha15 rfl rfl) ?_
  intro a16 ha16; clear ha15 a15
  refine wl_val ha16 rfl rfl rfl (op_move ha16 rfl rfl) ?_
  intro a17 ha17; clear ha16 a16
  refine wl_callR ha17 rfl rfl rfl (op_call ha17 rfl cb61 rfl) (c_impl_merged _ v_list list ca cb (h_list.ext pos_shVer hx10) (by first | assumption | omega | (simp; omega) | (simp [mkN_length]; omega)) (by first | assumption | omega | (simp; omega) | (simp [mkN_length]; omega)) (by first | assumption | omega | (simp; omega) | (simp [mkN_length]; omega)) (by first | assumption | omega | (simp; omega) | (simp [mkN_length]; omega)) (by first | assumption | omega | (simp; omega) | (simp [mkN_length]; omega))) ?_
  rintro v18 w19 he20 ⟨v21, v23, rfl, ho22, ho24⟩ a25 ha25; clear ha17 a17
  have hx26 := hx10.trans' he20
  have hzhx26 := he20.size
  refine wl_val ha25 rfl rfl rfl (op_move ha25 rfl rfl) ?_
  intro a27 ha27; clear ha25 a25
  refine wl_val ha27 rfl rfl rfl (op_extract ha27 rfl rfl rfl) ?_
  intro a28 ha28; clear ha27 a27
  refine wl_val ha28 rfl rfl rfl (op_extract ha28 rfl rfl rfl) ?_
  intro a29 ha29; clear ha28 a28
  refine wl_val ha29 rfl rfl rfl (op_assign ha29 rfl rfl) ?_
  intro a30 ha30; clear ha29 a29
  refine wl_val ha30 rfl rfl rfl (op_assign ha30 rfl rfl) ?_
  intro a31 ha31; clear ha30 a30
  refine wpList_nil ?_
  refine then_n ?_
  refine wp_seq ?_
  refine wp_seq ?_
  refine wp_region_lit ?_
  refine wl_val ha31 rfl rfl rfl (op_move ha31 rfl rfl) ?_
  intro a32 ha32; clear ha31 a31
  refine wl_val ha32 rfl rfl rfl (op_len_sl ha32 rfl Try.underlying24 rfl (ho24.rds pos_shStr)) ?_
  intro a33 ha33; clear ha32 a32
  refine wl_val ha33 rfl rfl rfl (op_gtr ha33 rfl rfl rfl) ?_
  intro a34 ha34; clear ha33 a33
  refine wpList_nil ?_
  refine then_n ?_
  by_cases c35 : (0 : Int) < ((((mgCV list ca cb)).length : Nat) : Int)
  ·
   rw [decide_eq_true c35] at ha34
   refine cond_t ha34 rfl ?_
   refine wp_seq ?_
   refine wp_region_lit ?_
   refine wl_val ha34 rfl rfl rfl (op_assign ha34 rfl rfl) ?_
   intro a36 ha36; clear ha34 a34
   refine wl_val ha36 rfl rfl rfl (op_assign ha36 rfl rfl) ?_
   intro a37 ha37; clear ha36 a36
   refine wpList_nil ?_
   refine then_n ?_
   refine wp_ret ?_
   refine then_r ?_
   refine ret2 ha37 rfl rfl rfl ?_
   clear ha37 a37
   have hr : mvC list ca cb = 5 := (by unfold mvC; rw [if_pos c14]; exact if_pos (by omega))
   refine ret_mk hx26 ⟨.slice none 0 0, (tup2_eq rfl (int_eq (by first | exact hr.symm | (rw [hr])))), ?_⟩
   ·refine Own.nil_ _ _ _ _ _ _ ?_
    unfold mvL; rw [hr]; first | rfl | (rw [if_pos rfl]) | (rw [if_neg (by decide)]) | (rw [if_neg (by assumption)])
  ·
   rw [decide_eq_false c35] at ha34
   refine cond_f ha34 rfl ?_
   refine wp_skip ?_
   refine then_n ?_
   refine wp_seq ?_
   refine wp_seq ?_
   refine wp_region_lit ?_
   refine wl_val ha34 rfl rfl rfl (op_move ha34 rfl rfl) ?_
   intro a38 ha38; clear ha34 a34
   refine wl_val ha38 rfl rfl rfl (op_len_sl ha38 rfl Try.underlying34 rfl (ho22.rds pos_shLine)) ?_
   intro a39 ha39; clear ha38 a38
   refine wl_val ha39 rfl rfl rfl (op_gtr ha39 rfl rfl rfl) ?_
   intro a40 ha40; clear ha39 a39
   refine wpList_nil ?_
   refine then_n ?_
   by_cases c41 : (8 : Int) < ((((mgLV list ca cb)).length : Nat) : Int)
   ·
    rw [decide_eq_true c41] at ha40
    refine cond_t ha40 rfl ?_
    refine wp_seq ?_
    refine wp_region_lit ?_
    refine wl_val ha40 rfl rfl rfl (op_assign ha40 rfl rfl) ?_
    intro a42 ha42; clear ha40 a40
    refine wl_val ha42 rfl rfl rfl (op_assign ha42 rfl rfl) ?_
    intro a43 ha43; clear ha42 a42
    refine wpList_nil ?_
    refine then_n ?_
    refine wp_ret ?_
    refine then_r ?_
    refine ret2 ha43 rfl rfl rfl ?_
    clear ha43 a43
    have hr : mvC list ca cb = 3 := (by unfold mvC; rw [if_pos c14, if_neg (by omega)]; exact if_pos (by omega))
    refine ret_mk hx26 ⟨.slice none 0 0, (tup2_eq rfl (int_eq (by first | exact hr.symm | (rw [hr])))), ?_⟩
    ·refine Own.nil_ _ _ _ _ _ _ ?_
     unfold mvL; rw [hr]; first | rfl | (rw [if_pos rfl]) | (rw [if_neg (by decide)]) | (rw [if_neg (by assumption)])
   ·
    rw [decide_eq_false c41] at ha40
    refine cond_f ha40 rfl ?_
    refine wp_skip ?_
    refine then_n ?_
    refine wp_seq ?_
    refine wp_region_lit ?_
    refine wl_val ha40 rfl rfl rfl (op_move ha40 rfl rfl) ?_
    intro a44 ha44; clear ha40 a40
    refine wl_val ha44 rfl rfl rfl (op_assign ha44 rfl rfl) ?_
    intro a45 ha45; clear ha44 a44
    refine wl_val ha45 rfl rfl rfl (op_assign ha45 rfl rfl) ?_
    intro a46 ha46; clear ha45 a45
    refine wpList_nil ?_
    refine then_n ?_
    refine wp_ret ?_
    refine ret2 ha46 rfl rfl rfl ?_
    clear ha46 a46
    have hr : mvC list ca cb = 0 := (by unfold mvC; rw [if_pos c14, if_neg (by omega)]; exact if_neg (by omega))
    refine ret_mk hx26 ⟨v21, (tup2_eq rfl (int_eq (by first | exact hr.symm | (rw [hr])))), ?_⟩
    ·refine (ho22.fin (by omega) (by omega) (by omega)).cast ?_
     unfold mvL; rw [hr]; first | rfl | (rw [if_pos rfl]) | (rw [if_neg (by decide)]) | (rw [if_neg (by assumption)])
 ·
  rw [decide_eq_false c14] at ha13
  refine cond_t ha13 rfl ?_
  refine wp_seq ?_
  refine wp_region_lit ?_
  refine wl_val ha13 rfl rfl rfl (op_move ha13 rfl rfl) ?_
  intro a47 ha47; clear ha13 a13
  refine wl_val ha47 rfl rfl rfl (op_assign ha47 rfl rfl) ?_
  intro a48 ha48; clear ha47 a47
  refine wl_val ha48 rfl rfl rfl (op_assign ha48 rfl rfl) ?_
  intro a49 ha49; clear ha48 a48
  refine wpList_nil ?_
  refine then_n ?_
  refine wp_ret ?_
  refine then_r ?_
  refine ret2 ha49 rfl rfl rfl ?_
  clear ha49 a49
  have hr : mvC list ca cb = cdV list ca cb := (by unfold mvC; exact if_neg c14)
  refine ret_mk hx10 ⟨.slice none 0 0, (tup2_eq rfl (int_eq (by first | exact hr.symm | (rw [hr])))), ?_⟩
  ·refine Own.nil_ _ _ _ _ _ _ ?_
   unfold mvL; rw [hr]; first | rfl | (rw [if_pos rfl]) | (rw [if_neg (by decide)]) | (rw [if_neg (by assumption)])

theorem c_spec_MergeVersions (w0 : World) (v_list : Value) (list : List (Int × List (Str × Int))) {S_list : Nat → Prop} (ca : Int) (cb : Int) (h_list : Rds shVer S_list w0 v_list list) :
  Calls Try.prog 17 #[v_list, .int .i64 ca, .int .i64 cb] w0 (Ret w0 (fun v w1 => ∃ r0, v = .tuple #[r0, .int .i64 (mvC list ca cb)] ∧ Own shLine 83 w0.heap.size w0.heap.size w1.heap.size w1 r0 (mvL list ca cb))) := by
 refine enter (N := 34) Try.func17 rfl rfl rfl ?_
 intro a0 ha0
 have hx0 := Ext.rfl' w0
 have hl_list := h_list.length_le
 have hL24 := fun h => mgLV_len (vs := list) h ca cb
 refine wp_seq ?_
 refine wp_region_lit ?_
 refine wl_val ha0 rfl rfl rfl (op_assign ha0 rfl rfl) ?_
 intro a1 ha1; clear ha0 a0
 refine wl_val ha1 rfl rfl rfl (op_assign ha1 rfl rfl) ?_
 intro a2 ha2; clear ha1 a1
 refine wpList_nil ?_
 refine then_n ?_
 refine wp_seq ?_
 refine wp_region_lit ?_
 refine wl_val ha2 rfl rfl rfl (op_move ha2 rfl rfl) ?_
 intro a3 ha3; clear ha2 a2
 refine wl_val ha3 rfl rfl rfl (op_move ha3 rfl rfl) ?_
 intro a4 ha4; clear ha3 a3
 refine wl_val ha4 rfl rfl rfl (op_move ha4 rfl rfl) ?_
 intro a5 ha5; clear ha4 a4
 refine wl_callR ha5 rfl rfl rfl (op_call ha5 rfl cb50 rfl) (c_spec_l29Code _ v_list list ca cb (h_list.ext pos_shVer hx0)) ?_
 rintro v6 w7 he8 rfl a9 ha9; clear ha5 a5
 have hx10 := hx0.trans' he8
 have hzhx10 := he8.size
 refine wl_val ha9 rfl rfl rfl (op_assign ha9 rfl rfl) ?_
 intro a11 ha11; clear ha9 a9
 refine wpList_nil ?_
 refine then_n ?_
 refine wp_seq ?_
 refine wp_seq ?_
 refine wp_region_lit ?_
 refine wl_val ha11 rfl rfl rfl (op_move ha11 rfl rfl) ?_
 intro a12 ha12; clear ha11 a11
 refine wl_val ha12 rfl rfl rfl ((op_neq ha12 rfl rfl rfl).to (congrArg Value.bool decide_not)) ?_
 intro a13 ha13; clear ha12 a12
 refine wpList_nil ?_
 refine then_n ?_
 by_cases c14 : (cdV list ca cb : Int) = (0 : Int)
 ·
  rw [decide_eq_true c14] at ha13
  obtain ⟨hv1, hv2, hv3⟩ := cdV_ok c14
  have hlen := veB_len hv1
  have hia := in_bd hv2
  have hib := in_bd hv3
  refine cond_f ha13 rfl ?_
  refine wp_skip ?_
  refine then_n ?_
  refine wp_seq ?_
  refine wp_region_lit ?_
  refine wl_val ha13 rfl rfl rfl (op_move ha13 rfl rfl) ?_
  intro a15 ha15; clear ha13 a13
  refine wl_val ha15 rfl rfl rfl (op_move ha15 rfl rfl) ?_
  intro a16 ha16; clear ha15 a15
  refine wl_val ha16 rfl rfl rfl (op_move ha16 rfl rfl) ?_
  intro a17 ha17; clear ha16 a16
  refine wl_callR ha17 rfl rfl rfl (op_call ha17 rfl cb59 rfl) (c_spec_l29Merge _ v_list list ca cb (h_list.ext pos_shVer hx10) (by first | assumption | omega | (simp; omega) | (simp [mkN_length]; omega)) (by first | assumption | omega | (simp; omega) | (simp [mkN_length]; omega)) (by first | assumption | omega | (simp; omega) | (simp [mkN_length]; omega)) (by first | assumption | omega | (simp; omega) | (simp [mkN_length]; omega)) (by first | assumption | omega | (simp; omega) | (simp [mkN_length]; omega))) ?_
  rintro v18 w19 he20 ⟨v21, v23, rfl, ho22, ho24⟩ a25 ha25; clear ha17 a17
  have hx26 := hx10.trans' he20
  have hzhx26 := he20.size
  refine wl_val ha25 rfl rfl rfl (op_move ha25 rfl rfl) ?_
  intro a27 ha27; clear ha25 a25
  refine wl_val ha27 rfl rfl rfl (op_extract ha27 rfl rfl rfl) ?_
  intro a28 ha28; clear ha27 a27
  refine wl_val ha28 rfl rfl rfl (op_extract ha28 rfl rfl rfl) ?_
  intro a29 ha29; clear ha28 a28
  refine wl_val ha29 rfl rfl rfl (op_assign ha29 rfl rfl) ?_
  intro a30 ha30; clear ha29 a29
  refine wl_val ha30 rfl rfl rfl (op_assign ha30 rfl rfl) ?_
  intro a31 ha31; clear ha30 a30
  refine wpList_nil ?_
  refine then_n ?_
  refine wp_seq ?_
  refine wp_block ?_
  refine wp_seq ?_
  refine wp_region_lit ?_
  refine wl_val ha31 rfl rfl rfl (op_move ha31 rfl rfl) ?_
  intro a32 ha32; clear ha31 a31
  refine wl_val ha32 rfl rfl rfl (op_len_sl ha32 rfl Try.underlying24 rfl (ho24.rds pos_shStr)) ?_
  intro a33 ha33; clear ha32 a32
  refine wl_val ha33 rfl rfl rfl (op_gtr ha33 rfl rfl rfl) ?_
  intro a34 ha34; clear ha33 a33
  refine wl_val ha34 rfl rfl rfl (op_assign ha34 rfl rfl) ?_
  intro a35 ha35; clear ha34 a34
  refine wpList_nil ?_
  refine then_n ?_
  by_cases c36 : (0 : Int) < ((((mgCV list ca cb)).length : Nat) : Int)
  ·
   rw [decide_eq_true c36] at ha35
   refine cond_t ha35 rfl ?_
   refine wp_seq ?_
   refine wp_region_lit ?_
   refine wl_val ha35 rfl rfl rfl (op_assign ha35 rfl rfl) ?_
   intro a37 ha37; clear ha35 a35
   refine wl_val ha37 rfl rfl rfl (op_assign ha37 rfl rfl) ?_
   intro a38 ha38; clear ha37 a37
   refine wpList_nil ?_
   refine then_n ?_
   refine wp_ret ?_
   refine block_r ?_
   refine then_r ?_
   refine ret2 ha38 rfl rfl rfl ?_
   clear ha38 a38
   have hr : mvC list ca cb = 5 := (by unfold mvC; rw [if_pos c14]; exact if_pos (by omega))
   refine ret_mk hx26 ⟨.slice none 0 0, (tup2_eq rfl (int_eq (by first | exact hr.symm | (rw [hr])))), ?_⟩
   ·refine Own.nil_ _ _ _ _ _ _ ?_
    unfold mvL; rw [hr]; first | rfl | (rw [if_pos rfl]) | (rw [if_neg (by decide)]) | (rw [if_neg (by assumption)])
  ·
   rw [decide_eq_false c36] at ha35
   refine cond_f ha35 rfl ?_
   refine wp_seq ?_
   refine wp_region_lit ?_
   refine wl_val ha35 rfl rfl rfl (op_move ha35 rfl rfl) ?_
   intro a39 ha39; clear ha35 a35
   refine wl_callR ha39 rfl rfl rfl (op_call ha39 rfl cb60 rfl) (c_spec_l29Sheet _ v21 ((mgLV list ca cb)) (ho22.rds pos_shLine)) ?_
   rintro v40 w41 he42 rfl a43 ha43; clear ha39 a39
   have hx44 := hx26.trans' he42
   have hzhx44 := he42.size
   replace ho22 := ho22.ext he42
   replace ho24 := ho24.ext he42
   refine wl_val ha43 rfl rfl rfl (op_not ha43 rfl rfl) ?_
   intro a45 ha45; clear ha43 a43
   refine wl_val ha45 rfl rfl rfl (op_assign ha45 rfl rfl) ?_
   intro a46 ha46; clear ha45 a45
   refine wpList_nil ?_
   refine then_n ?_
   rcases Bool.eq_false_or_eq_true (shB ((mgLV list ca cb))) with c47 | c47
   ·
    rw [c47] at ha46
    refine cond_f ha46 rfl ?_
    refine wp_skip ?_
    refine block_n ?_
    refine then_n ?_
    refine wp_seq ?_
    refine wp_region_lit ?_
    refine wl_val ha46 rfl rfl rfl (op_move ha46 rfl rfl) ?_
    intro a48 ha48; clear ha46 a46
    refine wl_val ha48 rfl rfl rfl (op_assign ha48 rfl rfl) ?_
    intro a49 ha49; clear ha48 a48
    refine wl_val ha49 rfl rfl rfl (op_assign ha49 rfl rfl) ?_
    intro a50 ha50; clear ha49 a49
    refine wpList_nil ?_
    refine then_n ?_
    refine wp_ret ?_
    refine ret2 ha50 rfl rfl rfl ?_
    clear ha50 a50
    have h8 := mgLV_sh hv1 ca cb
    rw [c47] at h8
    have h9 : (mgLV list ca cb).length ≤ 8 := by simpa using h8.symm
    have hr : mvC list ca cb = 0 := (by unfold mvC; rw [if_pos c14, if_neg (by omega)]; exact if_neg (by omega))
    refine ret_mk hx44 ⟨v21, (tup2_eq rfl (int_eq (by first | exact hr.symm | (rw [hr])))), ?_⟩
    ·refine (ho22.fin (by omega) (by omega) (by omega)).cast ?_
     unfold mvL; rw [hr]; first | rfl | (rw [if_pos rfl]) | (rw [if_neg (by decide)]) | (rw [if_neg (by assumption)])
   ·
    rw [c47] at ha46
    refine cond_t ha46 rfl ?_
    refine wp_seq ?_
    refine wp_region_lit ?_
    refine wl_val ha46 rfl rfl rfl (op_assign ha46 rfl rfl) ?_
    intro a51 ha51; clear ha46 a46
    refine wl_val ha51 rfl rfl rfl (op_assign ha51 rfl rfl) ?_
    intro a52 ha52; clear ha51 a51
    refine wpList_nil ?_
    refine then_n ?_
    refine wp_ret ?_
    refine block_r ?_
    refine then_r ?_
    refine ret2 ha52 rfl rfl rfl ?_
    clear ha52 a52
    have h8 := mgLV_sh hv1 ca cb
    rw [c47] at h8
    have h9 : ¬ (mgLV list ca cb).length ≤ 8 := by simpa using h8.symm
    have hr : mvC list ca cb = 3 := (by unfold mvC; rw [if_pos c14, if_neg (by omega)]; exact if_pos (by omega))
    refine ret_mk hx44 ⟨.slice none 0 0, (tup2_eq rfl (int_eq (by first | exact hr.symm | (rw [hr])))), ?_⟩
    ·refine Own.nil_ _ _ _ _ _ _ ?_
     unfold mvL; rw [hr]; first | rfl | (rw [if_pos rfl]) | (rw [if_neg (by decide)]) | (rw [if_neg (by assumption)])
 ·
  rw [decide_eq_false c14] at ha13
  refine cond_t ha13 rfl ?_
  refine wp_seq ?_
  refine wp_region_lit ?_
  refine wl_val ha13 rfl rfl rfl (op_move ha13 rfl rfl) ?_
  intro a53 ha53; clear ha13 a13
  refine wl_val ha53 rfl rfl rfl (op_assign ha53 rfl rfl) ?_
  intro a54 ha54; clear ha53 a53
  refine wl_val ha54 rfl rfl rfl (op_assign ha54 rfl rfl) ?_
  intro a55 ha55; clear ha54 a54
  refine wpList_nil ?_
  refine then_n ?_
  refine wp_ret ?_
  refine then_r ?_
  refine ret2 ha55 rfl rfl rfl ?_
  clear ha55 a55
  have hr : mvC list ca cb = cdV list ca cb := (by unfold mvC; exact if_neg c14)
  refine ret_mk hx10 ⟨.slice none 0 0, (tup2_eq rfl (int_eq (by first | exact hr.symm | (rw [hr])))), ?_⟩
  ·refine Own.nil_ _ _ _ _ _ _ ?_
   unfold mvL; rw [hr]; first | rfl | (rw [if_pos rfl]) | (rw [if_neg (by decide)]) | (rw [if_neg (by assumption)])

theorem c_impl_ConflictsOf (w0 : World) (v_list : Value) (list : List (Int × List (Str × Int))) {S_list : Nat → Prop} (ca : Int) (cb : Int) (h_list : Rds shVer S_list w0 v_list list) :
  Calls Try.prog 23 #[v_list, .int .i64 ca, .int .i64 cb] w0 (Ret w0 (fun v w1 => ∃ r0, v = .tuple #[r0, .int .i64 (cdV list ca cb)] ∧ Own shStr 9 w0.heap.size w0.heap.size w1.heap.size w1 r0 (cfV list ca cb))) := by
 refine enter (N := 26) Try.func23 rfl rfl rfl ?_
 intro a0 ha0
 have hx0 := Ext.rfl' w0
 have hl_list := h_list.length_le
 refine wp_seq ?_
 refine wp_region_lit ?_
 refine wl_val ha0 rfl rfl rfl (op_assign ha0 rfl rfl) ?_
 intro a1 ha1; clear ha0 a0
 refine wl_val ha1 rfl rfl rfl (op_assign ha1 rfl rfl) ?_
 intro a2 ha2; clear ha1 a1
 refine wpList_nil ?_
 refine then_n ?_
 refine wp_seq ?_
 refine wp_seq ?_
 refine wp_region_lit ?_
 refine wl_val ha2 rfl rfl rfl (op_move ha2 rfl rfl) ?_
 intro a3 ha3; clear ha2 a2
 refine wl_val ha3 rfl rfl rfl (op_move ha3 rfl rfl) ?_
 intro a4 ha4; clear ha3 a3
 refine wl_val ha4 rfl rfl rfl (op_move ha4 rfl rfl) ?_
 intro a5 ha5; clear ha4 a4
 refine wl_callR ha5 rfl rfl rfl (op_call ha5 rfl cb54 rfl) (c_impl_twoVersions _ v_list list ca cb (h_list.ext pos_shVer hx0)) ?_
 rintro v6 w7 he8 rfl a9 ha9; clear ha5 a5
 have hx10 := hx0.trans' he8
 have hzhx10 := he8.size
 refine wl_val ha9 rfl rfl rfl (op_assign ha9 rfl rfl) ?_
 intro a11 ha11; clear ha9 a9
 refine wpList_nil ?_
 refine then_n ?_
 refine wp_seq ?_
 refine wp_region_lit ?_
 refine wl_val ha11 rfl rfl rfl (op_move ha11 rfl rfl) ?_
 intro a12 ha12; clear ha11 a11
 refine wl_val ha12 rfl rfl rfl ((op_neq ha12 rfl rfl rfl).to (congrArg Value.bool decide_not)) ?_
 intro a13 ha13; clear ha12 a12
 refine wpList_nil ?_
 refine then_n ?_
 by_cases c14 : (cdV list ca cb : Int) = (0 : Int)
 ·
  rw [decide_eq_true c14] at ha13
  obtain ⟨hv1, hv2, hv3⟩ := cdV_ok c14
  have hlen := veB_len hv1
  have hia := in_bd hv2
  have hib := in_bd hv3
  refine cond_f ha13 rfl ?_
  refine wp_skip ?_
  refine then_n ?_
  refine wp_seq ?_
  refine wp_region_lit ?_
  refine wl_val ha13 rfl rfl rfl (op_move ha13 rfl rfl) ?_
  intro a15 ha15; clear ha13 a13
  refine wl_val ha15 rfl rfl rfl (op_move ha15 rfl rfl) ?_
  intro a16 ha16; clear ha15 a15
  refine wl_val ha16 rfl rfl rfl (op_move ha16 rfl rfl) ?_
  intro a17 ha17; clear ha16 a16
  refine wl_callR ha17 rfl rfl rfl (op_call ha17 rfl cb61 rfl) (c_impl_merged _ v_list list ca cb (h_list.ext pos_shVer hx10) (by first | assumption | omega | (simp; omega) | (simp [mkN_length]; omega)) (by first | assumption | omega | (simp; omega) | (simp [mkN_length]; omega)) (by first | assumption | omega | (simp; omega) | (simp [mkN_length]; omega)) (by first | assumption | omega | (simp; omega) | (simp [mkN_length]; omega)) (by first | assumption | omega | (simp; omega) | (simp [mkN_length]; omega))) ?_
  rintro v18 w19 he20 ⟨v21, v23, rfl, ho22, ho24⟩ a25 ha25; clear ha17 a17
  have hx26 := hx10.trans' he20
  have hzhx26 := he20.size
  refine wl_val ha25 rfl rfl rfl (op_move ha25 rfl rfl) ?_
  intro a27 ha27; clear ha25 a25
  refine wl_val ha27 rfl rfl rfl (op_extract ha27 rfl rfl rfl) ?_
  intro a28 ha28; clear ha27 a27
  refine wl_val ha28 rfl rfl rfl (op_extract ha28 rfl rfl rfl) ?_
  intro a29 ha29; clear ha28 a28
  refine wl_val ha29 rfl rfl rfl (op_assign ha29 rfl rfl) ?_
  intro a30 ha30; clear ha29 a29
  refine wl_val ha30 rfl rfl rfl (op_assign ha30 rfl rfl) ?_
  intro a31 ha31; clear ha30 a30
  refine wpList_nil ?_
  refine then_n ?_
  refine wp_seq ?_
  refine wp_region_lit ?_
  refine wl_val ha31 rfl rfl rfl (op_move ha31 rfl rfl) ?_
  intro a32 ha32; clear ha31 a31
  refine wl_val ha32 rfl rfl rfl (op_assign ha32 rfl rfl) ?_
  intro a33 ha33; clear ha32 a32
  refine wl_val ha33 rfl rfl rfl (op_assign ha33 rfl rfl) ?_
  intro a34 ha34; clear ha33 a33
  refine wpList_nil ?_
  refine then_n ?_
  refine wp_ret ?_
  refine ret2 ha34 rfl rfl rfl ?_
  clear ha34 a34
  refine ret_mk hx26 ⟨v23, (tup2_eq rfl (int_eq (by first | rfl | omega | exact Eq.symm (by assumption)))), ?_⟩
  ·refine (ho24.fin (by omega) (by omega) (by omega)).cast ?_
   unfold cfV; first | (rw [if_pos (by assumption)]; done) | (rw [if_neg (by assumption)]; done)
 ·
  rw [decide_eq_false c14] at ha13
  refine cond_t ha13 rfl ?_
  refine wp_seq ?_
  refine wp_region_lit ?_
  refine wl_val ha13 rfl rfl rfl (op_move ha13 rfl rfl) ?_
  intro a35 ha35; clear ha13 a13
  refine wl_val ha35 rfl rfl rfl (op_assign ha35 rfl rfl) ?_
  intro a36 ha36; clear ha35 a35
  refine wl_val ha36 rfl rfl rfl (op_assign ha36 rfl rfl) ?_
  intro a37 ha37; clear ha36 a36
  refine wpList_nil ?_
  refine then_n ?_
  refine wp_ret ?_
  refine then_r ?_
  refine ret2 ha37 rfl rfl rfl ?_
  clear ha37 a37
  refine ret_mk hx10 ⟨.slice none 0 0, (tup2_eq rfl (int_eq (by first | rfl | omega | exact Eq.symm (by assumption)))), ?_⟩
  ·refine Own.nil_ _ _ _ _ _ _ ?_
   unfold cfV; first | (rw [if_pos (by assumption)]; done) | (rw [if_neg (by assumption)]; done)

theorem c_spec_ConflictsOf (w0 : World) (v_list : Value) (list : List (Int × List (Str × Int))) {S_list : Nat → Prop} (ca : Int) (cb : Int) (h_list : Rds shVer S_list w0 v_list list) :
  Calls Try.prog 22 #[v_list, .int .i64 ca, .int .i64 cb] w0 (Ret w0 (fun v w1 => ∃ r0, v = .tuple #[r0, .int .i64 (cdV list ca cb)] ∧ Own shStr 9 w0.heap.size w0.heap.size w1.heap.size w1 r0 (cfV list ca cb))) := by
 refine enter (N := 26) Try.func22 rfl rfl rfl ?_
 intro a0 ha0
 have hx0 := Ext.rfl' w0
 have hl_list := h_list.length_le
 refine wp_seq ?_
 refine wp_region_lit ?_
 refine wl_val ha0 rfl rfl rfl (op_assign ha0 rfl rfl) ?_
 intro a1 ha1; clear ha0 a0
 refine wl_val ha1 rfl rfl rfl (op_assign ha1 rfl rfl) ?_
 intro a2 ha2; clear ha1 a1
 refine wpList_nil ?_
 refine then_n ?_
 refine wp_seq ?_
 refine wp_region_lit ?_
 refine wl_val ha2 rfl rfl rfl (op_move ha2 rfl rfl) ?_
 intro a3 ha3; clear ha2 a2
 refine wl_val ha3 rfl rfl rfl (op_move ha3 rfl rfl) ?_
 intro a4 ha4; clear ha3 a3
 refine wl_val ha4 rfl rfl rfl (op_move ha4 rfl rfl) ?_
 intro a5 ha5; clear ha4 a4
 refine wl_callR ha5 rfl rfl rfl (op_call ha5 rfl cb50 rfl) (c_spec_l29Code _ v_list list ca cb (h_list.ext pos_shVer hx0)) ?_
 rintro v6 w7 he8 rfl a9 ha9; clear ha5 a5
 have hx10 := hx0.trans' he8
 have hzhx10 := he8.size
 refine wl_val ha9 rfl rfl rfl (op_assign ha9 rfl rfl) ?_
 intro a11 ha11; clear ha9 a9
 refine wpList_nil ?_
 refine then_n ?_
 refine wp_seq ?_
 refine wp_seq ?_
 refine wp_region_lit ?_
 refine wl_val ha11 rfl rfl rfl (op_move ha11 rfl rfl) ?_
 intro a12 ha12; clear ha11 a11
 refine wl_val ha12 rfl rfl rfl ((op_neq ha12 rfl rfl rfl).to (congrArg Value.bool decide_not)) ?_
 intro a13 ha13; clear ha12 a12
 refine wpList_nil ?_
 refine then_n ?_
 by_cases c14 : (cdV list ca cb : Int) = (0 : Int)
 ·
  rw [decide_eq_true c14] at ha13
  obtain ⟨hv1, hv2, hv3⟩ := cdV_ok c14
  have hlen := veB_len hv1
  have hia := in_bd hv2
  have hib := in_bd hv3
  refine cond_f ha13 rfl ?_
  refine wp_skip ?_
  refine then_n ?_
  refine wp_seq ?_
  refine wp_region_lit ?_
  refine wl_val ha13 rfl rfl rfl (op_move ha13 rfl rfl) ?_
  intro a15 ha15; clear ha13 a13
  refine wl_val ha15 rfl rfl rfl (op_move ha15 rfl rfl) ?_
  intro a16 ha16; clear ha15 a15
  refine wl_val ha16 rfl rfl rfl (op_move ha16 rfl rfl) ?_
  intro a17 ha17; clear ha16 a16
  refine wl_callR ha17 rfl rfl rfl (op_call ha17 rfl cb59 rfl) (c_spec_l29Merge _ v_list list ca cb (h_list.ext pos_shVer hx10) (by first | assumption | omega | (simp; omega) | (simp [mkN_length]; omega)) (by first | assumption | omega | (simp; omega) | (simp [mkN_length]; omega)) (by first | assumption | omega | (simp; omega) | (simp [mkN_length]; omega)) (by first | assumption | omega | (simp; omega) | (simp [mkN_length]; omega)) (by first | assumption | omega | (simp; omega) | (simp [mkN_length]; omega))) ?_
  rintro v18 w19 he20 ⟨v21, v23, rfl, ho22, ho24⟩ a25 ha25; clear ha17 a17
  have hx26 := hx10.trans' he20
  have hzhx26 := he20.size
  refine wl_val ha25 rfl rfl rfl (op_move ha25 rfl rfl) ?_
  intro a27 ha27; clear ha25 a25
  refine wl_val ha27 rfl rfl rfl (op_extract ha27 rfl rfl rfl) ?_
  intro a28 ha28; clear ha27 a27
  refine wl_val ha28 rfl rfl rfl (op_extract ha28 rfl rfl rfl) ?_
  intro a29 ha29; clear ha28 a28
  refine wl_val ha29 rfl rfl rfl (op_assign ha29 rfl rfl) ?_
  intro a30 ha30; clear ha29 a29
  refine wl_val ha30 rfl rfl rfl (op_assign ha30 rfl rfl) ?_
  intro a31 ha31; clear ha30 a30
  refine wpList_nil ?_
  refine then_n ?_
  refine wp_seq ?_
  refine wp_region_lit ?_
  refine wl_val ha31 rfl rfl rfl (op_move ha31 rfl rfl) ?_
  intro a32 ha32; clear ha31 a31
  refine wl_val ha32 rfl rfl rfl (op_assign ha32 rfl rfl) ?_
  intro a33 ha33; clear ha32 a32
  refine wl_val ha33 rfl rfl rfl (op_assign ha33 rfl rfl) ?_
  intro a34 ha34; clear ha33 a33
  refine wpList_nil ?_
  refine then_n ?_
  refine wp_ret ?_
  refine ret2 ha34 rfl rfl rfl ?_
  clear ha34 a34
  refine ret_mk hx26 ⟨v23, (tup2_eq rfl (int_eq (by first | rfl | omega | exact Eq.symm (by assumption)))), ?_⟩
  ·refine (ho24.fin (by omega) (by omega) (by omega)).cast ?_
   unfold cfV; first | (rw [if_pos (by assumption)]; done) | (rw [if_neg (by assumption)]; done)
 ·
  rw [decide_eq_false c14] at ha13
  refine cond_t ha13 rfl ?_
  refine wp_seq ?_
  refine wp_region_lit ?_
  refine wl_val ha13 rfl rfl rfl (op_move ha13 rfl rfl) ?_
  intro a35 ha35; clear ha13 a13
  refine wl_val ha35 rfl rfl rfl (op_assign ha35 rfl rfl) ?_
  intro a36 ha36; clear ha35 a35
  refine wl_val ha36 rfl rfl rfl (op_assign ha36 rfl rfl) ?_
  intro a37 ha37; clear ha36 a36
  refine wpList_nil ?_
  refine then_n ?_
  refine wp_ret ?_
  refine then_r ?_
  refine ret2 ha37 rfl rfl rfl ?_
  clear ha37 a37
  refine ret_mk hx10 ⟨.slice none 0 0, (tup2_eq rfl (int_eq (by first | rfl | omega | exact Eq.symm (by assumption)))), ?_⟩
  ·refine Own.nil_ _ _ _ _ _ _ ?_
   unfold cfV; first | (rw [if_pos (by assumption)]; done) | (rw [if_neg (by assumption)]; done)


end Go.Proofs.Ytllpdkidaldkiaa
