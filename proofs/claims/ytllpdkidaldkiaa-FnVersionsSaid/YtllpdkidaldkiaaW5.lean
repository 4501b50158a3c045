/- What has changed. -/
import Derived.Test.YtllpdkidaldkiaaW3
import Derived.Test.YtllpdkidaldkiaaW4
namespace Go.Proofs.Ytllpdkidaldkiaa
open Go Go.RowKit

theorem rdsR_shLnsN {e : TypeId} {lo hi : Nat} {S : Nat → Prop} {w0 w : World} {v : Value} {zs : List (List (Str × Int) × Value)} (ho : Own shLnsN e lo lo hi w v zs) (hn : ∀ z ∈ zs, Rds shLine S w0 z.2 z.1) (hx : Ext w0 w) : Rds shLns (fun i => Iv lo hi i ∨ S i) w v (zs.map (·.1)) :=
  own_rds pos_shLnsN rfl ho (fun _ h => .inl h) fun _ c z h hz => by
    obtain ⟨rfl, _⟩ := h
    exact ⟨_, rfl, ((hn z hz).ext pos_shLine hx).keep pos_shLine fun k hk _ => ⟨.inr hk, rfl⟩⟩

set_option maxHeartbeats 4000000 in
theorem c_impl_KeysChanged (w0 : World) (v_list : Value) (list : List (Int × List (Str × Int))) {S_list : Nat → Prop} (ca : Int) (cb : Int) (h_list : Rds shVer S_list w0 v_list list) :
  Calls Try.prog 11 #[v_list, .int .i64 ca, .int .i64 cb] w0 (Ret w0 (fun v w1 => ∃ r0, v = .tuple #[r0, .int .i64 (cdV list ca cb)] ∧ Own shStr 9 w0.heap.size w0.heap.size w1.heap.size w1 r0 (kcV list ca cb))) := by
 refine enter (N := 57) Try.func11 rfl rfl rfl ?_
 intro a0 ha0
 have hx0 := Ext.rfl' w0
 have hl_list := h_list.length_le
 refine wp_seq ?_
 refine wp_region_lit ?_
 refine wl_val ha0 rfl rfl rfl (op_assign ha0 rfl rfl) ?_
 intro a1 ha1; clear ha0 a0
 refine wl_val ha1 rfl rfl rfl (op_assign ha1 rfl rfl) ?_
 intro a2 ha2; clear ha1 a1
 refine wpList_nil ?_
 refine then_n ?_
 refine wp_seq ?_
 refine wp_seq ?_
 refine wp_region_lit ?_
 refine wl_val ha2 rfl rfl rfl (op_move ha2 rfl rfl) ?_
 intro a3 ha3; clear ha2 a2
 refine wl_val ha3 rfl rfl rfl (op_move ha3 rfl rfl) ?_
 intro a4 ha4; clear ha3 a3
 refine wl_val ha4 rfl rfl rfl (op_move ha4 rfl rfl) ?_
 intro a5 ha5; clear ha4 a4
 refine wl_callR ha5 rfl rfl rfl (op_call ha5 rfl cb54 rfl) (c_impl_twoVersions _ v_list list ca cb (h_list.ext pos_shVer hx0)) ?_
 rintro v6 w7 he8 rfl a9 ha9; clear ha5 a5
 have hx10 := hx0.trans' he8
 have hzhx10 := he8.size
 refine wl_val ha9 rfl rfl rfl (op_assign ha9 rfl rfl) ?_
 intro a11 ha11; clear ha9 a9
 refine wpList_nil ?_
 refine then_n ?_
 refine wp_seq ?_
 refine wp_region_lit ?_
 refine wl_val ha11 rfl rfl rfl (op_move ha11 rfl rfl) ?_
 intro a12 ha12; clear ha11 a11
 refine wl_val ha12 rfl rfl rfl ((op_neq ha12 rfl rfl rfl).to (congrArg Value.bool decide_not)) ?_
 intro a13 ha13; clear ha12 a12
 refine wpList_nil ?_
 refine then_n ?_
 by_cases c14 : (cdV list ca cb : Int) = (0 : Int)
 ·
  rw [decide_eq_true c14] at ha13
  obtain ⟨hv1, hv2, hv3⟩ := cdV_ok c14
  have hlen := veB_len hv1
  have hia := in_bd hv2
  have hib := in_bd hv3
  refine cond_f ha13 rfl ?_
  refine wp_skip ?_
  refine then_n ?_
  refine wp_seq ?_
  refine wp_region_lit ?_
  refine wl_val ha13 rfl rfl rfl (op_assign ha13 rfl rfl) ?_
  intro a15 ha15; clear ha13 a13
  refine wpList_nil ?_
  refine then_n ?_
  refine wp_seq ?_
  refine wp_seq ?_
  refine dr_enter Ext follows_mixed ?_
  intro w16 he17
  have hx18 := hx10.trans' he17
  have hzhx18 := he17.size
  have hs19 : Ext w16 w16 := Ext.rfl' _
  refine dr_val (i := 0) ha15 rfl (by kernel_rfl) (by kernel_rfl) (by kernel_rfl) rfl rfl rfl hs19 (fun w' hw' => op_move ha15 rfl rfl) ?_
  intro a20 ha20; clear ha15 a15
  refine dr_val (i := 1) ha20 rfl (by kernel_rfl) (by kernel_rfl) (by kernel_rfl) rfl rfl rfl hs19 (fun w' hw' => op_move ha20 rfl rfl) ?_
  intro a21 ha21; clear ha20 a20
  obtain ⟨x22, hx22⟩ := get_ex (xs := list) (j := ca.toNat) (by omega)
  obtain ⟨p23, c24, hi25, hc26, hr27, hs28⟩ := Rds.at_ h_list hx22
  obtain ⟨v29, rfl, b30, b31⟩ := inv_shVer hr27
  have hlb31 := b31.length_le
  have hvex22 := veB_at hv1 hx22
  have hlex22 := lnV_eq hx22
  have hlxx22 := shB_len hvex22.1
  have hshx22 := hvex22.1
  refine dr_val (i := 2) ha21 rfl (by kernel_rfl) (by kernel_rfl) (by kernel_rfl) rfl rfl rfl hs19 (fun w' hw' => op_indexAddr ha21 rfl Try.underlying27 ti56 rfl rfl (by omega) hi25) ?_
  intro a32 ha32; clear ha21 a21
  refine dr_val (i := 3) ha32 rfl (by kernel_rfl) (by kernel_rfl) (by kernel_rfl) rfl rfl rfl hs19 (fun w' hw' => op_fieldAddr (sz := 0) ha32 rfl Try.underlying56 rfl rfl ti34 rfl) ?_
  intro a33 ha33; clear ha32 a32
  refine dr_val (i := 4) ha33 rfl (by kernel_rfl) (by kernel_rfl) (by kernel_rfl) rfl rfl rfl hs19 (fun w' hw' => op_loadF (off := 1) ha33 rfl Try.underlying34 rfl rfl (hc26.ext (hx18.trans' hw')) rfl) ?_
  intro a34 ha34; clear ha33 a33
  refine dr_val (i := 5) ha34 rfl (by kernel_rfl) (by kernel_rfl) (by kernel_rfl) rfl rfl rfl hs19 (fun w' hw' => op_move ha34 rfl rfl) ?_
  intro a35 ha35; clear ha34 a34
  refine dr_val (i := 6) ha35 rfl (by kernel_rfl) (by kernel_rfl) (by kernel_rfl) rfl rfl rfl hs19 (fun w' hw' => op_move ha35 rfl rfl) ?_
  intro a36 ha36; clear ha35 a35
  obtain ⟨x37, hx37⟩ := get_ex (xs := list) (j := cb.toNat) (by omega)
  obtain ⟨p38, c39, hi40, hc41, hr42, hs43⟩ := Rds.at_ h_list hx37
  obtain ⟨v44, rfl, b45, b46⟩ := inv_shVer hr42
  have hlb46 := b46.length_le
  have hvex37 := veB_at hv1 hx37
  have hlex37 := lnV_eq hx37
  have hlxx37 := shB_len hvex37.1
  have hshx37 := hvex37.1
  refine dr_val (i := 7) ha36 rfl (by kernel_rfl) (by kernel_rfl) (by kernel_rfl) rfl rfl rfl hs19 (fun w' hw' => op_indexAddr ha36 rfl Try.underlying27 ti56 rfl rfl (by omega) hi40) ?_
  intro a47 ha47; clear ha36 a36
  refine dr_val (i := 8) ha47 rfl (by kernel_rfl) (by kernel_rfl) (by kernel_rfl) rfl rfl rfl hs19 (fun w' hw' => op_fieldAddr (sz := 0) ha47 rfl Try.underlying56 rfl rfl ti34 rfl) ?_
  intro a48 ha48; clear ha47 a47
  refine dr_val (i := 9) ha48 rfl (by kernel_rfl) (by kernel_rfl) (by kernel_rfl) rfl rfl rfl hs19 (fun w' hw' => op_loadF (off := 1) ha48 rfl Try.underlying34 rfl rfl (hc41.ext (hx18.trans' hw')) rfl) ?_
  intro a49 ha49; clear ha48 a48
  refine dr_val (i := 13) ha49 rfl (by kernel_rfl) (by kernel_rfl) (by kernel_rfl) rfl rfl rfl hs19 (fun w' hw' => op_move ha49 rfl rfl) ?_
  intro a50 ha50; clear ha49 a49
  refine dr_one (i := 10) (by kernel_rfl) ?_
  refine po_eff ha50 rfl rfl rfl rfl (op_buildSlice (s := shLnsN) (xs := [((x22.2 : List (Str × Int)), (v29 : Value)), ((x37.2 : List (Str × Int)), (v44 : Value))]) (cs := [v29, v44]) (vs := [(0, v29), (1, v44)]) (S := fun _ => False) (le := w16.heap.size) ha50 rfl pos_shLnsN Try.underlying72 ti34 rfl rfl (by decide) ((fill_one (off := 0) b31.cells1 (by kernel_rfl) (by kernel_rfl)).trans ((fill_one (off := 1) b46.cells1 (by kernel_rfl) (by kernel_rfl)).trans (by kernel_rfl))) ⟨mk_shLnsN (((x22.2 : List (Str × Int)), (v29 : Value))) b31.one, mk_shLnsN (((x37.2 : List (Str × Int)), (v44 : Value))) b46.one, rfl⟩ (fun _ h => h.elim)) ?_
  rintro v51 w52 ⟨ho53, he54, hob55⟩ a56 ha56; clear ha50 a50
  have hs57 := hs19.trans' he54
  have hx58 := hx18.trans' he54
  have hzhx58 := he54.size
  refine ⟨hs57, ?_⟩
  refine dr_one (i := 11) (by kernel_rfl) ?_
  refine po_callR ha56 rfl rfl rfl rfl (op_call ha56 rfl cb55 rfl) (c_impl_allKeys _ v51 ((([((x22.2 : List (Str × Int)), (v29 : Value)), ((x37.2 : List (Str × Int)), (v44 : Value))]).map (·.1))) (rdsR_shLnsN (lo := w16.heap.size) (hi := w52.heap.size) (ho53.fin (by omega) (by omega) (by omega)) (by intro z hz; simp only [List.mem_cons, List.not_mem_nil, or_false] at hz; first | (rcases hz with rfl | rfl | rfl <;> assumption) | (rcases hz with rfl | rfl <;> assumption)) hx58) (by first | assumption | omega | (simp; done) | (simp; omega)) (by intro q hq; simp only [List.map_cons, List.map_nil, List.mem_cons, List.not_mem_nil, or_false] at hq; first | (rcases hq with rfl | rfl | rfl <;> assumption) | (rcases hq with rfl | rfl <;> assumption))) ?_
  rintro v59 w60 he61 ho62 a63 ha63; clear ha56 a56
  have hs64 := hs57.trans' he61
  have hx65 := hx58.trans' he61
  have hzhx65 := he61.size
  replace ho53 := ho53.ext he61
  refine ⟨hs64, ?_⟩
  refine dr_val (i := 12) ha63 rfl (by kernel_rfl) (by kernel_rfl) (by kernel_rfl) rfl rfl rfl hs64 (fun w' hw' => op_len_sl ha63 rfl Try.underlying24 rfl (ho62.rds pos_shStr)) ?_
  intro a66 ha66; clear ha63 a63
  refine dr_end (by kernel_rfl) ?_
  refine then_n ?_
  refine wp_block ?_
  refine loop_inv (X := Nat × Value × (List Str)) (fun (⟨i, v, acc⟩ : Nat × Value × (List Str)) fr wl => Sl 57 fr [(0, v_list), (1, .int .i64 ca), (2, .int .i64 cb), (9, v), (30, v59), (31, .int .i64 ((((allK ((([((x22.2 : List (Str × Int)), (v29 : Value)), ((x37.2 : List (Str × Int)), (v44 : Value))]).map (·.1))))).length : Nat) : Int)), (32, .int .i64 ((i : Nat) : Int))] ∧ Ext w0 wl ∧ Own shStr 9 w52.heap.size w52.heap.size w60.heap.size wl v59 ((allK ((([((x22.2 : List (Str × Int)), (v29 : Value)), ((x37.2 : List (Str × Int)), (v44 : Value))]).map (·.1))))) ∧ Own shStr 9 w60.heap.size w60.heap.size wl.heap.size wl v acc ∧ w60.heap.size ≤ wl.heap.size ∧ (∀ q, Value.ownBlock v = some q → Value.ownBlock v59 ≠ some q) ∧ (i ≤ (allK ((([((x22.2 : List (Str × Int)), (v29 : Value)), ((x37.2 : List (Str × Int)), (v44 : Value))]).map (·.1)))).length) ∧ ((allK ((([((x22.2 : List (Str × Int)), (v29 : Value)), ((x37.2 : List (Str × Int)), (v44 : Value))]).map (·.1)))) = allK [lnV list ca, lnV list cb]) ∧ ((allK ((([((x22.2 : List (Str × Int)), (v29 : Value)), ((x37.2 : List (Str × Int)), (v44 : Value))]).map (·.1)))).length ≤ 16) ∧ (acc.length ≤ i) ∧ (acc ++ kcL (lnV list ca) (lnV list cb) ((allK ((([((x22.2 : List (Str × Int)), (v29 : Value)), ((x37.2 : List (Str × Int)), (v44 : Value))]).map (·.1)))).drop i) = kcL (lnV list ca) (lnV list cb) (allK [lnV list ca, lnV list cb]))) (fun (⟨i, v, acc⟩ : Nat × Value × (List Str)) => (allK ((([((x22.2 : List (Str × Int)), (v29 : Value)), ((x37.2 : List (Str × Int)), (v44 : Value))]).map (·.1)))).length - i) (0, (.slice none 0 0), []) ?_ ?_
  ·
   exact ⟨(Sl.cons_ ha66 rfl rfl (Sl.cons_ ha66 rfl rfl (Sl.cons_ ha66 rfl rfl (Sl.cons_ ha66 rfl rfl (Sl.cons_ ha66 rfl rfl (Sl.cons_ ha66 rfl rfl (Sl.cons_ ha66 rfl (int_eq (by omega)) (Sl.nil_ ha66)))))))), hx65, ho62, (Own.nil _ _ _ _ _ _), (by omega), (by intro q hq; cases hq), (by omega), (by rw [hlex22, hlex37]; rfl), (by have h8 := keS_len [x22.2, x37.2] [] (fun q hq => by simp only [List.mem_cons, List.not_mem_nil, or_false] at hq; rcases hq with rfl | rfl <;> assumption); simpa [allK] using h8), (by exact Nat.zero_le _), (by rw [hlex22, hlex37]; rfl)⟩
  ·
   clear ha66 a66
   rintro ⟨i, v, acc⟩ a72 w67 ⟨ha72, hx68, hf70, hf69, hzl73, hsp71, hi, hK, hK2, hl, hF⟩
   have hzhx68 := hx68.size
   refine wp_seq ?_
   refine wp_region_lit ?_
   refine wl_val ha72 rfl rfl rfl (op_lss ha72 rfl rfl rfl) ?_
   intro a74 ha74; clear ha72 a72
   refine wpList_nil ?_
   refine then_n ?_
   refine wp_seq ?_
   by_cases c75 : ((i : Nat) : Int) < ((((allK ((([((x22.2 : List (Str × Int)), (v29 : Value)), ((x37.2 : List (Str × Int)), (v44 : Value))]).map (·.1))))).length : Nat) : Int)
   ·
    rw [decide_eq_true c75] at ha74
    refine cond_t ha74 rfl ?_
    refine wp_skip ?_
    refine then_n ?_
    refine wp_seq ?_
    refine wp_block ?_
    refine wp_seq ?_
    refine wp_region_lit ?_
    obtain ⟨x76, hx76⟩ := get_ex (xs := (allK ((([((x22.2 : List (Str × Int)), (v29 : Value)), ((x37.2 : List (Str × Int)), (v44 : Value))]).map (·.1))))) (j := i) (by omega)
    obtain ⟨p77, c78, hi79, hc80, hr81, hs82⟩ := Rds.at_ (hf70.rds pos_shStr) hx76
    obtain ⟨rfl, b83⟩ := inv_shStr hr81
    obtain ⟨_, _⟩ : _ ∧ _ := hs82
    refine wl_val ha74 rfl rfl rfl (op_indexAddr ha74 rfl Try.underlying24 ti9 rfl rfl (by omega) hi79) ?_
    intro a84 ha84; clear ha74 a74
    refine wl_val ha84 rfl rfl rfl (op_loadH ha84 rfl Try.underlying9 rfl rfl hc80 rfl) ?_
    intro a85 ha85; clear ha84 a84
    refine wl_val ha85 rfl rfl rfl (op_assign ha85 rfl rfl) ?_
    intro a86 ha86; clear ha85 a85
    refine wpList_nil ?_
    refine then_n ?_
    refine wp_seq ?_
    refine dr_enter Ext follows_mixed ?_
    intro w87 he88
    have hx89 := hx68.trans' he88
    have hzhx89 := he88.size
    replace hf70 := hf70.ext he88
    replace hf69 := hf69.ext he88
    replace hc80 := hc80.ext he88
    have hs90 : Ext w87 w87 := Ext.rfl' _
    refine dr_val (i := 0) ha86 rfl (by kernel_rfl) (by kernel_rfl) (by kernel_rfl) rfl rfl rfl hs90 (fun w' hw' => op_move ha86 rfl rfl) ?_
    intro a91 ha91; clear ha86 a86
    refine dr_val (i := 1) ha91 rfl (by kernel_rfl) (by kernel_rfl) (by kernel_rfl) rfl rfl rfl hs90 (fun w' hw' => op_move ha91 rfl rfl) ?_
    intro a92 ha92; clear ha91 a91
    refine dr_val (i := 2) ha92 rfl (by kernel_rfl) (by kernel_rfl) (by kernel_rfl) rfl rfl rfl hs90 (fun w' hw' => op_indexAddr ha92 rfl Try.underlying27 ti56 rfl rfl (by omega) hi25) ?_
    intro a93 ha93; clear ha92 a92
    refine dr_val (i := 3) ha93 rfl (by kernel_rfl) (by kernel_rfl) (by kernel_rfl) rfl rfl rfl hs90 (fun w' hw' => op_fieldAddr (sz := 0) ha93 rfl Try.underlying56 rfl rfl ti34 rfl) ?_
    intro a94 ha94; clear ha93 a93
    refine dr_val (i := 4) ha94 rfl (by kernel_rfl) (by kernel_rfl) (by kernel_rfl) rfl rfl rfl hs90 (fun w' hw' => op_loadF (off := 1) ha94 rfl Try.underlying34 rfl rfl (hc26.ext (hx89.trans' hw')) rfl) ?_
    intro a95 ha95; clear ha94 a94
    refine dr_val (i := 5) ha95 rfl (by kernel_rfl) (by kernel_rfl) (by kernel_rfl) rfl rfl rfl hs90 (fun w' hw' => op_move ha95 rfl rfl) ?_
    intro a96 ha96; clear ha95 a95
    refine dr_val (i := 7) ha96 rfl (by kernel_rfl) (by kernel_rfl) (by kernel_rfl) rfl rfl rfl hs90 (fun w' hw' => op_move ha96 rfl rfl) ?_
    intro a97 ha97; clear ha96 a96
    refine dr_val (i := 8) ha97 rfl (by kernel_rfl) (by kernel_rfl) (by kernel_rfl) rfl rfl rfl hs90 (fun w' hw' => op_move ha97 rfl rfl) ?_
    intro a98 ha98; clear ha97 a97
    refine dr_val (i := 9) ha98 rfl (by kernel_rfl) (by kernel_rfl) (by kernel_rfl) rfl rfl rfl hs90 (fun w' hw' => op_indexAddr ha98 rfl Try.underlying27 ti56 rfl rfl (by omega) hi40) ?_
    intro a99 ha99; clear ha98 a98
    refine dr_val (i := 10) ha99 rfl (by kernel_rfl) (by kernel_rfl) (by kernel_rfl) rfl rfl rfl hs90 (fun w' hw' => op_fieldAddr (sz := 0) ha99 rfl Try.underlying56 rfl rfl ti34 rfl) ?_
    intro a100 ha100; clear ha99 a99
    refine dr_val (i := 11) ha100 rfl (by kernel_rfl) (by kernel_rfl) (by kernel_rfl) rfl rfl rfl hs90 (fun w' hw' => op_loadF (off := 1) ha100 rfl Try.underlying34 rfl rfl (hc41.ext (hx89.trans' hw')) rfl) ?_
    intro a101 ha101; clear ha100 a100
    refine dr_val (i := 12) ha101 rfl (by kernel_rfl) (by kernel_rfl) (by kernel_rfl) rfl rfl rfl hs90 (fun w' hw' => op_move ha101 rfl rfl) ?_
    intro a102 ha102; clear ha101 a101
    refine dr_one (i := 6) (by kernel_rfl) ?_
    refine po_callR ha102 rfl rfl rfl rfl (op_call ha102 rfl cb56 rfl) (c_impl_valueOf _ v29 x22.2 x76 (b31.ext pos_shLine (hx89.trans' hs90))) ?_
    rintro v103 w104 he105 rfl a106 ha106; clear ha102 a102
    have hs107 := hs90.trans' he105
    have hx108 := hx89.trans' he105
    have hzhx108 := he105.size
    refine ⟨hs107, ?_⟩
    refine dr_one (i := 13) (by kernel_rfl) ?_
    refine po_callR ha106 rfl rfl rfl rfl (op_call ha106 rfl cb56 rfl) (c_impl_valueOf _ v44 x37.2 x76 (b46.ext pos_shLine (hx89.trans' hs107))) ?_
    rintro v109 w110 he111 rfl a112 ha112; clear ha106 a106
    have hs113 := hs107.trans' he111
    have hx114 := hx108.trans' he111
    have hzhx114 := he111.size
    refine ⟨hs113, ?_⟩
    refine dr_val (i := 14) ha112 rfl (by kernel_rfl) (by kernel_rfl) (by kernel_rfl) rfl rfl rfl hs113 (fun w' hw' => (op_neq ha112 rfl rfl rfl).to (congrArg Value.bool decide_not)) ?_
    intro a115 ha115; clear ha112 a112
    refine dr_end (by kernel_rfl) ?_
    replace hf70 := hf70.ext hs113
    replace hf69 := hf69.ext hs113
    replace hc80 := hc80.ext hs113
    refine then_n ?_
    by_cases c116 : (valV x76 x22.2 : Int) = (valV x76 x37.2 : Int)
    ·
     rw [decide_eq_true c116] at ha115
     refine cond_f ha115 rfl ?_
     refine wp_skip ?_
     refine block_n ?_
     refine then_n ?_
     refine wp_region_lit ?_
     refine wl_val ha115 rfl rfl rfl ((op_add ha115 rfl rfl rfl).int (IntWalk.i64_in _ (by omega))) ?_
     intro a117 ha117; clear ha115 a115
     refine wl_val ha117 rfl rfl rfl (op_move ha117 rfl rfl) ?_
     intro a118 ha118; clear ha117 a117
     refine wpList_nil ?_
     refine round_end (x := (i, v, acc)) ((i + 1), v, acc) ?_ ?_
     ·
      refine ⟨(Sl.cons_ ha118 rfl rfl (Sl.cons_ ha118 rfl rfl (Sl.cons_ ha118 rfl rfl (Sl.cons_ ha118 rfl rfl (Sl.cons_ ha118 rfl rfl (Sl.cons_ ha118 rfl rfl (Sl.cons_ ha118 rfl (int_eq (by omega)) (Sl.nil_ ha118)))))))), hx114, hf70, (hf69.fin (by omega) (by omega) (by omega)), (by omega), (by intro q hq; first | (intro hb; have hq0 := hf69.lt q hq; have hq1 := hf70.lt q hb; omega) | exact hsp71 q hq), (by omega), (by exact hK), (by exact hK2), (by first | omega | (simp; omega)), (by rw [← hlex22, ← hlex37] at c116; rw [drop_cons hx76, kcL, if_pos c116] at hF; exact hF)⟩
     ·show ((allK ((([((x22.2 : List (Str × Int)), (v29 : Value)), ((x37.2 : List (Str × Int)), (v44 : Value))]).map (·.1)))).length - ((i + 1)) : Nat) < (allK ((([((x22.2 : List (Str × Int)), (v29 : Value)), ((x37.2 : List (Str × Int)), (v44 : Value))]).map (·.1)))).length - i; omega
    ·
     rw [decide_eq_false c116] at ha115
     refine cond_t ha115 rfl ?_
     refine wp_region_lit ?_
     refine wl_val ha115 rfl rfl rfl (op_move ha115 rfl rfl) ?_
     intro a119 ha119; clear ha115 a115
     refine wl_val ha119 rfl rfl rfl (op_move ha119 rfl rfl) ?_
     intro a120 ha120; clear ha119 a119
     refine wl_eff ha120 rfl rfl rfl (op_buildSlice (s := shStr) (xs := [x76]) (cs := [St x76]) (vs := [(0, St x76)]) (S := fun _ => False) (le := w110.heap.size) ha120 rfl pos_shStr Try.underlying24 ti9 rfl rfl (by decide) (by kernel_rfl) (Els.single (mk_shStr x76 (by first | assumption | omega | (simp; done)))) (fun _ h => h.elim)) ?_
     rintro v121 w122 ⟨ho123, he124, hob125⟩ a126 ha126; clear ha120 a120
     have hx127 := hx114.trans' he124
     have hzhx127 := he124.size
     replace hf70 := hf70.ext he124
     replace hf69 := hf69.ext he124
     replace hc80 := hc80.ext he124
     refine wl_eff ha126 rfl rfl rfl (op_append (ts := #[]) (s := shStr) ha126 rfl Try.underlying24 ti9 rfl pos_shStr rfl rfl hf69 (ho123.rds pos_shStr) (by omega) (by omega) (by first | omega | (simp; omega)) (by first | omega | (simp; omega)) (.inl flat_shStr)) ?_
     rintro v128 w129 ⟨ho130, hst131, hob132⟩ a133 ha133; clear ha126 a126
     have hx134 := hx127.stp hst131 (by intro q hq; have hq0 := hf69.lt q hq; omega)
     have hzhx134 := hst131.size
     replace hf70 := hf70.stp hst131 (by intro q hq; have hq0 := hf69.lt q hq; omega)
     replace ho123 := ho123.stp hst131 (by intro q hq; have hq0 := hf69.lt q hq; omega)
     have hsp135 : ∀ q, Value.ownBlock v128 = some q → Value.ownBlock v59 ≠ some q := by intro q hq hb; have hq0 := hf70.lt q hb; rcases hob132 with h | h; (rw [h] at hq; first | (have hq1 := hf69.lt q hq; omega) | exact hsp71 q hq hb); (rw [h] at hq; cases hq; omega)
     have hsp136 : ∀ q, Value.ownBlock v128 = some q → Value.ownBlock v121 ≠ some q := by intro q hq hb; have hq0 := ho123.lt q hb; rcases hob132 with h | h; (rw [h] at hq; first | (have hq1 := hf69.lt q hq; omega)); (rw [h] at hq; cases hq; omega)
     refine wl_val ha133 rfl rfl rfl (op_assign ha133 rfl rfl) ?_
     intro a137 ha137; clear ha133 a133
     refine wpList_nil ?_
     refine block_n ?_
     refine then_n ?_
     refine wp_region_lit ?_
     refine wl_val ha137 rfl rfl rfl ((op_add ha137 rfl rfl rfl).int (IntWalk.i64_in _ (by omega))) ?_
     intro a138 ha138; clear ha137 a137
     refine wl_val ha138 rfl rfl rfl (op_move ha138 rfl rfl) ?_
     intro a139 ha139; clear ha138 a138
     refine wpList_nil ?_
     refine round_end (x := (i, v, acc)) ((i + 1), v128, (acc ++ [x76])) ?_ ?_
     ·
      refine ⟨(Sl.cons_ ha139 rfl rfl (Sl.cons_ ha139 rfl rfl (Sl.cons_ ha139 rfl rfl (Sl.cons_ ha139 rfl rfl (Sl.cons_ ha139 rfl rfl (Sl.cons_ ha139 rfl rfl (Sl.cons_ ha139 rfl (int_eq (by omega)) (Sl.nil_ ha139)))))))), hx134, hf70, (ho130.fin (by omega) (by omega) (by omega)), (by omega), (by intro q hq; first | (intro hb; have hq0 := ho130.lt q hq; have hq1 := hf70.lt q hb; omega) | exact hsp135 q hq), (by omega), (by exact hK), (by exact hK2), (by first | omega | (simp; omega)), (by rw [← hlex22, ← hlex37] at c116; rw [drop_cons hx76, kcL, if_neg c116] at hF; rw [List.append_assoc]; exact hF)⟩
     ·show ((allK ((([((x22.2 : List (Str × Int)), (v29 : Value)), ((x37.2 : List (Str × Int)), (v44 : Value))]).map (·.1)))).length - ((i + 1)) : Nat) < (allK ((([((x22.2 : List (Str × Int)), (v29 : Value)), ((x37.2 : List (Str × Int)), (v44 : Value))]).map (·.1)))).length - i; omega
   ·
    rw [decide_eq_false c75] at ha74
    refine cond_f ha74 rfl ?_
    refine wp_exit ?_
    refine then_e ?_
    refine then_e ?_
    refine block_hit ?_
    refine then_n ?_
    refine wp_seq ?_
    refine wp_region_lit ?_
    refine wl_val ha74 rfl rfl rfl (op_move ha74 rfl rfl) ?_
    intro a140 ha140; clear ha74 a74
    refine wl_val ha140 rfl rfl rfl (op_assign ha140 rfl rfl) ?_
    intro a141 ha141; clear ha140 a140
    refine wl_val ha141 rfl rfl rfl (op_assign ha141 rfl rfl) ?_
    intro a142 ha142; clear ha141 a141
    refine wpList_nil ?_
    refine then_n ?_
    refine wp_ret ?_
    refine ret2 ha142 rfl rfl rfl ?_
    clear ha142 a142
    have hr : acc = kcV list ca cb := (by rw [drop_nil (by omega), kcL, List.append_nil] at hF; rw [hF]; unfold kcV; rw [if_pos (by assumption)])
    refine ret_mk hx68 ⟨v, (tup2_eq rfl (int_eq (by first | rfl | omega | exact Eq.symm (by assumption)))), ?_⟩
    ·refine (hf69.fin (by omega) (by omega) (by omega)).cast ?_
     first | exact hr | exact hr.symm
 ·
  rw [decide_eq_false c14] at ha13
  refine cond_t ha13 rfl ?_
  refine wp_seq ?_
  refine wp_region_lit ?_
  refine wl_val ha13 rfl rfl rfl (op_move ha13 rfl rfl) ?_
  intro a143 ha143; clear ha13 a13
  refine wl_val ha143 rfl rfl rfl (op_assign ha143 rfl rfl) ?_
  intro a144 ha144; clear ha143 a143
  refine wl_val ha144 rfl rfl rfl (op_assign ha144 rfl rfl) ?_
  intro a145 ha145; clear ha144 a144
  refine wpList_nil ?_
  refine then_n ?_
  refine wp_ret ?_
  refine then_r ?_
  refine ret2 ha145 rfl rfl rfl ?_
  clear ha145 a145
  have hr : kcV list ca cb = [] := (by unfold kcV; rw [if_neg (by assumption)])
  refine ret_mk hx10 ⟨.slice none 0 0, (tup2_eq rfl (int_eq (by first | rfl | omega | exact Eq.symm (by assumption)))), ?_⟩
  ·refine Own.nil_ _ _ _ _ _ _ ?_
   first | exact hr | exact hr.symm

set_option maxHeartbeats 4000000 in
theorem c_spec_KeysChanged (w0 : World) (v_list : Value) (list : List (Int × List (Str × Int))) {S_list : Nat → Prop} (ca : Int) (cb : Int) (h_list : Rds shVer S_list w0 v_list list) :
  Calls Try.prog 9 #[v_list, .int .i64 ca, .int .i64 cb] w0 (Ret w0 (fun v w1 => ∃ r0, v = .tuple #[r0, .int .i64 (cdV list ca cb)] ∧ Own shStr 9 w0.heap.size w0.heap.size w1.heap.size w1 r0 (kcV list ca cb))) := by
 refine enter (N := 63) Try.func9 rfl rfl rfl ?_
 intro a0 ha0
 have hx0 := Ext.rfl' w0
 have hl_list := h_list.length_le
 refine wp_seq ?_
 refine wp_region_lit ?_
 refine wl_val ha0 rfl rfl rfl (op_assign ha0 rfl rfl) ?_
 intro a1 ha1; clear ha0 a0
 refine wl_val ha1 rfl rfl rfl (op_assign ha1 rfl rfl) ?_
 intro a2 ha2; clear ha1 a1
 refine wpList_nil ?_
 refine then_n ?_
 refine wp_seq ?_
 refine wp_region_lit ?_
 refine wl_val ha2 rfl rfl rfl (op_move ha2 rfl rfl) ?_
 intro a3 ha3; clear ha2 a2
 refine wl_val ha3 rfl rfl rfl (op_move ha3 rfl rfl) ?_
 intro a4 ha4; clear ha3 a3
 refine wl_val ha4 rfl rfl rfl (op_move ha4 rfl rfl) ?_
 intro a5 ha5; clear ha4 a4
 refine wl_callR ha5 rfl rfl rfl (op_call ha5 rfl cb50 rfl) (c_spec_l29Code _ v_list list ca cb (h_list.ext pos_shVer hx0)) ?_
 rintro v6 w7 he8 rfl a9 ha9; clear ha5 a5
 have hx10 := hx0.trans' he8
 have hzhx10 := he8.size
 refine wl_val ha9 rfl rfl rfl (op_assign ha9 rfl rfl) ?_
 intro a11 ha11; clear ha9 a9
 refine wpList_nil ?_
 refine then_n ?_
 refine wp_seq ?_
 refine wp_seq ?_
 refine wp_region_lit ?_
 refine wl_val ha11 rfl rfl rfl (op_move ha11 rfl rfl) ?_
 intro a12 ha12; clear ha11 a11
 refine wl_val ha12 rfl rfl rfl ((op_neq ha12 rfl rfl rfl).to (congrArg Value.bool decide_not)) ?_
 intro a13 ha13; clear ha12 a12
 refine wpList_nil ?_
 refine then_n ?_
 by_cases c14 : (cdV list ca cb : Int) = (0 : Int)
 ·
  rw [decide_eq_true c14] at ha13
  obtain ⟨hv1, hv2, hv3⟩ := cdV_ok c14
  have hlen := veB_len hv1
  have hia := in_bd hv2
  have hib := in_bd hv3
  refine cond_f ha13 rfl ?_
  refine wp_skip ?_
  refine then_n ?_
  refine wp_seq ?_
  refine dr_enter Ext follows_mixed ?_
  intro w15 he16
  have hx17 := hx10.trans' he16
  have hzhx17 := he16.size
  have hs18 : Ext w15 w15 := Ext.rfl' _
  refine dr_val (i := 0) ha13 rfl (by kernel_rfl) (by kernel_rfl) (by kernel_rfl) rfl rfl rfl hs18 (fun w' hw' => op_move ha13 rfl rfl) ?_
  intro a19 ha19; clear ha13 a13
  refine dr_val (i := 1) ha19 rfl (by kernel_rfl) (by kernel_rfl) (by kernel_rfl) rfl rfl rfl hs18 (fun w' hw' => op_move ha19 rfl rfl) ?_
  intro a20 ha20; clear ha19 a19
  obtain ⟨x21, hx21⟩ := get_ex (xs := list) (j := ca.toNat) (by omega)
  obtain ⟨p22, c23, hi24, hc25, hr26, hs27⟩ := Rds.at_ h_list hx21
  obtain ⟨v28, rfl, b29, b30⟩ := inv_shVer hr26
  have hlb30 := b30.length_le
  have hvex21 := veB_at hv1 hx21
  have hlex21 := lnV_eq hx21
  have hlxx21 := shB_len hvex21.1
  have hshx21 := hvex21.1
  refine dr_val (i := 2) ha20 rfl (by kernel_rfl) (by kernel_rfl) (by kernel_rfl) rfl rfl rfl hs18 (fun w' hw' => op_indexAddr ha20 rfl Try.underlying27 ti56 rfl rfl (by omega) hi24) ?_
  intro a31 ha31; clear ha20 a20
  refine dr_val (i := 3) ha31 rfl (by kernel_rfl) (by kernel_rfl) (by kernel_rfl) rfl rfl rfl hs18 (fun w' hw' => op_fieldAddr (sz := 0) ha31 rfl Try.underlying56 rfl rfl ti34 rfl) ?_
  intro a32 ha32; clear ha31 a31
  refine dr_val (i := 4) ha32 rfl (by kernel_rfl) (by kernel_rfl) (by kernel_rfl) rfl rfl rfl hs18 (fun w' hw' => op_loadF (off := 1) ha32 rfl Try.underlying34 rfl rfl (hc25.ext (hx17.trans' hw')) rfl) ?_
  intro a33 ha33; clear ha32 a32
  refine dr_val (i := 5) ha33 rfl (by kernel_rfl) (by kernel_rfl) (by kernel_rfl) rfl rfl rfl hs18 (fun w' hw' => op_move ha33 rfl rfl) ?_
  intro a34 ha34; clear ha33 a33
  refine dr_val (i := 6) ha34 rfl (by kernel_rfl) (by kernel_rfl) (by kernel_rfl) rfl rfl rfl hs18 (fun w' hw' => op_move ha34 rfl rfl) ?_
  intro a35 ha35; clear ha34 a34
  obtain ⟨x36, hx36⟩ := get_ex (xs := list) (j := cb.toNat) (by omega)
  obtain ⟨p37, c38, hi39, hc40, hr41, hs42⟩ := Rds.at_ h_list hx36
  obtain ⟨v43, rfl, b44, b45⟩ := inv_shVer hr41
  have hlb45 := b45.length_le
  have hvex36 := veB_at hv1 hx36
  have hlex36 := lnV_eq hx36
  have hlxx36 := shB_len hvex36.1
  have hshx36 := hvex36.1
  refine dr_val (i := 7) ha35 rfl (by kernel_rfl) (by kernel_rfl) (by kernel_rfl) rfl rfl rfl hs18 (fun w' hw' => op_indexAddr ha35 rfl Try.underlying27 ti56 rfl rfl (by omega) hi39) ?_
  intro a46 ha46; clear ha35 a35
  refine dr_val (i := 8) ha46 rfl (by kernel_rfl) (by kernel_rfl) (by kernel_rfl) rfl rfl rfl hs18 (fun w' hw' => op_fieldAddr (sz := 0) ha46 rfl Try.underlying56 rfl rfl ti34 rfl) ?_
  intro a47 ha47; clear ha46 a46
  refine dr_val (i := 9) ha47 rfl (by kernel_rfl) (by kernel_rfl) (by kernel_rfl) rfl rfl rfl hs18 (fun w' hw' => op_loadF (off := 1) ha47 rfl Try.underlying34 rfl rfl (hc40.ext (hx17.trans' hw')) rfl) ?_
  intro a48 ha48; clear ha47 a47
  refine dr_val (i := 10) ha48 rfl (by kernel_rfl) (by kernel_rfl) (by kernel_rfl) rfl rfl rfl hs18 (fun w' hw' => op_assign ha48 rfl rfl) ?_
  intro a49 ha49; clear ha48 a48
  refine dr_val (i := 11) ha49 rfl (by kernel_rfl) (by kernel_rfl) (by kernel_rfl) rfl rfl rfl hs18 (fun w' hw' => op_assign ha49 rfl rfl) ?_
  intro a50 ha50; clear ha49 a49
  refine dr_end (by kernel_rfl) ?_
  refine then_n ?_
  refine wp_seq ?_
  refine wp_region_lit ?_
  refine wl_eff ha50 rfl rfl rfl (op_buildSlice (s := shStr) (xs := ([] : List Str)) (cs := []) (vs := []) (S := fun _ => False) (le := w15.heap.size) ha50 rfl pos_shStr Try.underlying24 ti9 rfl rfl (by decide) (by kernel_rfl) rfl (fun _ h => h.elim)) ?_
  rintro v51 w52 ⟨ho53, he54, hob55⟩ a56 ha56; clear ha50 a50
  have hx57 := hx17.trans' he54
  have hzhx57 := he54.size
  refine wl_val ha56 rfl rfl rfl (op_assign ha56 rfl rfl) ?_
  intro a58 ha58; clear ha56 a56
  refine wpList_nil ?_
  refine then_n ?_
  refine wp_seq ?_
  refine wp_region_lit ?_
  refine wl_val ha58 rfl rfl rfl (op_move ha58 rfl rfl) ?_
  intro a59 ha59; clear ha58 a58
  refine wl_val ha59 rfl rfl rfl (op_move ha59 rfl rfl) ?_
  intro a60 ha60; clear ha59 a59
  refine wl_eff ha60 rfl rfl rfl (op_buildSlice (s := shLnsN) (xs := [((x21.2 : List (Str × Int)), (v28 : Value)), ((x36.2 : List (Str × Int)), (v43 : Value))]) (cs := [v28, v43]) (vs := [(0, v28), (1, v43)]) (S := fun _ => False) (le := w52.heap.size) ha60 rfl pos_shLnsN Try.underlying72 ti34 rfl rfl (by decide) ((fill_one (off := 0) b30.cells1 (by kernel_rfl) (by kernel_rfl)).trans ((fill_one (off := 1) b45.cells1 (by kernel_rfl) (by kernel_rfl)).trans (by kernel_rfl))) ⟨mk_shLnsN (((x21.2 : List (Str × Int)), (v28 : Value))) b30.one, mk_shLnsN (((x36.2 : List (Str × Int)), (v43 : Value))) b45.one, rfl⟩ (fun _ h => h.elim)) ?_
  rintro v61 w62 ⟨ho63, he64, hob65⟩ a66 ha66; clear ha60 a60
  have hx67 := hx57.trans' he64
  have hzhx67 := he64.size
  replace ho53 := ho53.ext he64
  refine wl_callR ha66 rfl rfl rfl (op_call ha66 rfl cb51 rfl) (c_spec_l29Keys _ v61 ((([((x21.2 : List (Str × Int)), (v28 : Value)), ((x36.2 : List (Str × Int)), (v43 : Value))]).map (·.1))) (rdsR_shLnsN (lo := w52.heap.size) (hi := w62.heap.size) (ho63.fin (by omega) (by omega) (by omega)) (by intro z hz; simp only [List.mem_cons, List.not_mem_nil, or_false] at hz; first | (rcases hz with rfl | rfl | rfl <;> assumption) | (rcases hz with rfl | rfl <;> assumption)) hx67) (by first | assumption | omega | (simp; done) | (simp; omega)) (by intro q hq; simp only [List.map_cons, List.map_nil, List.mem_cons, List.not_mem_nil, or_false] at hq; first | (rcases hq with rfl | rfl | rfl <;> assumption) | (rcases hq with rfl | rfl <;> assumption))) ?_
  rintro v68 w69 he70 ho71 a72 ha72; clear ha66 a66
  have hx73 := hx67.trans' he70
  have hzhx73 := he70.size
  replace ho53 := ho53.ext he70
  replace ho63 := ho63.ext he70
  refine wl_val ha72 rfl rfl rfl (op_assign ha72 rfl rfl) ?_
  intro a74 ha74; clear ha72 a72
  refine wpList_nil ?_
  refine then_n ?_
  refine wp_seq ?_
  refine wp_seq ?_
  refine wp_region_lit ?_
  refine wl_val ha74 rfl rfl rfl (op_assign ha74 rfl rfl) ?_
  intro a75 ha75; clear ha74 a74
  refine wpList_nil ?_
  refine then_n ?_
  refine wp_block ?_
  refine loop_inv (X := Nat × Value × (List Str)) (fun (⟨i, v, acc⟩ : Nat × Value × (List Str)) fr wl => Sl 63 fr [(9, v28), (10, v43), (11, v), (12, v68), (13, .int .i64 ((i : Nat) : Int))] ∧ Ext w0 wl ∧ Own shStr 9 w62.heap.size w62.heap.size w69.heap.size wl v68 ((allK ((([((x21.2 : List (Str × Int)), (v28 : Value)), ((x36.2 : List (Str × Int)), (v43 : Value))]).map (·.1))))) ∧ Own shStr 9 w15.heap.size w15.heap.size wl.heap.size wl v acc ∧ w69.heap.size ≤ wl.heap.size ∧ (∀ q, Value.ownBlock v = some q → Value.ownBlock v68 ≠ some q) ∧ (i ≤ (allK ((([((x21.2 : List (Str × Int)), (v28 : Value)), ((x36.2 : List (Str × Int)), (v43 : Value))]).map (·.1)))).length) ∧ ((allK ((([((x21.2 : List (Str × Int)), (v28 : Value)), ((x36.2 : List (Str × Int)), (v43 : Value))]).map (·.1)))) = allK [lnV list ca, lnV list cb]) ∧ ((allK ((([((x21.2 : List (Str × Int)), (v28 : Value)), ((x36.2 : List (Str × Int)), (v43 : Value))]).map (·.1)))).length ≤ 16) ∧ (acc.length ≤ i) ∧ (acc ++ kcL (lnV list ca) (lnV list cb) ((allK ((([((x21.2 : List (Str × Int)), (v28 : Value)), ((x36.2 : List (Str × Int)), (v43 : Value))]).map (·.1)))).drop i) = kcL (lnV list ca) (lnV list cb) (allK [lnV list ca, lnV list cb]))) (fun (⟨i, v, acc⟩ : Nat × Value × (List Str)) => (allK ((([((x21.2 : List (Str × Int)), (v28 : Value)), ((x36.2 : List (Str × Int)), (v43 : Value))]).map (·.1)))).length - i) (0, v51, ([] : List Str)) ?_ ?_
  ·
   exact ⟨(Sl.cons_ ha75 rfl rfl (Sl.cons_ ha75 rfl rfl (Sl.cons_ ha75 rfl rfl (Sl.cons_ ha75 rfl rfl (Sl.cons_ ha75 rfl (int_eq (by omega)) (Sl.nil_ ha75)))))), hx73, ho71, (ho53.fin (by omega) (by omega) (by omega)), (by omega), (by intro q hq; first | (intro hb; have hq0 := ho53.lt q hq; have hq1 := ho71.lt q hb; omega)), (by omega), (by rw [hlex21, hlex36]; rfl), (by have h8 := keS_len [x21.2, x36.2] [] (fun q hq => by simp only [List.mem_cons, List.not_mem_nil, or_false] at hq; rcases hq with rfl | rfl <;> assumption); simpa [allK] using h8), (by exact Nat.zero_le _), (by rw [hlex21, hlex36]; rfl)⟩
  ·
   clear ha75 a75
   rintro ⟨i, v, acc⟩ a81 w76 ⟨ha81, hx77, hf79, hf78, hzl82, hsp80, hi, hK, hK2, hl, hF⟩
   have hzhx77 := hx77.size
   refine wp_seq ?_
   refine wp_seq ?_
   refine wp_region_lit ?_
   refine wl_val ha81 rfl rfl rfl (op_move ha81 rfl rfl) ?_
   intro a83 ha83; clear ha81 a81
   refine wl_val ha83 rfl rfl rfl (op_move ha83 rfl rfl) ?_
   intro a84 ha84; clear ha83 a83
   refine wl_val ha84 rfl rfl rfl (op_len_sl ha84 rfl Try.underlying24 rfl (hf79.rds pos_shStr)) ?_
   intro a85 ha85; clear ha84 a84
   refine wl_val ha85 rfl rfl rfl (op_lss ha85 rfl rfl rfl) ?_
   intro a86 ha86; clear ha85 a85
   refine wpList_nil ?_
   refine then_n ?_
   by_cases c87 : ((i : Nat) : Int) < ((((allK ((([((x21.2 : List (Str × Int)), (v28 : Value)), ((x36.2 : List (Str × Int)), (v43 : Value))]).map (·.1))))).length : Nat) : Int)
   ·
    rw [decide_eq_true c87] at ha86
    refine cond_t ha86 rfl ?_
    refine wp_skip ?_
    refine then_n ?_
    refine wp_seq ?_
    refine wp_block ?_
    refine wp_seq ?_
    refine dr_enter Ext follows_mixed ?_
    intro w88 he89
    have hx90 := hx77.trans' he89
    have hzhx90 := he89.size
    replace hf79 := hf79.ext he89
    replace hf78 := hf78.ext he89
    have hs91 : Ext w88 w88 := Ext.rfl' _
    refine dr_val (i := 0) ha86 rfl (by kernel_rfl) (by kernel_rfl) (by kernel_rfl) rfl rfl rfl hs91 (fun w' hw' => op_move ha86 rfl rfl) ?_
    intro a92 ha92; clear ha86 a86
    refine dr_val (i := 1) ha92 rfl (by kernel_rfl) (by kernel_rfl) (by kernel_rfl) rfl rfl rfl hs91 (fun w' hw' => op_move ha92 rfl rfl) ?_
    intro a93 ha93; clear ha92 a92
    refine dr_val (i := 2) ha93 rfl (by kernel_rfl) (by kernel_rfl) (by kernel_rfl) rfl rfl rfl hs91 (fun w' hw' => op_move ha93 rfl rfl) ?_
    intro a94 ha94; clear ha93 a93
    obtain ⟨x95, hx95⟩ := get_ex (xs := (allK ((([((x21.2 : List (Str × Int)), (v28 : Value)), ((x36.2 : List (Str × Int)), (v43 : Value))]).map (·.1))))) (j := i) (by omega)
    obtain ⟨p96, c97, hi98, hc99, hr100, hs101⟩ := Rds.at_ (hf79.rds pos_shStr) hx95
    obtain ⟨rfl, b102⟩ := inv_shStr hr100
    obtain ⟨_, _⟩ : _ ∧ _ := hs101
    refine dr_val (i := 3) ha94 rfl (by kernel_rfl) (by kernel_rfl) (by kernel_rfl) rfl rfl rfl hs91 (fun w' hw' => op_indexAddr ha94 rfl Try.underlying24 ti9 rfl rfl (by omega) hi98) ?_
    intro a103 ha103; clear ha94 a94
    refine dr_val (i := 4) ha103 rfl (by kernel_rfl) (by kernel_rfl) (by kernel_rfl) rfl rfl rfl hs91 (fun w' hw' => op_loadH ha103 rfl Try.underlying9 rfl rfl (hc99.ext hw') rfl) ?_
    intro a104 ha104; clear ha103 a103
    refine dr_val (i := 6) ha104 rfl (by kernel_rfl) (by kernel_rfl) (by kernel_rfl) rfl rfl rfl hs91 (fun w' hw' => op_move ha104 rfl rfl) ?_
    intro a105 ha105; clear ha104 a104
    refine dr_val (i := 7) ha105 rfl (by kernel_rfl) (by kernel_rfl) (by kernel_rfl) rfl rfl rfl hs91 (fun w' hw' => op_move ha105 rfl rfl) ?_
    intro a106 ha106; clear ha105 a105
    refine dr_val (i := 8) ha106 rfl (by kernel_rfl) (by kernel_rfl) (by kernel_rfl) rfl rfl rfl hs91 (fun w' hw' => op_move ha106 rfl rfl) ?_
    intro a107 ha107; clear ha106 a106
    refine dr_val (i := 9) ha107 rfl (by kernel_rfl) (by kernel_rfl) (by kernel_rfl) rfl rfl rfl hs91 (fun w' hw' => op_indexAddr ha107 rfl Try.underlying24 ti9 rfl rfl (by omega) hi98) ?_
    intro a108 ha108; clear ha107 a107
    refine dr_val (i := 10) ha108 rfl (by kernel_rfl) (by kernel_rfl) (by kernel_rfl) rfl rfl rfl hs91 (fun w' hw' => op_loadH ha108 rfl Try.underlying9 rfl rfl (hc99.ext hw') rfl) ?_
    intro a109 ha109; clear ha108 a108
    refine dr_one (i := 5) (by kernel_rfl) ?_
    refine po_callR ha109 rfl rfl rfl rfl (op_call ha109 rfl cb52 rfl) (c_spec_l29Value _ v28 x21.2 x95 (b30.ext pos_shLine (hx90.trans' hs91))) ?_
    rintro v110 w111 he112 rfl a113 ha113; clear ha109 a109
    have hs114 := hs91.trans' he112
    have hx115 := hx90.trans' he112
    have hzhx115 := he112.size
    refine ⟨hs114, ?_⟩
    refine dr_one (i := 11) (by kernel_rfl) ?_
    refine po_callR ha113 rfl rfl rfl rfl (op_call ha113 rfl cb52 rfl) (c_spec_l29Value _ v43 x36.2 x95 (b45.ext pos_shLine (hx90.trans' hs114))) ?_
    rintro v116 w117 he118 rfl a119 ha119; clear ha113 a113
    have hs120 := hs114.trans' he118
    have hx121 := hx115.trans' he118
    have hzhx121 := he118.size
    refine ⟨hs120, ?_⟩
    refine dr_val (i := 12) ha119 rfl (by kernel_rfl) (by kernel_rfl) (by kernel_rfl) rfl rfl rfl hs120 (fun w' hw' => (op_neq ha119 rfl rfl rfl).to (congrArg Value.bool decide_not)) ?_
    intro a122 ha122; clear ha119 a119
    refine dr_end (by kernel_rfl) ?_
    replace hf79 := hf79.ext hs120
    replace hf78 := hf78.ext hs120
    replace hc99 := hc99.ext hs120
    refine then_n ?_
    by_cases c123 : (valV x95 x21.2 : Int) = (valV x95 x36.2 : Int)
    ·
     rw [decide_eq_true c123] at ha122
     refine cond_f ha122 rfl ?_
     refine wp_skip ?_
     refine block_n ?_
     refine then_n ?_
     refine wp_region_lit ?_
     refine wl_val ha122 rfl rfl rfl (op_move ha122 rfl rfl) ?_
     intro a124 ha124; clear ha122 a122
     refine wl_val ha124 rfl rfl rfl ((op_add ha124 rfl rfl rfl).int (IntWalk.i64_in _ (by omega))) ?_
     intro a125 ha125; clear ha124 a124
     refine wl_val ha125 rfl rfl rfl (op_assign ha125 rfl rfl) ?_
     intro a126 ha126; clear ha125 a125
     refine wpList_nil ?_
     refine round_end (x := (i, v, acc)) ((i + 1), v, acc) ?_ ?_
     ·
      refine ⟨(Sl.cons_ ha126 rfl rfl (Sl.cons_ ha126 rfl rfl (Sl.cons_ ha126 rfl rfl (Sl.cons_ ha126 rfl rfl (Sl.cons_ ha126 rfl (int_eq (by omega)) (Sl.nil_ ha126)))))), hx121, hf79, (hf78.fin (by omega) (by omega) (by omega)), (by omega), (by intro q hq; first | (intro hb; have hq0 := hf78.lt q hq; have hq1 := hf79.lt q hb; omega) | exact hsp80 q hq), (by omega), (by exact hK), (by exact hK2), (by first | omega | (simp; omega)), (by rw [← hlex21, ← hlex36] at c123; rw [drop_cons hx95, kcL, if_pos c123] at hF; exact hF)⟩
     ·show ((allK ((([((x21.2 : List (Str × Int)), (v28 : Value)), ((x36.2 : List (Str × Int)), (v43 : Value))]).map (·.1)))).length - ((i + 1)) : Nat) < (allK ((([((x21.2 : List (Str × Int)), (v28 : Value)), ((x36.2 : List (Str × Int)), (v43 : Value))]).map (·.1)))).length - i; omega
    ·
     rw [decide_eq_false c123] at ha122
     refine cond_t ha122 rfl ?_
     refine wp_region_lit ?_
     refine wl_val ha122 rfl rfl rfl (op_move ha122 rfl rfl) ?_
     intro a127 ha127; clear ha122 a122
     refine wl_val ha127 rfl rfl rfl (op_move ha127 rfl rfl) ?_
     intro a128 ha128; clear ha127 a127
     refine wl_val ha128 rfl rfl rfl (op_move ha128 rfl rfl) ?_
     intro a129 ha129; clear ha128 a128
     refine wl_val ha129 rfl rfl rfl (op_indexAddr ha129 rfl Try.underlying24 ti9 rfl rfl (by omega) hi98) ?_
     intro a130 ha130; clear ha129 a129
     refine wl_val ha130 rfl rfl rfl (op_loadH ha130 rfl Try.underlying9 rfl rfl hc99 rfl) ?_
     intro a131 ha131; clear ha130 a130
     refine wl_eff ha131 rfl rfl rfl (op_buildSlice (s := shStr) (xs := [x95]) (cs := [St x95]) (vs := [(0, St x95)]) (S := fun _ => False) (le := w117.heap.size) ha131 rfl pos_shStr Try.underlying24 ti9 rfl rfl (by decide) (by kernel_rfl) (Els.single (mk_shStr x95 (by first | assumption | omega | (simp; done)))) (fun _ h => h.elim)) ?_
     rintro v132 w133 ⟨ho134, he135, hob136⟩ a137 ha137; clear ha131 a131
     have hx138 := hx121.trans' he135
     have hzhx138 := he135.size
     replace hf79 := hf79.ext he135
     replace hf78 := hf78.ext he135
     replace hc99 := hc99.ext he135
     refine wl_eff ha137 rfl rfl rfl (op_append (ts := #[]) (s := shStr) ha137 rfl Try.underlying24 ti9 rfl pos_shStr rfl rfl hf78 (ho134.rds pos_shStr) (by omega) (by omega) (by first | omega | (simp; omega)) (by first | omega | (simp; omega)) (.inl flat_shStr)) ?_
     rintro v139 w140 ⟨ho141, hst142, hob143⟩ a144 ha144; clear ha137 a137
     have hx145 := hx138.stp hst142 (by intro q hq; have hq0 := hf78.lt q hq; omega)
     have hzhx145 := hst142.size
     first | replace hf79 := hf79.stp hst142 (by intro q hq; have hq0 := hf78.lt q hq; omega) | replace hf79 := hf79.stpF flat_shStr hst142 (fun q hq => hsp80 q hq)
     replace ho134 := ho134.stp hst142 (by intro q hq; have hq0 := hf78.lt q hq; omega)
     have hsp146 : ∀ q, Value.ownBlock v139 = some q → Value.ownBlock v68 ≠ some q := by intro q hq hb; have hq0 := hf79.lt q hb; rcases hob143 with h | h; (rw [h] at hq; first | (have hq1 := hf78.lt q hq; omega) | exact hsp80 q hq hb); (rw [h] at hq; cases hq; omega)
     have hsp147 : ∀ q, Value.ownBlock v139 = some q → Value.ownBlock v132 ≠ some q := by intro q hq hb; have hq0 := ho134.lt q hb; rcases hob143 with h | h; (rw [h] at hq; first | (have hq1 := hf78.lt q hq; omega)); (rw [h] at hq; cases hq; omega)
     refine wl_val ha144 rfl rfl rfl (op_assign ha144 rfl rfl) ?_
     intro a148 ha148; clear ha144 a144
     refine wpList_nil ?_
     refine block_n ?_
     refine then_n ?_
     refine wp_region_lit ?_
     refine wl_val ha148 rfl rfl rfl (op_move ha148 rfl rfl) ?_
     intro a149 ha149; clear ha148 a148
     refine wl_val ha149 rfl rfl rfl ((op_add ha149 rfl rfl rfl).int (IntWalk.i64_in _ (by omega))) ?_
     intro a150 ha150; clear ha149 a149
     refine wl_val ha150 rfl rfl rfl (op_assign ha150 rfl rfl) ?_
     intro a151 ha151; clear ha150 a150
     refine wpList_nil ?_
     refine round_end (x := (i, v, acc)) ((i + 1), v139, (acc ++ [x95])) ?_ ?_
     ·
      refine ⟨(Sl.cons_ ha151 rfl rfl (Sl.cons_ ha151 rfl rfl (Sl.cons_ ha151 rfl rfl (Sl.cons_ ha151 rfl rfl (Sl.cons_ ha151 rfl (int_eq (by omega)) (Sl.nil_ ha151)))))), hx145, hf79, (ho141.fin (by omega) (by omega) (by omega)), (by omega), (by intro q hq; first | (intro hb; have hq0 := ho141.lt q hq; have hq1 := hf79.lt q hb; omega) | exact hsp146 q hq), (by omega), (by exact hK), (by exact hK2), (by first | omega | (simp; omega)), (by rw [← hlex21, ← hlex36] at c123; rw [drop_cons hx95, kcL, if_neg c123] at hF; rw [List.append_assoc]; exact hF)⟩
     ·show ((allK ((([((x21.2 : List (Str × Int)), (v28 : Value)), ((x36.2 : List (Str × Int)), (v43 : Value))]).map (·.1)))).length - ((i + 1)) : Nat) < (allK ((([((x21.2 : List (Str × Int)), (v28 : Value)), ((x36.2 : List (Str × Int)), (v43 : Value))]).map (·.1)))).length - i; omega
   ·
    rw [decide_eq_false c87] at ha86
    refine cond_f ha86 rfl ?_
    refine wp_exit ?_
    refine then_e ?_
    refine then_e ?_
    refine block_hit ?_
    refine then_n ?_
    refine wp_seq ?_
    refine wp_region_lit ?_
    refine wl_val ha86 rfl rfl rfl (op_move ha86 rfl rfl) ?_
    intro a152 ha152; clear ha86 a86
    refine wl_val ha152 rfl rfl rfl (op_assign ha152 rfl rfl) ?_
    intro a153 ha153; clear ha152 a152
    refine wl_val ha153 rfl rfl rfl (op_assign ha153 rfl rfl) ?_
    intro a154 ha154; clear ha153 a153
    refine wpList_nil ?_
    refine then_n ?_
    refine wp_ret ?_
    refine ret2 ha154 rfl rfl rfl ?_
    clear ha154 a154
    have hr : acc = kcV list ca cb := (by rw [drop_nil (by omega), kcL, List.append_nil] at hF; rw [hF]; unfold kcV; rw [if_pos (by assumption)])
    refine ret_mk hx77 ⟨v, (tup2_eq rfl (int_eq (by first | rfl | omega | exact Eq.symm (by assumption)))), ?_⟩
    ·refine (hf78.fin (by omega) (by omega) (by omega)).cast ?_
     first | exact hr | exact hr.symm
 ·
  rw [decide_eq_false c14] at ha13
  refine cond_t ha13 rfl ?_
  refine wp_seq ?_
  refine wp_region_lit ?_
  refine wl_val ha13 rfl rfl rfl (op_move ha13 rfl rfl) ?_
  intro a155 ha155; clear ha13 a13
  refine wl_val ha155 rfl rfl rfl (op_assign ha155 rfl rfl) ?_
  intro a156 ha156; clear ha155 a155
  refine wl_val ha156 rfl rfl rfl (op_assign ha156 rfl rfl) ?_
  intro a157 ha157; clear ha156 a156
  refine wpList_nil ?_
  refine then_n ?_
  refine wp_ret ?_
  refine then_r ?_
  refine ret2 ha157 rfl rfl rfl ?_
  clear ha157 a157
  have hr : kcV list ca cb = [] := (by unfold kcV; rw [if_neg (by assumption)])
  refine ret_mk hx10 ⟨.slice none 0 0, (tup2_eq rfl (int_eq (by first | rfl | omega | exact Eq.symm (by assumption)))), ?_⟩
  ·refine Own.nil_ _ _ _ _ _ _ ?_
   first | exact hr | exact hr.symm


end Go.Proofs.Ytllpdkidaldkiaa
