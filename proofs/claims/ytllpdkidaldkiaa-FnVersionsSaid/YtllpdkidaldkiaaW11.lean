/- Versions that are the parent of none. -/
import Derived.Test.YtllpdkidaldkiaaW8
namespace Go.Proofs.Ytllpdkidaldkiaa
open Go Go.RowKit

def parI (vs : List Ver) (i : Nat) (j : Nat) : Bool := ((vs.drop 1).take i).any fun c => decide (c.1 = (j : Int))
def parB (vs : List Ver) (j : Nat) : Bool := vs.any fun c => decide (c.1 = (j : Int))
def pkI (vs : List Ver) (i : Nat) (j : Nat) : Bool := (vs.take i).any fun c => decide (c.1 = (j : Int))
theorem any_s {xs : List Ver} {i : Nat} {x : Ver} {p : Ver → Bool} (h : xs[i]? = some x) : (xs.take (i + 1)).any p = ((xs.take i).any p || p x) := by rw [take_snoc h, List.any_append]; simp
theorem pi_set {vs : List Ver} {i : Nat} {c : Ver} {acc : List Bool} (hc : (vs.drop 1)[i]? = some c) (h0 : 0 ≤ c.1) (h : ∀ (j : Nat) (x : Bool), acc[j]? = some x → x = parI vs i j) : ∀ (j : Nat) (x : Bool), (acc.set c.1.toNat true)[j]? = some x → x = parI vs (i + 1) j := by
  intro j x hx
  unfold parI; rw [any_s hc]
  rw [List.getElem?_set] at hx
  split at hx
  · rename_i e
    split at hx
    · cases hx
      have : decide (c.1 = (j : Int)) = true := by rw [decide_eq_true_eq]; omega
      rw [this, Bool.or_true]
    · cases hx
  · rename_i e
    have h1 := h j x hx
    have : decide (c.1 = (j : Int)) = false := by rw [decide_eq_false_iff_not]; omega
    rw [this, Bool.or_false]; exact h1
theorem pi_end {vs : List Ver} (h : veB vs = true) (j i : Nat) (hi : vs.length ≤ i + 1) : parI vs i j = parB vs j := by
  have hl := veB_len h
  obtain ⟨c, hc⟩ := get_ex (xs := vs) (j := 0) (by omega)
  have h1 := (veB_at h hc).2.1 rfl
  unfold parI parB
  rw [List.take_of_length_le (by rw [List.length_drop]; omega)]
  match vs, hc with
  | d :: ds, hc =>
    simp at hc; subst hc
    rw [List.drop_succ_cons, List.drop_zero, List.any_cons]
    have : decide (d.1 = (j : Int)) = false := by rw [decide_eq_false_iff_not]; omega
    rw [this, Bool.false_or]
theorem pk_end {vs : List Ver} {i j : Nat} (hi : vs.length ≤ i) : pkI vs i j = parB vs j := by unfold pkI parB; rw [List.take_of_length_le hi]
def hdU (vs : List Ver) (n : Nat) : List Int := ((List.range n).filter fun k => !parB vs k).map fun (k : Nat) => (k : Int)
theorem hdU_0 (vs : List Ver) : hdU vs 0 = [] := rfl
theorem hdU_t {vs : List Ver} {n : Nat} (h : parB vs n = true) : hdU vs (n + 1) = hdU vs n := by unfold hdU; rw [List.range_succ, List.filter_append, List.map_append]; simp [h]
theorem hdU_f {vs : List Ver} {n : Nat} (h : parB vs n = false) : hdU vs (n + 1) = hdU vs n ++ [(n : Int)] := by unfold hdU; rw [List.range_succ, List.filter_append, List.map_append]; simp [h]
def hdL (vs : List Ver) : List Int := if cdV vs 0 0 = 0 then hdU vs vs.length else []
theorem hdU_mem {vs : List Ver} {n : Nat} {x : Int} (h : x ∈ hdU vs n) : ∃ k : Nat, x = (k : Int) ∧ parB vs k = false := by
  unfold hdU at h
  obtain ⟨k, hk, rfl⟩ := List.mem_map.1 h
  exact ⟨k, rfl, by simpa using (List.mem_filter.1 hk).2⟩
theorem cd00 {vs : List Ver} (h : veB vs = true) : cdV vs 0 0 = 0 := cdV_0 h (by have := veB_len h; unfold inV; simp; omega) (by have := veB_len h; unfold inV; simp; omega)

set_option maxHeartbeats 4000000 in
theorem c_impl_HeadsOf (w0 : World) (v_list : Value) (list : List (Int × List (Str × Int))) {S_list : Nat → Prop} (h_list : Rds shVer S_list w0 v_list list) :
  Calls Try.prog 31 #[v_list] w0 (Ret w0 (fun v w1 => ∃ r0, v = .tuple #[r0, .int .i64 (cdV list 0 0)] ∧ Own shI64 2 w0.heap.size w0.heap.size w1.heap.size w1 r0 (hdL list))) := by
 refine enter (N := 43) Try.func31 rfl rfl rfl ?_
 intro a0 ha0
 have hx0 := Ext.rfl' w0
 have hl_list := h_list.length_le
 refine wp_seq ?_
 refine wp_region_lit ?_
 refine wl_val ha0 rfl rfl rfl (op_assign ha0 rfl rfl) ?_
 intro a1 ha1; clear ha0 a0
 refine wl_val ha1 rfl rfl rfl (op_assign ha1 rfl rfl) ?_
 intro a2 ha2; clear ha1 a1
 refine wpList_nil ?_
 refine then_n ?_
 refine wp_seq ?_
 refine wp_seq ?_
 refine wp_region_lit ?_
 refine wl_val ha2 rfl rfl rfl (op_move ha2 rfl rfl) ?_
 intro a3 ha3; clear ha2 a2
 refine wl_callR ha3 rfl rfl rfl (op_call ha3 rfl cb38 rfl) (c_impl_AreVersions _ v_list list (h_list.ext pos_shVer hx0)) ?_
 rintro v4 w5 he6 rfl a7 ha7; clear ha3 a3
 have hx8 := hx0.trans' he6
 have hzhx8 := he6.size
 refine wl_val ha7 rfl rfl rfl (op_not ha7 rfl rfl) ?_
 intro a9 ha9; clear ha7 a7
 refine wpList_nil ?_
 refine then_n ?_
 rcases Bool.eq_false_or_eq_true (veB list) with c10 | c10
 ·
  rw [c10] at ha9
  have hv1 := c10
  have hlen := veB_len hv1
  refine cond_f ha9 rfl ?_
  refine wp_skip ?_
  refine then_n ?_
  refine wp_seq ?_
  refine wp_region_lit ?_
  refine wl_val ha9 rfl rfl rfl (op_move ha9 rfl rfl) ?_
  intro a11 ha11; clear ha9 a9
  refine wl_val ha11 rfl rfl rfl (op_len_sl ha11 rfl Try.underlying27 rfl h_list) ?_
  intro a12 ha12; clear ha11 a11
  refine wl_eff ha12 rfl rfl rfl (op_make (s := shBool) (n := list.length) (k' := .i64) ha12 rfl Try.underlying96 ti4 pos_shBool rfl (by omega) zero_shBool (by omega) (by omega)) ?_
  rintro v13 w14 ⟨ho15, he16⟩ a17 ha17; clear ha12 a12
  have hx18 := hx8.trans' he16
  have hzhx18 := he16.size
  refine wl_val ha17 rfl rfl rfl (op_assign ha17 rfl rfl) ?_
  intro a19 ha19; clear ha17 a17
  refine wpList_nil ?_
  refine then_n ?_
  refine wp_seq ?_
  refine wp_seq ?_
  refine wp_region_lit ?_
  refine wl_val ha19 rfl rfl rfl (op_move ha19 rfl rfl) ?_
  intro a20 ha20; clear ha19 a19
  obtain ⟨u21, hu22, hr23⟩ := Rds.part h_list Try.underlying27 ti56 (some (.int .i64 (1 : Nat))) none 1 list.length (.inr ⟨.i64, rfl⟩) (.inl ⟨rfl, rfl⟩) (by omega) (by omega)
  replace hr23 := hr23.cast (ys := list.drop 1) (by first | rw [List.take_length] | simp)
  refine wl_val ha20 rfl rfl rfl (op_slice_f (by omega) ha20 rfl rfl rfl hu22) ?_
  intro a24 ha24; clear ha20 a20
  refine wl_val ha24 rfl rfl rfl (op_len_sl ha24 rfl Try.underlying27 rfl hr23) ?_
  intro a25 ha25; clear ha24 a24
  refine wl_val ha25 rfl rfl rfl (op_move ha25 rfl rfl) ?_
  intro a26 ha26; clear ha25 a25
  refine wpList_nil ?_
  refine then_n ?_
  refine wp_block ?_
  refine loop_inv (X := Nat × (List Bool)) (fun (⟨i, acc⟩ : Nat × (List Bool)) fr wl => Sl 43 fr [(4, v13), (17, u21), (18, .int .i64 (((list.drop 1).length : Nat) : Int)), (19, .int .i64 ((i : Nat) : Int))] ∧ Ext w0 wl ∧ Own shBool 4 w5.heap.size w5.heap.size w14.heap.size wl v13 acc ∧ w14.heap.size ≤ wl.heap.size ∧ (i ≤ (list.drop 1).length) ∧ (acc.length = list.length) ∧ (∀ (j : Nat) (x : Bool), acc[j]? = some x → x = parI list i j)) (fun (⟨i, acc⟩ : Nat × (List Bool)) => (list.drop 1).length - i) (0, (List.replicate list.length (false : Bool))) ?_ ?_
  ·
   exact ⟨(Sl.cons_ ha26 rfl rfl (Sl.cons_ ha26 rfl rfl (Sl.cons_ ha26 rfl rfl (Sl.cons_ ha26 rfl (int_eq (by omega)) (Sl.nil_ ha26))))), hx18, ho15, (by omega), (by omega), (by simp), (by intro j x hx; have := List.eq_of_mem_replicate (List.mem_of_getElem? hx); subst this; simp [parI])⟩
  ·
   clear ha26 a26
   rintro ⟨i, acc⟩ a30 w27 ⟨ha30, hx28, hf29, hzl31, hi, hl, hP⟩
   have hzhx28 := hx28.size
   refine wp_seq ?_
   refine wp_region_lit ?_
   refine wl_val ha30 rfl rfl rfl (op_lss ha30 rfl rfl rfl) ?_
   intro a32 ha32; clear ha30 a30
   refine wpList_nil ?_
   refine then_n ?_
   refine wp_seq ?_
   by_cases c33 : ((i : Nat) : Int) < (((list.drop 1).length : Nat) : Int)
   ·
    rw [decide_eq_true c33] at ha32
    refine cond_t ha32 rfl ?_
    refine wp_skip ?_
    refine then_n ?_
    refine wp_seq ?_
    refine wp_block ?_
    refine wp_seq ?_
    refine wp_region_lit ?_
    obtain ⟨x34, hx34⟩ := get_ex (xs := list.drop 1) (j := i) (by omega)
    obtain ⟨p35, c36, hi37, hc38, hr39, hs40⟩ := Rds.at_ hr23 hx34
    obtain ⟨v41, rfl, b42, b43⟩ := inv_shVer hr39
    have hlb43 := b43.length_le
    have hqx34 : list[i + 1]? = some x34 := by rw [List.getElem?_drop, Nat.add_comm] at hx34; exact hx34
    have hvex34 := veB_at hv1 hqx34
    have hpx34 := hvex34.2.2 (by omega)
    have hl9x34 := (List.getElem?_eq_some_iff.1 hqx34).1
    refine wl_val ha32 rfl rfl rfl (op_indexAddr ha32 rfl Try.underlying27 ti56 rfl rfl (by omega) hi37) ?_
    intro a44 ha44; clear ha32 a32
    refine wl_val ha44 rfl rfl rfl (op_loadS ha44 rfl Try.underlying56 ti56 rfl rfl (hc38.ext hx28)) ?_
    intro a45 ha45; clear ha44 a44
    refine wl_eff ha45 rfl rfl rfl (op_alloc' rfl ti56 rfl) ?_
    rintro _ w47 ⟨rfl, he48, hb49, hz50⟩ a51 ha51; clear ha45 a45
    have hx52 := hx28.trans' he48
    have hzhx52 := he48.size
    replace hf29 := hf29.ext he48
    refine wl_effS ha51 rfl rfl (op_storeAll' ha51 rfl ti56 rfl rfl hb49 rfl rfl (by intro u hu; have hu : u ∈ ([.int .i64 x34.1, v41] : List Value) := hu; simp only [List.mem_cons, List.mem_nil_iff, or_false] at hu; rcases hu with rfl | rfl <;> first | rfl | exact b43.one) rfl) ?_
    rintro w53 ⟨hb55, hst54, hz56⟩
    have hx57 := hx52.stp hst54 (by intro q hq; cases hq; exact (by omega))
    have hzhx57 := hst54.size
    replace hf29 := hf29.stp hst54 (by intro q hq; cases hq; omega)
    clear hb49
    refine wpList_nil ?_
    refine then_n ?_
    refine wp_region_lit ?_
    refine wl_val ha51 rfl rfl rfl (op_move ha51 rfl rfl) ?_
    intro a58 ha58; clear ha51 a51
    refine wl_val ha58 rfl rfl rfl (op_fieldAddr (sz := 0) ha58 rfl Try.underlying56 rfl rfl ti2 rfl) ?_
    intro a59 ha59; clear ha58 a58
    refine wl_val ha59 rfl rfl rfl (op_loadF (off := 0) ha59 rfl Try.underlying2 rfl rfl hb55.cells rfl) ?_
    intro a60 ha60; clear ha59 a59
    obtain ⟨x61, hx61⟩ := get_ex (xs := acc) (j := x34.1.toNat) (by omega)
    obtain ⟨p62, c63, hi64, hc65, hr66, hs67⟩ := Rds.at_ (hf29.rds pos_shBool) hx61
    obtain rfl := inv_shBool hr66
    obtain ⟨_, _⟩ : _ ∧ _ := hs67
    refine wl_val ha60 rfl rfl rfl (op_indexAddr ha60 rfl Try.underlying96 ti4 rfl rfl (by omega) hi64) ?_
    intro a69 ha69; clear ha60 a60
    refine wl_effS ha69 rfl rfl (op_setElem (s := shBool) (ds := [.bool (true)]) (S' := fun _ => False) ha69 rfl ti4 rfl rfl rfl hf29 pos_shBool hi64 (by omega) (mk_shBool true ) (fun _ h => h.elim)) ?_
    rintro w70 ⟨ho72, hst71, hz73⟩
    have hx74 := hx57.stp hst71 (by intro q hq; have hq0 := hf29.lt q hq; omega)
    have hzhx74 := hst71.size
    replace hb55 := hb55.stp hst71 (by intro q hq; have hq0 := hf29.lt q hq; omega)
    clear hf29
    have hlsho72 : ((acc.set x34.1.toNat true)).length = acc.length := List.length_set
    refine wpList_nil ?_
    refine block_n ?_
    refine then_n ?_
    refine wp_region_lit ?_
    refine wl_val ha69 rfl rfl rfl ((op_add ha69 rfl rfl rfl).int (IntWalk.i64_in _ (by omega))) ?_
    intro a75 ha75; clear ha69 a69
    refine wl_val ha75 rfl rfl rfl (op_move ha75 rfl rfl) ?_
    intro a76 ha76; clear ha75 a75
    refine wpList_nil ?_
    refine round_end (x := (i, acc)) ((i + 1), (acc.set x34.1.toNat true)) ?_ ?_
    ·
     refine ⟨(Sl.cons_ ha76 rfl rfl (Sl.cons_ ha76 rfl rfl (Sl.cons_ ha76 rfl rfl (Sl.cons_ ha76 rfl (int_eq (by omega)) (Sl.nil_ ha76))))), hx74, ho72, (by omega), (by omega), (by first | assumption | (simp only [List.length_set]; exact hl)), (by exact pi_set hx34 (by omega) hP)⟩
    ·show ((list.drop 1).length - ((i + 1)) : Nat) < (list.drop 1).length - i; omega
   ·
    rw [decide_eq_false c33] at ha32
    refine cond_f ha32 rfl ?_
    refine wp_exit ?_
    refine then_e ?_
    refine then_e ?_
    refine block_hit ?_
    refine then_n ?_
    refine wp_seq ?_
    refine wp_region_lit ?_
    refine wl_val ha32 rfl rfl rfl (op_assign ha32 rfl rfl) ?_
    intro a77 ha77; clear ha32 a32
    refine wpList_nil ?_
    refine then_n ?_
    refine wp_seq ?_
    refine wp_seq ?_
    refine wp_region_lit ?_
    refine wl_val ha77 rfl rfl rfl (op_move ha77 rfl rfl) ?_
    intro a78 ha78; clear ha77 a77
    refine wl_val ha78 rfl rfl rfl (op_len_sl ha78 rfl Try.underlying96 rfl (hf29.rds pos_shBool)) ?_
    intro a79 ha79; clear ha78 a78
    refine wl_val ha79 rfl rfl rfl (op_move ha79 rfl rfl) ?_
    intro a80 ha80; clear ha79 a79
    refine wpList_nil ?_
    refine then_n ?_
    refine wp_block ?_
    refine loop_inv (X := Nat × Value × (List Int)) (fun (⟨i2, v2, out⟩ : Nat × Value × (List Int)) fr wl => Sl 43 fr [(7, v2), (28, v13), (29, .int .i64 ((acc.length : Nat) : Int)), (30, .int .i64 ((i2 : Nat) : Int))] ∧ Ext w0 wl ∧ Own shBool 4 w5.heap.size w5.heap.size w14.heap.size wl v13 acc ∧ Own shI64 2 w27.heap.size w27.heap.size wl.heap.size wl v2 out ∧ w27.heap.size ≤ wl.heap.size ∧ (i2 ≤ acc.length) ∧ (out.length ≤ i2) ∧ (out = hdU list i2) ∧ (acc.length = list.length) ∧ (∀ (j : Nat) (x : Bool), acc[j]? = some x → x = parB list j)) (fun (⟨i2, v2, out⟩ : Nat × Value × (List Int)) => acc.length - i2) (0, (.slice none 0 0), []) ?_ ?_
    ·
     exact ⟨(Sl.cons_ ha80 rfl rfl (Sl.cons_ ha80 rfl rfl (Sl.cons_ ha80 rfl rfl (Sl.cons_ ha80 rfl (int_eq (by omega)) (Sl.nil_ ha80))))), hx28, hf29, (Own.nil _ _ _ _ _ _), (by omega), (by omega), (by exact Nat.le_refl _), (by rfl), (by exact hl), (by intro j x hx; rw [hP j x hx]; exact pi_end hv1 j i (by rw [List.length_drop] at *; omega))⟩
    ·
     clear ha80 a80
     rintro ⟨i2, v2, out⟩ a85 w81 ⟨ha85, hx82, hf84, hf83, hzl86, hi2, hl2, hF, hl3, hP2⟩
     have hzhx82 := hx82.size
     refine wp_seq ?_
     refine wp_region_lit ?_
     refine wl_val ha85 rfl rfl rfl (op_lss ha85 rfl rfl rfl) ?_
     intro a87 ha87; clear ha85 a85
     refine wpList_nil ?_
     refine then_n ?_
     refine wp_seq ?_
     by_cases c88 : ((i2 : Nat) : Int) < ((acc.length : Nat) : Int)
     ·
      rw [decide_eq_true c88] at ha87
      refine cond_t ha87 rfl ?_
      refine wp_skip ?_
      refine then_n ?_
      refine wp_seq ?_
      refine wp_block ?_
      refine wp_seq ?_
      refine wp_region_lit ?_
      refine wl_val ha87 rfl rfl rfl (op_move ha87 rfl rfl) ?_
      intro a89 ha89; clear ha87 a87
      obtain ⟨x90, hx90⟩ := get_ex (xs := acc) (j := i2) (by omega)
      obtain ⟨p91, c92, hi93, hc94, hr95, hs96⟩ := Rds.at_ (hf84.rds pos_shBool) hx90
      obtain rfl := inv_shBool hr95
      obtain ⟨_, _⟩ : _ ∧ _ := hs96
      refine wl_val ha89 rfl rfl rfl (op_indexAddr ha89 rfl Try.underlying96 ti4 rfl rfl (by omega) hi93) ?_
      intro a98 ha98; clear ha89 a89
      refine wl_val ha98 rfl rfl rfl (op_loadH ha98 rfl Try.underlying4 rfl rfl hc94 rfl) ?_
      intro a99 ha99; clear ha98 a98
      refine wl_val ha99 rfl rfl rfl (op_assign ha99 rfl rfl) ?_
      intro a100 ha100; clear ha99 a99
      refine wl_val ha100 rfl rfl rfl (op_assign ha100 rfl rfl) ?_
      intro a101 ha101; clear ha100 a100
      refine wpList_nil ?_
      refine then_n ?_
      refine wp_seq ?_
      refine wp_region_lit ?_
      refine wl_val ha101 rfl rfl rfl (op_move ha101 rfl rfl) ?_
      intro a102 ha102; clear ha101 a101
      refine wl_val ha102 rfl rfl rfl (op_not ha102 rfl rfl) ?_
      intro a103 ha103; clear ha102 a102
      refine wpList_nil ?_
      refine then_n ?_
      rcases Bool.eq_false_or_eq_true (x90) with c104 | c104
      ·
       rw [c104] at ha103
       refine cond_f ha103 rfl ?_
       refine wp_skip ?_
       refine block_n ?_
       refine then_n ?_
       refine wp_region_lit ?_
       refine wl_val ha103 rfl rfl rfl ((op_add ha103 rfl rfl rfl).int (IntWalk.i64_in _ (by omega))) ?_
       intro a105 ha105; clear ha103 a103
       refine wl_val ha105 rfl rfl rfl (op_move ha105 rfl rfl) ?_
       intro a106 ha106; clear ha105 a105
       refine wpList_nil ?_
       refine round_end (x := (i2, v2, out)) ((i2 + 1), v2, out) ?_ ?_
       ·
        refine ⟨(Sl.cons_ ha106 rfl rfl (Sl.cons_ ha106 rfl rfl (Sl.cons_ ha106 rfl rfl (Sl.cons_ ha106 rfl (int_eq (by omega)) (Sl.nil_ ha106))))), hx82, hf84, (hf83.fin (by omega) (by omega) (by omega)), (by omega), (by omega), (by first | omega | (simp; omega)), (by have h9 := hP2 _ _ hx90; first | (rw [hdU_f (by rw [← h9]; assumption), ← hF]) | (rw [hdU_t (by rw [← h9]; assumption)]; exact hF)), (by exact hl3), (by exact hP2)⟩
       ·show (acc.length - ((i2 + 1)) : Nat) < acc.length - i2; omega
      ·
       rw [c104] at ha103
       refine cond_t ha103 rfl ?_
       refine wp_region_lit ?_
       refine wl_val ha103 rfl rfl rfl (op_move ha103 rfl rfl) ?_
       intro a107 ha107; clear ha103 a103
       refine wl_val ha107 rfl rfl rfl (op_move ha107 rfl rfl) ?_
       intro a108 ha108; clear ha107 a107
       refine wl_eff ha108 rfl rfl rfl (op_buildSlice (s := shI64) (xs := [((i2 : Nat) : Int)]) (cs := [.int .i64 ((i2 : Nat) : Int)]) (vs := [(0, .int .i64 ((i2 : Nat) : Int))]) (S := fun _ => False) (le := w81.heap.size) ha108 rfl pos_shI64 Try.underlying46 ti2 rfl rfl (by decide) (by kernel_rfl) (Els.single (mk_shI64 (((i2 : Nat) : Int)) (by first | assumption | omega | (simp; omega)))) (fun _ h => h.elim)) ?_
       rintro v109 w110 ⟨ho111, he112, hob113⟩ a114 ha114; clear ha108 a108
       have hx115 := hx82.trans' he112
       have hzhx115 := he112.size
       replace hf84 := hf84.ext he112
       replace hf83 := hf83.ext he112
       replace hc94 := hc94.ext he112
       refine wl_eff ha114 rfl rfl rfl (op_append (ts := #[]) (s := shI64) ha114 rfl Try.underlying46 ti2 rfl pos_shI64 rfl rfl hf83 (ho111.rds pos_shI64) (by omega) (by omega) (by first | omega | (simp; omega)) (by first | omega | (simp; omega)) (.inl flat_shI64)) ?_
       rintro v116 w117 ⟨ho118, hst119, hob120⟩ a121 ha121; clear ha114 a114
       have hx122 := hx115.stp hst119 (by intro q hq; have hq0 := hf83.lt q hq; omega)
       have hzhx122 := hst119.size
       replace hf84 := hf84.stp hst119 (by intro q hq; have hq0 := hf83.lt q hq; omega)
       replace ho111 := ho111.stp hst119 (by intro q hq; have hq0 := hf83.lt q hq; omega)
       have hsp123 : ∀ q, Value.ownBlock v116 = some q → Value.ownBlock v109 ≠ some q := by intro q hq hb; have hq0 := ho111.lt q hb; rcases hob120 with h | h; (rw [h] at hq; first | (have hq1 := hf83.lt q hq; omega)); (rw [h] at hq; cases hq; omega)
       refine wl_val ha121 rfl rfl rfl (op_assign ha121 rfl rfl) ?_
       intro a124 ha124; clear ha121 a121
       refine wpList_nil ?_
       refine block_n ?_
       refine then_n ?_
       refine wp_region_lit ?_
       refine wl_val ha124 rfl rfl rfl ((op_add ha124 rfl rfl rfl).int (IntWalk.i64_in _ (by omega))) ?_
       intro a125 ha125; clear ha124 a124
       refine wl_val ha125 rfl rfl rfl (op_move ha125 rfl rfl) ?_
       intro a126 ha126; clear ha125 a125
       refine wpList_nil ?_
       refine round_end (x := (i2, v2, out)) ((i2 + 1), v116, (out ++ [((i2 : Nat) : Int)])) ?_ ?_
       ·
        refine ⟨(Sl.cons_ ha126 rfl rfl (Sl.cons_ ha126 rfl rfl (Sl.cons_ ha126 rfl rfl (Sl.cons_ ha126 rfl (int_eq (by omega)) (Sl.nil_ ha126))))), hx122, hf84, (ho118.fin (by omega) (by omega) (by omega)), (by omega), (by omega), (by first | omega | (simp; omega)), (by have h9 := hP2 _ _ hx90; first | (rw [hdU_f (by rw [← h9]; assumption), ← hF]) | (rw [hdU_t (by rw [← h9]; assumption)]; exact hF)), (by exact hl3), (by exact hP2)⟩
       ·show (acc.length - ((i2 + 1)) : Nat) < acc.length - i2; omega
     ·
      rw [decide_eq_false c88] at ha87
      refine cond_f ha87 rfl ?_
      refine wp_exit ?_
      refine then_e ?_
      refine then_e ?_
      refine block_hit ?_
      refine then_n ?_
      refine wp_seq ?_
      refine wp_region_lit ?_
      refine wl_val ha87 rfl rfl rfl (op_move ha87 rfl rfl) ?_
      intro a127 ha127; clear ha87 a87
      refine wl_val ha127 rfl rfl rfl (op_assign ha127 rfl rfl) ?_
      intro a128 ha128; clear ha127 a127
      refine wl_val ha128 rfl rfl rfl (op_assign ha128 rfl rfl) ?_
      intro a129 ha129; clear ha128 a128
      refine wpList_nil ?_
      refine then_n ?_
      refine wp_ret ?_
      refine ret2 ha129 rfl rfl rfl ?_
      clear ha129 a129
      refine ret_mk hx82 ⟨v2, (tup2_eq rfl (int_eq (by rw [cd00 hv1]))), ?_⟩
      ·refine (hf83.fin (by omega) (by omega) (by omega)).cast ?_
       unfold hdL; rw [if_pos (cd00 hv1), hF, show i2 = list.length by omega]
 ·
  rw [c10] at ha9
  refine cond_t ha9 rfl ?_
  refine wp_seq ?_
  refine wp_region_lit ?_
  refine wl_val ha9 rfl rfl rfl (op_assign ha9 rfl rfl) ?_
  intro a130 ha130; clear ha9 a9
  refine wl_val ha130 rfl rfl rfl (op_assign ha130 rfl rfl) ?_
  intro a131 ha131; clear ha130 a130
  refine wpList_nil ?_
  refine then_n ?_
  refine wp_ret ?_
  refine then_r ?_
  refine ret2 ha131 rfl rfl rfl ?_
  clear ha131 a131
  refine ret_mk hx8 ⟨.slice none 0 0, (tup2_eq rfl (int_eq (by exact (cdV_1 (by assumption)).symm))), ?_⟩
  ·refine Own.nil_ _ _ _ _ _ _ ?_
   unfold hdL; rw [if_neg (by rw [cdV_1 (by assumption)]; decide)]

set_option maxHeartbeats 4000000 in
theorem c_spec_HeadsOf (w0 : World) (v_list : Value) (list : List (Int × List (Str × Int))) {S_list : Nat → Prop} (h_list : Rds shVer S_list w0 v_list list) :
  Calls Try.prog 32 #[v_list] w0 (Ret w0 (fun v w1 => ∃ r0, v = .tuple #[r0, .int .i64 (cdV list 0 0)] ∧ Own shI64 2 w0.heap.size w0.heap.size w1.heap.size w1 r0 (hdL list))) := by
 refine enter (N := 43) Try.func32 rfl rfl rfl ?_
 intro a0 ha0
 have hx0 := Ext.rfl' w0
 have hl_list := h_list.length_le
 refine wp_seq ?_
 refine wp_region_lit ?_
 refine wl_val ha0 rfl rfl rfl (op_assign ha0 rfl rfl) ?_
 intro a1 ha1; clear ha0 a0
 refine wl_val ha1 rfl rfl rfl (op_assign ha1 rfl rfl) ?_
 intro a2 ha2; clear ha1 a1
 refine wpList_nil ?_
 refine then_n ?_
 refine wp_seq ?_
 refine wp_region_lit ?_
 refine wl_val ha2 rfl rfl rfl (op_move ha2 rfl rfl) ?_
 intro a3 ha3; clear ha2 a2
 refine wl_callR ha3 rfl rfl rfl (op_call ha3 rfl cb50 rfl) (c_spec_l29Code _ v_list list (0 : Int) (0 : Int) (h_list.ext pos_shVer hx0)) ?_
 rintro v4 w5 he6 rfl a7 ha7; clear ha3 a3
 have hx8 := hx0.trans' he6
 have hzhx8 := he6.size
 refine wl_val ha7 rfl rfl rfl (op_assign ha7 rfl rfl) ?_
 intro a9 ha9; clear ha7 a7
 refine wpList_nil ?_
 refine then_n ?_
 refine wp_seq ?_
 refine wp_seq ?_
 refine wp_region_lit ?_
 refine wl_val ha9 rfl rfl rfl (op_move ha9 rfl rfl) ?_
 intro a10 ha10; clear ha9 a9
 refine wl_val ha10 rfl rfl rfl ((op_neq ha10 rfl rfl rfl).to (congrArg Value.bool decide_not)) ?_
 intro a11 ha11; clear ha10 a10
 refine wpList_nil ?_
 refine then_n ?_
 by_cases c12 : (cdV list (0 : Int) (0 : Int) : Int) = (0 : Int)
 ·
  rw [decide_eq_true c12] at ha11
  obtain ⟨hv1, hv2, hv3⟩ := cdV_ok c12
  have hlen := veB_len hv1
  have hia := in_bd hv2
  have hib := in_bd hv3
  refine cond_f ha11 rfl ?_
  refine wp_skip ?_
  refine then_n ?_
  refine wp_seq ?_
  refine wp_region_lit ?_
  refine wl_eff ha11 rfl rfl rfl (op_buildSlice (s := shI64) (xs := ([] : List Int)) (cs := []) (vs := []) (S := fun _ => False) (le := w5.heap.size) ha11 rfl pos_shI64 Try.underlying46 ti2 rfl rfl (by decide) (by kernel_rfl) rfl (fun _ h => h.elim)) ?_
  rintro v13 w14 ⟨ho15, he16, hob17⟩ a18 ha18; clear ha11 a11
  have hx19 := hx8.trans' he16
  have hzhx19 := he16.size
  refine wl_val ha18 rfl rfl rfl (op_assign ha18 rfl rfl) ?_
  intro a20 ha20; clear ha18 a18
  refine wpList_nil ?_
  refine then_n ?_
  refine wp_seq ?_
  refine wp_seq ?_
  refine wp_region_lit ?_
  refine wl_val ha20 rfl rfl rfl (op_assign ha20 rfl rfl) ?_
  intro a21 ha21; clear ha20 a20
  refine wpList_nil ?_
  refine then_n ?_
  refine wp_block ?_
  refine loop_inv (X := Nat × Value × (List Int)) (fun (⟨n, v, acc⟩ : Nat × Value × (List Int)) fr wl => Sl 43 fr [(0, v_list), (5, v), (6, .int .i64 ((n : Nat) : Int))] ∧ Ext w0 wl ∧ Own shI64 2 w5.heap.size w5.heap.size wl.heap.size wl v acc ∧ w14.heap.size ≤ wl.heap.size ∧ (n ≤ list.length) ∧ (acc.length ≤ n) ∧ (acc = hdU list n)) (fun (⟨n, v, acc⟩ : Nat × Value × (List Int)) => list.length - n) (0, v13, ([] : List Int)) ?_ ?_
  ·
   exact ⟨(Sl.cons_ ha21 rfl rfl (Sl.cons_ ha21 rfl rfl (Sl.cons_ ha21 rfl (int_eq (by omega)) (Sl.nil_ ha21)))), hx19, (ho15.fin (by omega) (by omega) (by omega)), (by omega), (by omega), (by exact Nat.le_refl _), (by rfl)⟩
  ·
   clear ha21 a21
   rintro ⟨n, v, acc⟩ a25 w22 ⟨ha25, hx23, hf24, hzl26, hn, hl, hF⟩
   have hzhx23 := hx23.size
   refine wp_seq ?_
   refine wp_seq ?_
   refine wp_region_lit ?_
   refine wl_val ha25 rfl rfl rfl (op_move ha25 rfl rfl) ?_
   intro a27 ha27; clear ha25 a25
   refine wl_val ha27 rfl rfl rfl (op_move ha27 rfl rfl) ?_
   intro a28 ha28; clear ha27 a27
   refine wl_val ha28 rfl rfl rfl (op_len_sl ha28 rfl Try.underlying27 rfl h_list) ?_
   intro a29 ha29; clear ha28 a28
   refine wl_val ha29 rfl rfl rfl (op_lss ha29 rfl rfl rfl) ?_
   intro a30 ha30; clear ha29 a29
   refine wpList_nil ?_
   refine then_n ?_
   by_cases c31 : ((n : Nat) : Int) < ((list.length : Nat) : Int)
   ·
    rw [decide_eq_true c31] at ha30
    refine cond_t ha30 rfl ?_
    refine wp_skip ?_
    refine then_n ?_
    refine wp_seq ?_
    refine wp_block ?_
    refine wp_seq ?_
    refine wp_region_lit ?_
    refine wl_val ha30 rfl rfl rfl (op_assign ha30 rfl rfl) ?_
    intro a32 ha32; clear ha30 a30
    refine wpList_nil ?_
    refine then_n ?_
    refine wp_seq ?_
    refine wp_seq ?_
    refine wp_region_lit ?_
    refine wl_val ha32 rfl rfl rfl (op_assign ha32 rfl rfl) ?_
    intro a33 ha33; clear ha32 a32
    refine wpList_nil ?_
    refine then_n ?_
    refine wp_block ?_
    refine loop_inv (X := Nat × Bool) (fun (⟨i, p⟩ : Nat × Bool) fr wl => Sl 43 fr [(0, v_list), (5, v), (6, .int .i64 ((n : Nat) : Int)), (7, .bool (p)), (8, .int .i64 ((i : Nat) : Int))] ∧ Ext w0 wl ∧ Own shI64 2 w5.heap.size w5.heap.size w22.heap.size wl v acc ∧ w22.heap.size ≤ wl.heap.size ∧ (i ≤ list.length) ∧ ((!p) = pkI list i n)) (fun (⟨i, p⟩ : Nat × Bool) => list.length - i) (0, true) ?_ ?_
    ·
     exact ⟨(Sl.cons_ ha33 rfl rfl (Sl.cons_ ha33 rfl rfl (Sl.cons_ ha33 rfl rfl (Sl.cons_ ha33 rfl rfl (Sl.cons_ ha33 rfl (int_eq (by omega)) (Sl.nil_ ha33)))))), hx23, hf24, (by omega), (by omega), (by rfl)⟩
    ·
     clear ha33 a33
     rintro ⟨i, p⟩ a37 w34 ⟨ha37, hx35, hf36, hzl38, hi, hK⟩
     have hzhx35 := hx35.size
     refine wp_seq ?_
     refine wp_seq ?_
     refine wp_region_lit ?_
     refine wl_val ha37 rfl rfl rfl (op_move ha37 rfl rfl) ?_
     intro a39 ha39; clear ha37 a37
     refine wl_val ha39 rfl rfl rfl (op_move ha39 rfl rfl) ?_
     intro a40 ha40; clear ha39 a39
     refine wl_val ha40 rfl rfl rfl (op_len_sl ha40 rfl Try.underlying27 rfl h_list) ?_
     intro a41 ha41; clear ha40 a40
     refine wl_val ha41 rfl rfl rfl (op_lss ha41 rfl rfl rfl) ?_
     intro a42 ha42; clear ha41 a41
     refine wpList_nil ?_
     refine then_n ?_
     by_cases c43 : ((i : Nat) : Int) < ((list.length : Nat) : Int)
     ·
      rw [decide_eq_true c43] at ha42
      refine cond_t ha42 rfl ?_
      refine wp_skip ?_
      refine then_n ?_
      refine wp_seq ?_
      refine wp_block ?_
      refine wp_region_lit ?_
      refine wl_val ha42 rfl rfl rfl (op_move ha42 rfl rfl) ?_
      intro a44 ha44; clear ha42 a42
      refine wl_val ha44 rfl rfl rfl (op_move ha44 rfl rfl) ?_
      intro a45 ha45; clear ha44 a44
      rcases Bool.eq_false_or_eq_true (p) with c46 | c46
      ·
       rw [c46] at ha45
       refine wl_val ha45 rfl rfl rfl (op_move ha45 rfl rfl) ?_
       intro a47 ha47; clear ha45 a45
       refine wl_val ha47 rfl rfl rfl (op_move ha47 rfl rfl) ?_
       intro a48 ha48; clear ha47 a47
       obtain ⟨x49, hx49⟩ := get_ex (xs := list) (j := i) (by omega)
       obtain ⟨p50, c51, hi52, hc53, hr54, hs55⟩ := Rds.at_ h_list hx49
       obtain ⟨v56, rfl, b57, b58⟩ := inv_shVer hr54
       have hlb58 := b58.length_le
       refine wl_val ha48 rfl rfl rfl (op_indexAddr ha48 rfl Try.underlying27 ti56 rfl rfl (by omega) hi52) ?_
       intro a59 ha59; clear ha48 a48
       refine wl_val ha59 rfl rfl rfl (op_fieldAddr (sz := 0) ha59 rfl Try.underlying56 rfl rfl ti2 rfl) ?_
       intro a60 ha60; clear ha59 a59
       refine wl_val ha60 rfl rfl rfl (op_loadF (off := 0) ha60 rfl Try.underlying2 rfl rfl (hc53.ext hx35) rfl) ?_
       intro a61 ha61; clear ha60 a60
       refine wl_val ha61 rfl rfl rfl (op_move ha61 rfl rfl) ?_
       intro a62 ha62; clear ha61 a61
       refine wl_val ha62 rfl rfl rfl ((op_neq ha62 rfl rfl rfl).to (congrArg Value.bool decide_not)) ?_
       intro a63 ha63; clear ha62 a62
       refine wl_val ha63 rfl rfl rfl (op_pick_t ha63 rfl rfl rfl) ?_
       intro a64 ha64; clear ha63 a63
       refine wl_val ha64 rfl rfl rfl (op_assign ha64 rfl rfl) ?_
       intro a65 ha65; clear ha64 a64
       refine wpList_nil ?_
       refine block_n ?_
       refine then_n ?_
       refine wp_region_lit ?_
       refine wl_val ha65 rfl rfl rfl (op_move ha65 rfl rfl) ?_
       intro a66 ha66; clear ha65 a65
       refine wl_val ha66 rfl rfl rfl ((op_add ha66 rfl rfl rfl).int (IntWalk.i64_in _ (by omega))) ?_
       intro a67 ha67; clear ha66 a66
       refine wl_val ha67 rfl rfl rfl (op_assign ha67 rfl rfl) ?_
       intro a68 ha68; clear ha67 a67
       refine wpList_nil ?_
       refine round_end (x := (i, p)) ((i + 1), !(decide (x49.1 = ((n : Nat) : Int)))) ?_ ?_
       ·
        refine ⟨(Sl.cons_ ha68 rfl rfl (Sl.cons_ ha68 rfl rfl (Sl.cons_ ha68 rfl rfl (Sl.cons_ ha68 rfl rfl (Sl.cons_ ha68 rfl (int_eq (by omega)) (Sl.nil_ ha68)))))), hx35, hf36, (by omega), (by omega), (by unfold pkI at hK ⊢; rw [any_s hx49, ← hK]; simp_all)⟩
       ·show (list.length - ((i + 1)) : Nat) < list.length - i; omega
      ·
       rw [c46] at ha45
       refine wl_skip ha45 rfl rfl rfl ?_
       intro a69 ha69; clear ha45 a45
       refine wl_skip ha69 rfl rfl rfl ?_
       intro a70 ha70; clear ha69 a69
       refine wl_skip ha70 rfl rfl rfl ?_
       intro a71 ha71; clear ha70 a70
       refine wl_skip ha71 rfl rfl rfl ?_
       intro a72 ha72; clear ha71 a71
       refine wl_skip ha72 rfl rfl rfl ?_
       intro a73 ha73; clear ha72 a72
       refine wl_skip ha73 rfl rfl rfl ?_
       intro a74 ha74; clear ha73 a73
       refine wl_skip ha74 rfl rfl rfl ?_
       intro a75 ha75; clear ha74 a74
       refine wl_val ha75 rfl rfl rfl (op_pick_f ha75 rfl rfl rfl) ?_
       intro a76 ha76; clear ha75 a75
       refine wl_val ha76 rfl rfl rfl (op_assign ha76 rfl rfl) ?_
       intro a77 ha77; clear ha76 a76
       refine wpList_nil ?_
       refine block_n ?_
       refine then_n ?_
       refine wp_region_lit ?_
       refine wl_val ha77 rfl rfl rfl (op_move ha77 rfl rfl) ?_
       intro a78 ha78; clear ha77 a77
       refine wl_val ha78 rfl rfl rfl ((op_add ha78 rfl rfl rfl).int (IntWalk.i64_in _ (by omega))) ?_
       intro a79 ha79; clear ha78 a78
       refine wl_val ha79 rfl rfl rfl (op_assign ha79 rfl rfl) ?_
       intro a80 ha80; clear ha79 a79
       refine wpList_nil ?_
       refine round_end (x := (i, p)) ((i + 1), false) ?_ ?_
       ·
        refine ⟨(Sl.cons_ ha80 rfl rfl (Sl.cons_ ha80 rfl rfl (Sl.cons_ ha80 rfl rfl (Sl.cons_ ha80 rfl rfl (Sl.cons_ ha80 rfl (int_eq (by omega)) (Sl.nil_ ha80)))))), hx35, hf36, (by omega), (by omega), (by obtain ⟨x9, hx9⟩ := get_ex (xs := list) (j := i) (by omega); unfold pkI at hK ⊢; rw [any_s hx9, ← hK]; simp_all)⟩
       ·show (list.length - ((i + 1)) : Nat) < list.length - i; omega
     ·
      rw [decide_eq_false c43] at ha42
      refine cond_f ha42 rfl ?_
      refine wp_exit ?_
      refine then_e ?_
      refine then_e ?_
      refine block_hit ?_
      refine then_n ?_
      refine wp_seq ?_
      refine wp_region_lit ?_
      refine wl_val ha42 rfl rfl rfl (op_move ha42 rfl rfl) ?_
      intro a81 ha81; clear ha42 a42
      refine wpList_nil ?_
      refine then_n ?_
      rcases Bool.eq_false_or_eq_true (p) with c82 | c82
      ·
       rw [c82] at ha81
       refine cond_t ha81 rfl ?_
       refine wp_region_lit ?_
       refine wl_val ha81 rfl rfl rfl (op_move ha81 rfl rfl) ?_
       intro a83 ha83; clear ha81 a81
       refine wl_val ha83 rfl rfl rfl (op_move ha83 rfl rfl) ?_
       intro a84 ha84; clear ha83 a83
       refine wl_eff ha84 rfl rfl rfl (op_buildSlice (s := shI64) (xs := [((n : Nat) : Int)]) (cs := [.int .i64 ((n : Nat) : Int)]) (vs := [(0, .int .i64 ((n : Nat) : Int))]) (S := fun _ => False) (le := w34.heap.size) ha84 rfl pos_shI64 Try.underlying46 ti2 rfl rfl (by decide) (by kernel_rfl) (Els.single (mk_shI64 (((n : Nat) : Int)) (by first | assumption | omega | (simp; omega)))) (fun _ h => h.elim)) ?_
       rintro v85 w86 ⟨ho87, he88, hob89⟩ a90 ha90; clear ha84 a84
       have hx91 := hx35.trans' he88
       have hzhx91 := he88.size
       replace hf36 := hf36.ext he88
       refine wl_eff ha90 rfl rfl rfl (op_append (ts := #[]) (s := shI64) ha90 rfl Try.underlying46 ti2 rfl pos_shI64 rfl rfl hf36 (ho87.rds pos_shI64) (by omega) (by omega) (by first | omega | (simp; omega)) (by first | omega | (simp; omega)) (.inl flat_shI64)) ?_
       rintro v92 w93 ⟨ho94, hst95, hob96⟩ a97 ha97; clear ha90 a90
       have hx98 := hx91.stp hst95 (by intro q hq; have hq0 := hf36.lt q hq; omega)
       have hzhx98 := hst95.size
       replace ho87 := ho87.stp hst95 (by intro q hq; have hq0 := hf36.lt q hq; omega)
       have hsp99 : ∀ q, Value.ownBlock v92 = some q → Value.ownBlock v85 ≠ some q := by intro q hq hb; have hq0 := ho87.lt q hb; rcases hob96 with h | h; (rw [h] at hq; first | (have hq1 := hf36.lt q hq; omega)); (rw [h] at hq; cases hq; omega)
       refine wl_val ha97 rfl rfl rfl (op_assign ha97 rfl rfl) ?_
       intro a100 ha100; clear ha97 a97
       refine wpList_nil ?_
       refine block_n ?_
       refine then_n ?_
       refine wp_region_lit ?_
       refine wl_val ha100 rfl rfl rfl (op_move ha100 rfl rfl) ?_
       intro a101 ha101; clear ha100 a100
       refine wl_val ha101 rfl rfl rfl ((op_add ha101 rfl rfl rfl).int (IntWalk.i64_in _ (by omega))) ?_
       intro a102 ha102; clear ha101 a101
       refine wl_val ha102 rfl rfl rfl (op_assign ha102 rfl rfl) ?_
       intro a103 ha103; clear ha102 a102
       refine wpList_nil ?_
       refine round_end (x := (n, v, acc)) ((n + 1), v92, (acc ++ [((n : Nat) : Int)])) ?_ ?_
       ·
        refine ⟨(Sl.cons_ ha103 rfl rfl (Sl.cons_ ha103 rfl rfl (Sl.cons_ ha103 rfl (int_eq (by omega)) (Sl.nil_ ha103)))), hx98, (ho94.fin (by omega) (by omega) (by omega)), (by omega), (by omega), (by first | omega | (simp; omega)), (by rw [pk_end (by omega)] at hK; first | (rw [hdU_f (by simpa [c12, c31, c43, c82] using hK.symm), ← hF]) | (rw [hdU_t (by simpa [c12, c31, c43, c82] using hK.symm)]; exact hF) | (rw [hdU_f (by simp_all), ← hF]) | (rw [hdU_t (by simp_all)]; exact hF))⟩
       ·show (list.length - ((n + 1)) : Nat) < list.length - n; omega
      ·
       rw [c82] at ha81
       refine cond_f ha81 rfl ?_
       refine wp_skip ?_
       refine block_n ?_
       refine then_n ?_
       refine wp_region_lit ?_
       refine wl_val ha81 rfl rfl rfl (op_move ha81 rfl rfl) ?_
       intro a104 ha104; clear ha81 a81
       refine wl_val ha104 rfl rfl rfl ((op_add ha104 rfl rfl rfl).int (IntWalk.i64_in _ (by omega))) ?_
       intro a105 ha105; clear ha104 a104
       refine wl_val ha105 rfl rfl rfl (op_assign ha105 rfl rfl) ?_
       intro a106 ha106; clear ha105 a105
       refine wpList_nil ?_
       refine round_end (x := (n, v, acc)) ((n + 1), v, acc) ?_ ?_
       ·
        refine ⟨(Sl.cons_ ha106 rfl rfl (Sl.cons_ ha106 rfl rfl (Sl.cons_ ha106 rfl (int_eq (by omega)) (Sl.nil_ ha106)))), hx35, (hf36.fin (by omega) (by omega) (by omega)), (by omega), (by omega), (by first | omega | (simp; omega)), (by rw [pk_end (by omega)] at hK; first | (rw [hdU_f (by simpa [c12, c31, c43, c82] using hK.symm), ← hF]) | (rw [hdU_t (by simpa [c12, c31, c43, c82] using hK.symm)]; exact hF) | (rw [hdU_f (by simp_all), ← hF]) | (rw [hdU_t (by simp_all)]; exact hF))⟩
       ·show (list.length - ((n + 1)) : Nat) < list.length - n; omega
   ·
    rw [decide_eq_false c31] at ha30
    refine cond_f ha30 rfl ?_
    refine wp_exit ?_
    refine then_e ?_
    refine then_e ?_
    refine block_hit ?_
    refine then_n ?_
    refine wp_seq ?_
    refine wp_region_lit ?_
    refine wl_val ha30 rfl rfl rfl (op_move ha30 rfl rfl) ?_
    intro a107 ha107; clear ha30 a30
    refine wl_val ha107 rfl rfl rfl (op_assign ha107 rfl rfl) ?_
    intro a108 ha108; clear ha107 a107
    refine wl_val ha108 rfl rfl rfl (op_assign ha108 rfl rfl) ?_
    intro a109 ha109; clear ha108 a108
    refine wpList_nil ?_
    refine then_n ?_
    refine wp_ret ?_
    refine ret2 ha109 rfl rfl rfl ?_
    clear ha109 a109
    refine ret_mk hx23 ⟨v, (tup2_eq rfl (int_eq (by first | omega | exact Eq.symm (by assumption) | rfl))), ?_⟩
    ·refine (hf24.fin (by omega) (by omega) (by omega)).cast ?_
     unfold hdL; rw [if_pos (by assumption), hF, show n = list.length by omega]
 ·
  rw [decide_eq_false c12] at ha11
  refine cond_t ha11 rfl ?_
  refine wp_seq ?_
  refine wp_region_lit ?_
  refine wl_val ha11 rfl rfl rfl (op_move ha11 rfl rfl) ?_
  intro a110 ha110; clear ha11 a11
  refine wl_val ha110 rfl rfl rfl (op_assign ha110 rfl rfl) ?_
  intro a111 ha111; clear ha110 a110
  refine wl_val ha111 rfl rfl rfl (op_assign ha111 rfl rfl) ?_
  intro a112 ha112; clear ha111 a111
  refine wpList_nil ?_
  refine then_n ?_
  refine wp_ret ?_
  refine then_r ?_
  refine ret2 ha112 rfl rfl rfl ?_
  clear ha112 a112
  refine ret_mk hx8 ⟨.slice none 0 0, (tup2_eq rfl (int_eq (by first | omega | exact Eq.symm (by assumption) | rfl))), ?_⟩
  ·refine Own.nil_ _ _ _ _ _ _ ?_
   unfold hdL; rw [if_neg (by assumption)]


end Go.Proofs.Ytllpdkidaldkiaa
