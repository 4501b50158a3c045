/- Stocks, promises, desks. -/
import Derived.Test.YthbehhhblchhhaaW2
namespace Go.Proofs.Ythbehhhblchhhaa
open Go Go.RowKit

abbrev Bin : Type := Str × Int × Int × Int × Int
abbrev Prom : Type := Str × Int × Int
def binB (b : Bin) : Bool := ((((wordB b.1 && (decide (0 ≤ b.2.1) && decide (b.2.1 ≤ 100000))) && (decide (0 ≤ b.2.2.1) && decide (b.2.2.1 ≤ b.2.1))) && (decide (0 ≤ b.2.2.2.1) && decide (b.2.2.2.1 ≤ 100000))) && (decide (1 ≤ b.2.2.2.2) && decide (b.2.2.2.2 ≤ 100000)))
def stPrev : Option Bin → Bin → Bool
  | none, _ => true
  | some a, b => decide (a.1 < b.1)
def stAt (xs : List Bin) (i : Nat) : Bool := match xs[i]? with
  | none => false
  | some b => binB b && (decide (i = 0) || stPrev xs[i - 1]? b)
/-- Is it a stock? -/
def stB (xs : List Bin) : Bool := decide (xs.length ≤ 20) && upB (stAt xs) xs.length
theorem stAt_eq {xs : List Bin} {i : Nat} {b : Bin} (h : xs[i]? = some b) : stAt xs i = (binB b && (decide (i = 0) || stPrev xs[i - 1]? b)) := by unfold stAt; rw [h]
theorem stAt_ok {xs : List Bin} {i : Nat} {b : Bin} (h : xs[i]? = some b) (h1 : binB b = true) (h2 : i = 0 ∨ ∃ a, xs[i - 1]? = some a ∧ a.1 < b.1) : stAt xs i = true := by
  rw [stAt_eq h, h1]
  rcases h2 with h2 | ⟨a, ha, h3⟩
  · simp [h2]
  · rw [ha]; simp [stPrev, h3]
theorem stAt_no {xs : List Bin} {i : Nat} {b : Bin} (h : xs[i]? = some b) (h1 : binB b = false ∨ (0 < i ∧ ∃ a, xs[i - 1]? = some a ∧ ¬ a.1 < b.1)) : stAt xs i = false := by
  rw [stAt_eq h]
  rcases h1 with h1 | ⟨hi, a, ha, h2⟩
  · rw [h1, Bool.false_and]
  · have e2 : decide (i = 0) = false := by simp; omega
    rw [ha, e2]; simp [stPrev, h2]
theorem stB_no {xs : List Bin} {i : Nat} {b : Bin} (h : xs[i]? = some b) (h1 : stAt xs i = false) : stB xs = false := by unfold stB; rw [upB_bad (List.getElem?_eq_some_iff.1 h).1 h1, Bool.and_false]
theorem stB_big {xs : List Bin} (h : 20 < xs.length) : stB xs = false := by unfold stB; rw [decide_eq_false (by omega), Bool.false_and]
theorem stB_up {xs : List Bin} (h : upB (stAt xs) xs.length = true) : stB xs = decide (xs.length ≤ 20) := by unfold stB; rw [h, Bool.and_true]
def prB (p : Prom) : Bool := (wordB p.1 && (decide (1 ≤ p.2.1) && decide (p.2.1 ≤ 1000))) && (decide (1 ≤ p.2.2) && decide (p.2.2 ≤ 2000))
def pnB (n : Str) (p : Prom) : Bool := decide (p.1 = n)
def prAt (xs : List Prom) (i : Nat) : Bool := match xs[i]? with
  | none => false
  | some p => prB p && decide (fdF (pnB p.1) (xs.take i) < 0)
/-- Are these promises? -/
def prsB (xs : List Prom) : Bool := decide (xs.length ≤ 40) && upB (prAt xs) xs.length
theorem prAt_eq {xs : List Prom} {i : Nat} {p : Prom} (h : xs[i]? = some p) : prAt xs i = (prB p && decide (fdF (pnB p.1) (xs.take i) < 0)) := by unfold prAt; rw [h]
theorem prAt_ok {xs : List Prom} {i : Nat} {p : Prom} (h : xs[i]? = some p) (h1 : prB p = true) (h2 : fdF (pnB p.1) (xs.take i) < 0) : prAt xs i = true := by rw [prAt_eq h, h1, decide_eq_true h2]; rfl
theorem prAt_no {xs : List Prom} {i : Nat} {p : Prom} (h : xs[i]? = some p) (h1 : prB p = false ∨ ¬ fdF (pnB p.1) (xs.take i) < 0) : prAt xs i = false := by
  rw [prAt_eq h]; rcases h1 with h1 | h1
  · rw [h1, Bool.false_and]
  · rw [decide_eq_false h1, Bool.and_false]
theorem prsB_no {xs : List Prom} {i : Nat} {p : Prom} (h : xs[i]? = some p) (h1 : prAt xs i = false) : prsB xs = false := by unfold prsB; rw [upB_bad (List.getElem?_eq_some_iff.1 h).1 h1, Bool.and_false]
theorem prsB_big {xs : List Prom} (h : 40 < xs.length) : prsB xs = false := by unfold prsB; rw [decide_eq_false (by omega), Bool.false_and]
theorem prsB_up {xs : List Prom} (h : upB (prAt xs) xs.length = true) : prsB xs = decide (xs.length ≤ 40) := by unfold prsB; rw [h, Bool.and_true]
theorem fd_here {α : Type} {p : α → Bool} {xs : List α} {i : Nat} {x : α} (hx : xs[i]? = some x) (hp : p x = true) : fdF p xs = (i : Int) ↔ fdF p (xs.take i) < 0 := by
  constructor
  · intro e
    refine fdF_neg.2 fun y hy => ?_
    obtain ⟨j, hj⟩ := List.getElem?_of_mem hy
    rw [List.getElem?_take] at hj
    split at hj
    · exact (fdF_at (p := p) (xs := xs) (by omega)).2 j y (by omega) hj
    · cases hj
  · intro h
    refine fdF_hit hx hp fun j y hj hy => ?_
    refine fdF_neg.1 h y (List.mem_of_getElem? (i := j) ?_)
    rw [List.getElem?_take, if_pos hj]; exact hy
def deskB (d : List Bin × List Prom × List Ent) : Bool := (stB d.1 && prsB d.2.1) && dbB d.2.2

set_option maxHeartbeats 4000000 in
theorem c_spec_IsStock (w0 : World) (v_list : Value) (list : List (Str × Int × Int × Int × Int)) {S_list : Nat → Prop} (h_list : Rds shBin S_list w0 v_list list) :
    Calls Try.prog 17 #[v_list] w0 (Ret w0 (fun v _ => v = .bool (stB list))) := by
  refine enter (N := 61) Try.func17 rfl rfl rfl ?_
  intro a0 ha0
  have hx0 := Ext.rfl' w0
  have hl_list := h_list.length_le
  refine wp_seq ?_
  refine wp_region_lit ?_
  refine wl_val ha0 rfl rfl rfl (op_assign ha0 rfl rfl) ?_
  intro a1 ha1; clear ha0 a0
  refine wpList_nil ?_
  refine then_n ?_
  refine wp_seq ?_
  refine wp_seq ?_
  refine wp_region_lit ?_
  refine wl_val ha1 rfl rfl rfl (op_assign ha1 rfl rfl) ?_
  intro a2 ha2; clear ha1 a1
  refine wpList_nil ?_
  refine then_n ?_
  refine wp_block ?_
  refine loop_inv (X := Nat) (fun (i : Nat) fr wl => Sl 61 fr [(0, v_list), (3, .int .i64 ((i : Nat) : Int))] ∧ Ext w0 wl ∧ w0.heap.size ≤ wl.heap.size ∧ (i ≤ list.length) ∧ (upB (stAt list) i = true)) (fun (i : Nat) => list.length - i) (0) ?_ ?_
  ·
    exact ⟨(Sl.cons_ ha2 rfl rfl (Sl.cons_ ha2 rfl (int_eq (by omega)) (Sl.nil_ ha2))), hx0, (by omega), (by omega), (by rfl)⟩
  ·
    clear ha2 a2
    rintro i a5 w3 ⟨ha5, hx4, hzl6, hi, hA⟩
    have hzhx4 := hx4.size
    refine wp_seq ?_
    refine wp_seq ?_
    refine wp_region_lit ?_
    refine wl_val ha5 rfl rfl rfl (op_move ha5 rfl rfl) ?_
    intro a7 ha7; clear ha5 a5
    refine wl_val ha7 rfl rfl rfl (op_move ha7 rfl rfl) ?_
    intro a8 ha8; clear ha7 a7
    refine wl_val ha8 rfl rfl rfl (op_len_sl ha8 rfl Try.underlying30 rfl h_list) ?_
    intro a9 ha9; clear ha8 a8
    refine wl_val ha9 rfl rfl rfl (op_lss ha9 rfl rfl rfl) ?_
    intro a10 ha10; clear ha9 a9
    refine wpList_nil ?_
    refine then_n ?_
    by_cases c11 : ((i : Nat) : Int) < ((list.length : Nat) : Int)
    ·
      rw [decide_eq_true c11] at ha10
      refine cond_t ha10 rfl ?_
      refine wp_skip ?_
      refine then_n ?_
      refine wp_seq ?_
      refine wp_block ?_
      refine wp_seq ?_
      refine wp_region_lit ?_
      refine wl_val ha10 rfl rfl rfl (op_move ha10 rfl rfl) ?_
      intro a12 ha12; clear ha10 a10
      refine wl_val ha12 rfl rfl rfl (op_move ha12 rfl rfl) ?_
      intro a13 ha13; clear ha12 a12
      obtain ⟨x14, hx14⟩ := get_ex (xs := list) (j := i) (by omega)
      obtain ⟨p15, c16, hi17, hc18, hr19, hs20⟩ := Rds.at_ h_list hx14
      obtain ⟨rfl, b21, b22, b23, b24, b25⟩ := inv_shBin hr19
      refine wl_val ha13 rfl rfl rfl (op_indexAddr ha13 rfl Try.underlying30 ti69 rfl rfl (by omega) hi17) ?_
      intro a26 ha26; clear ha13 a13
      refine wl_val ha26 rfl rfl rfl (op_loadS ha26 rfl Try.underlying69 ti69 rfl rfl (hc18.ext hx4)) ?_
      intro a27 ha27; clear ha26 a26
      refine wl_eff ha27 rfl rfl rfl (op_alloc' rfl ti69 rfl) ?_
      rintro _ w29 ⟨rfl, he30, hb31, hz32⟩ a33 ha33; clear ha27 a27
      have hx34 := hx4.trans' he30
      have hzhx34 := he30.size
      refine wl_effS ha33 rfl rfl (op_storeAll' ha33 rfl ti69 rfl rfl hb31 rfl rfl (by simp [Value.oneCell']) rfl) ?_
      rintro w35 ⟨hb37, hst36, hz38⟩
      have hx39 := hx34.stp hst36 (by intro q hq; cases hq; exact (by omega))
      have hzhx39 := hst36.size
      clear hb31
      refine wpList_nil ?_
      refine then_n ?_
      refine wp_seq ?_
      refine wp_seq ?_
      refine wp_region_lit ?_
      refine wl_val ha33 rfl rfl rfl (op_fieldAddr (sz := 0) ha33 rfl Try.underlying69 rfl rfl ti9 rfl) ?_
      intro a40 ha40; clear ha33 a33
      refine wl_val ha40 rfl rfl rfl (op_loadF (off := 0) ha40 rfl Try.underlying9 rfl rfl hb37.cells rfl) ?_
      intro a41 ha41; clear ha40 a40
      refine wl_callR ha41 rfl rfl rfl (op_call ha41 rfl cb38 rfl) (c_spec_IsWord _ x14.1 (by first | assumption | omega | (simp; omega) | (simp [mkN_length]; omega))) ?_
      rintro v42 w43 he44 rfl a45 ha45; clear ha41 a41
      have hx46 := hx39.trans' he44
      have hzhx46 := he44.size
      replace hb37 := hb37.ext he44
      refine wl_val ha45 rfl rfl rfl (op_not ha45 rfl rfl) ?_
      intro a47 ha47; clear ha45 a45
      refine wl_val ha47 rfl rfl rfl (op_move ha47 rfl rfl) ?_
      intro a48 ha48; clear ha47 a47
      rcases Bool.eq_false_or_eq_true (wordB x14.1) with c49 | c49
      ·
        rw [c49] at ha48
        refine wl_val ha48 rfl rfl rfl (op_fieldAddr (sz := 0) ha48 rfl Try.underlying69 rfl rfl ti2 rfl) ?_
        intro a50 ha50; clear ha48 a48
        refine wl_val ha50 rfl rfl rfl (op_loadF (off := 1) ha50 rfl Try.underlying2 rfl rfl hb37.cells rfl) ?_
        intro a51 ha51; clear ha50 a50
        refine wl_callR ha51 rfl rfl rfl (op_call ha51 rfl cb39 rfl) (c_spec_l01In _ x14.2.1 (0 : Int) (100000 : Int) ) ?_
        rintro v52 w53 he54 rfl a55 ha55; clear ha51 a51
        have hx56 := hx46.trans' he54
        have hzhx56 := he54.size
        replace hb37 := hb37.ext he54
        refine wl_val ha55 rfl rfl rfl (op_not ha55 rfl rfl) ?_
        intro a57 ha57; clear ha55 a55
        refine wl_val ha57 rfl rfl rfl (op_pick_f ha57 rfl rfl rfl) ?_
        intro a58 ha58; clear ha57 a57
        refine wl_val ha58 rfl rfl rfl (op_move ha58 rfl rfl) ?_
        intro a59 ha59; clear ha58 a58
        rcases Bool.eq_false_or_eq_true (decide ((0 : Int) ≤ x14.2.1) && decide (x14.2.1 ≤ (100000 : Int))) with c60 | c60
        ·
          rw [c60] at ha59
          refine wl_val ha59 rfl rfl rfl (op_fieldAddr (sz := 0) ha59 rfl Try.underlying69 rfl rfl ti2 rfl) ?_
          intro a61 ha61; clear ha59 a59
          refine wl_val ha61 rfl rfl rfl (op_loadF (off := 2) ha61 rfl Try.underlying2 rfl rfl hb37.cells rfl) ?_
          intro a62 ha62; clear ha61 a61
          refine wl_val ha62 rfl rfl rfl (op_fieldAddr (sz := 0) ha62 rfl Try.underlying69 rfl rfl ti2 rfl) ?_
          intro a63 ha63; clear ha62 a62
          refine wl_val ha63 rfl rfl rfl (op_loadF (off := 1) ha63 rfl Try.underlying2 rfl rfl hb37.cells rfl) ?_
          intro a64 ha64; clear ha63 a63
          refine wl_callR ha64 rfl rfl rfl (op_call ha64 rfl cb39 rfl) (c_spec_l01In _ x14.2.2.1 (0 : Int) x14.2.1 ) ?_
          rintro v65 w66 he67 rfl a68 ha68; clear ha64 a64
          have hx69 := hx56.trans' he67
          have hzhx69 := he67.size
          replace hb37 := hb37.ext he67
          refine wl_val ha68 rfl rfl rfl (op_not ha68 rfl rfl) ?_
          intro a70 ha70; clear ha68 a68
          refine wl_val ha70 rfl rfl rfl (op_pick_f ha70 rfl rfl rfl) ?_
          intro a71 ha71; clear ha70 a70
          refine wl_val ha71 rfl rfl rfl (op_move ha71 rfl rfl) ?_
          intro a72 ha72; clear ha71 a71
          rcases Bool.eq_false_or_eq_true (decide ((0 : Int) ≤ x14.2.2.1) && decide (x14.2.2.1 ≤ x14.2.1)) with c73 | c73
          ·
            rw [c73] at ha72
            refine wl_val ha72 rfl rfl rfl (op_fieldAddr (sz := 0) ha72 rfl Try.underlying69 rfl rfl ti2 rfl) ?_
            intro a74 ha74; clear ha72 a72
            refine wl_val ha74 rfl rfl rfl (op_loadF (off := 3) ha74 rfl Try.underlying2 rfl rfl hb37.cells rfl) ?_
            intro a75 ha75; clear ha74 a74
            refine wl_callR ha75 rfl rfl rfl (op_call ha75 rfl cb39 rfl) (c_spec_l01In _ x14.2.2.2.1 (0 : Int) (100000 : Int) ) ?_
            rintro v76 w77 he78 rfl a79 ha79; clear ha75 a75
            have hx80 := hx69.trans' he78
            have hzhx80 := he78.size
            replace hb37 := hb37.ext he78
            refine wl_val ha79 rfl rfl rfl (op_not ha79 rfl rfl) ?_
            intro a81 ha81; clear ha79 a79
            refine wl_val ha81 rfl rfl rfl (op_pick_f ha81 rfl rfl rfl) ?_
            intro a82 ha82; clear ha81 a81
            refine wl_val ha82 rfl rfl rfl (op_move ha82 rfl rfl) ?_
            intro a83 ha83; clear ha82 a82
            rcases Bool.eq_false_or_eq_true (decide ((0 : Int) ≤ x14.2.2.2.1) && decide (x14.2.2.2.1 ≤ (100000 : Int))) with c84 | c84
            ·
              rw [c84] at ha83
              refine wl_val ha83 rfl rfl rfl (op_fieldAddr (sz := 0) ha83 rfl Try.underlying69 rfl rfl ti2 rfl) ?_
              intro a85 ha85; clear ha83 a83
              refine wl_val ha85 rfl rfl rfl (op_loadF (off := 4) ha85 rfl Try.underlying2 rfl rfl hb37.cells rfl) ?_
              intro a86 ha86; clear ha85 a85
              refine wl_callR ha86 rfl rfl rfl (op_call ha86 rfl cb39 rfl) (c_spec_l01In _ x14.2.2.2.2 (1 : Int) (100000 : Int) ) ?_
              rintro v87 w88 he89 rfl a90 ha90; clear ha86 a86
              have hx91 := hx80.trans' he89
              have hzhx91 := he89.size
              replace hb37 := hb37.ext he89
              refine wl_val ha90 rfl rfl rfl (op_not ha90 rfl rfl) ?_
              intro a92 ha92; clear ha90 a90
              refine wl_val ha92 rfl rfl rfl (op_pick_f ha92 rfl rfl rfl) ?_
              intro a93 ha93; clear ha92 a92
              refine wpList_nil ?_
              refine then_n ?_
              rcases Bool.eq_false_or_eq_true (decide ((1 : Int) ≤ x14.2.2.2.2) && decide (x14.2.2.2.2 ≤ (100000 : Int))) with c94 | c94
              ·
                rw [c94] at ha93
                refine cond_f ha93 rfl ?_
                refine wp_skip ?_
                refine then_n ?_
                refine wp_seq ?_
                refine dr_enter Ext follows_mixed ?_
                intro w95 he96
                have hx97 := hx91.trans' he96
                have hzhx97 := he96.size
                replace hb37 := hb37.ext he96
                have hs98 : Ext w95 w95 := Ext.rfl' _
                refine dr_val (i := 0) ha93 rfl (by kernel_rfl) (by kernel_rfl) (by kernel_rfl) rfl rfl rfl hs98 (fun w' hw' => op_move ha93 rfl rfl) ?_
                intro a99 ha99; clear ha93 a93
                refine dr_val (i := 1) ha99 rfl (by kernel_rfl) (by kernel_rfl) (by kernel_rfl) rfl rfl rfl hs98 (fun w' hw' => op_gtr ha99 rfl rfl rfl) ?_
                intro a100 ha100; clear ha99 a99
                refine dr_val (i := 2) ha100 rfl (by kernel_rfl) (by kernel_rfl) (by kernel_rfl) rfl rfl rfl hs98 (fun w' hw' => op_move ha100 rfl rfl) ?_
                intro a101 ha101; clear ha100 a100
                by_cases c102 : (0 : Int) < ((i : Nat) : Int)
                ·
                  rw [decide_eq_true c102] at ha101
                  refine dr_val (i := 3) ha101 rfl (by kernel_rfl) (by kernel_rfl) (by kernel_rfl) rfl rfl rfl hs98 (fun w' hw' => op_move ha101 rfl rfl) ?_
                  intro a103 ha103; clear ha101 a101
                  refine dr_val (i := 4) ha103 rfl (by kernel_rfl) (by kernel_rfl) (by kernel_rfl) rfl rfl rfl hs98 (fun w' hw' => op_move ha103 rfl rfl) ?_
                  intro a104 ha104; clear ha103 a103
                  refine dr_val (i := 5) ha104 rfl (by kernel_rfl) (by kernel_rfl) (by kernel_rfl) rfl rfl rfl hs98 (fun w' hw' => (op_sub ha104 rfl rfl rfl).int (IntWalk.i64_in _ (by omega))) ?_
                  intro a105 ha105; clear ha104 a104
                  obtain ⟨x106, hx106⟩ := get_ex (xs := list) (j := (i - 1)) (by omega)
                  obtain ⟨p107, c108, hi109, hc110, hr111, hs112⟩ := Rds.at_ h_list hx106
                  obtain ⟨rfl, b113, b114, b115, b116, b117⟩ := inv_shBin hr111
                  refine dr_val (i := 6) ha105 rfl (by kernel_rfl) (by kernel_rfl) (by kernel_rfl) rfl rfl rfl hs98 (fun w' hw' => op_indexAddr ha105 rfl Try.underlying30 ti69 rfl rfl (by omega) hi109) ?_
                  intro a118 ha118; clear ha105 a105
                  refine dr_val (i := 7) ha118 rfl (by kernel_rfl) (by kernel_rfl) (by kernel_rfl) rfl rfl rfl hs98 (fun w' hw' => op_fieldAddr (sz := 0) ha118 rfl Try.underlying69 rfl rfl ti9 rfl) ?_
                  intro a119 ha119; clear ha118 a118
                  refine dr_val (i := 8) ha119 rfl (by kernel_rfl) (by kernel_rfl) (by kernel_rfl) rfl rfl rfl hs98 (fun w' hw' => op_loadF (off := 0) ha119 rfl Try.underlying9 rfl rfl (hc110.ext (hx97.trans' hw')) rfl) ?_
                  intro a120 ha120; clear ha119 a119
                  refine dr_val (i := 9) ha120 rfl (by kernel_rfl) (by kernel_rfl) (by kernel_rfl) rfl rfl rfl hs98 (fun w' hw' => op_fieldAddr (sz := 0) ha120 rfl Try.underlying69 rfl rfl ti9 rfl) ?_
                  intro a121 ha121; clear ha120 a120
                  refine dr_val (i := 10) ha121 rfl (by kernel_rfl) (by kernel_rfl) (by kernel_rfl) rfl rfl rfl hs98 (fun w' hw' => op_loadF (off := 0) ha121 rfl Try.underlying9 rfl rfl (hb37.ext hw').cells rfl) ?_
                  intro a122 ha122; clear ha121 a121
                  refine dr_val (i := 11) ha122 rfl (by kernel_rfl) (by kernel_rfl) (by kernel_rfl) rfl rfl rfl hs98 (fun w' hw' => (op_sgeq ha122 rfl rfl rfl).to (congrArg (fun b => Value.bool (!b)) (bytesLess_lt _ _))) ?_
                  intro a123 ha123; clear ha122 a122
                  refine dr_val (i := 12) ha123 rfl (by kernel_rfl) (by kernel_rfl) (by kernel_rfl) rfl rfl rfl hs98 (fun w' hw' => op_pick_t ha123 rfl rfl rfl) ?_
                  intro a124 ha124; clear ha123 a123
                  refine dr_end (by kernel_rfl) ?_
                  replace hb37 := hb37.ext hs98
                  refine then_n ?_
                  by_cases c125 : x106.1 < x14.1
                  ·
                    rw [decide_eq_true c125] at ha124
                    refine cond_f ha124 rfl ?_
                    refine wp_skip ?_
                    refine block_n ?_
                    refine then_n ?_
                    refine wp_region_lit ?_
                    refine wl_val ha124 rfl rfl rfl (op_move ha124 rfl rfl) ?_
                    intro a126 ha126; clear ha124 a124
                    refine wl_val ha126 rfl rfl rfl ((op_add ha126 rfl rfl rfl).int (IntWalk.i64_in _ (by omega))) ?_
                    intro a127 ha127; clear ha126 a126
                    refine wl_val ha127 rfl rfl rfl (op_assign ha127 rfl rfl) ?_
                    intro a128 ha128; clear ha127 a127
                    refine wpList_nil ?_
                    refine round_end (x := i) ((i + 1)) ?_ ?_
                    ·
                      refine ⟨(Sl.cons_ ha128 rfl rfl (Sl.cons_ ha128 rfl (int_eq (by omega)) (Sl.nil_ ha128))), hx97, (by omega), (by omega), (by exact upB_step hA (stAt_ok hx14 (by first | (simp [binB, c11, c49, c60, c73, c84, c94, c102, c125]; done) | (simp_all [binB]; done)) (by first | (left; omega) | (right; exact ⟨_, hx106, by assumption⟩))))⟩
                    · show (list.length - ((i + 1)) : Nat) < list.length - i; omega
                  ·
                    rw [decide_eq_false c125] at ha124
                    refine cond_t ha124 rfl ?_
                    refine wp_seq ?_
                    refine wp_region_lit ?_
                    refine wl_val ha124 rfl rfl rfl (op_assign ha124 rfl rfl) ?_
                    intro a129 ha129; clear ha124 a124
                    refine wpList_nil ?_
                    refine then_n ?_
                    refine wp_ret ?_
                    refine block_r ?_
                    refine then_r ?_
                    refine then_r ?_
                    refine block_r ?_
                    refine then_r ?_
                    refine ret1 ha129 rfl rfl ?_
                    clear ha129 a129
                    exact ret_mk hx97 (congrArg Value.bool (by rw [stB_no hx14 (stAt_no hx14 (by first | (right; exact ⟨by omega, _, hx106, by assumption⟩) | (left; first | (simp [binB, c11, c49, c60, c73, c84, c94, c102, c125]; done) | (simp_all [binB]; done))))]))
                ·
                  rw [decide_eq_false c102] at ha101
                  refine dr_skip (i := 3) ha101 rfl (by kernel_rfl) (by kernel_rfl) (by kernel_rfl) rfl rfl rfl hs98 ?_
                  intro a130 ha130; clear ha101 a101
                  refine dr_skip (i := 4) ha130 rfl (by kernel_rfl) (by kernel_rfl) (by kernel_rfl) rfl rfl rfl hs98 ?_
                  intro a131 ha131; clear ha130 a130
                  refine dr_skip (i := 5) ha131 rfl (by kernel_rfl) (by kernel_rfl) (by kernel_rfl) rfl rfl rfl hs98 ?_
                  intro a132 ha132; clear ha131 a131
                  refine dr_skip (i := 6) ha132 rfl (by kernel_rfl) (by kernel_rfl) (by kernel_rfl) rfl rfl rfl hs98 ?_
                  intro a133 ha133; clear ha132 a132
                  refine dr_skip (i := 7) ha133 rfl (by kernel_rfl) (by kernel_rfl) (by kernel_rfl) rfl rfl rfl hs98 ?_
                  intro a134 ha134; clear ha133 a133
                  refine dr_skip (i := 8) ha134 rfl (by kernel_rfl) (by kernel_rfl) (by kernel_rfl) rfl rfl rfl hs98 ?_
                  intro a135 ha135; clear ha134 a134
                  refine dr_skip (i := 9) ha135 rfl (by kernel_rfl) (by kernel_rfl) (by kernel_rfl) rfl rfl rfl hs98 ?_
                  intro a136 ha136; clear ha135 a135
                  refine dr_skip (i := 10) ha136 rfl (by kernel_rfl) (by kernel_rfl) (by kernel_rfl) rfl rfl rfl hs98 ?_
                  intro a137 ha137; clear ha136 a136
                  refine dr_skip (i := 11) ha137 rfl (by kernel_rfl) (by kernel_rfl) (by kernel_rfl) rfl rfl rfl hs98 ?_
                  intro a138 ha138; clear ha137 a137
                  refine dr_val (i := 12) ha138 rfl (by kernel_rfl) (by kernel_rfl) (by kernel_rfl) rfl rfl rfl hs98 (fun w' hw' => op_pick_f ha138 rfl rfl rfl) ?_
                  intro a139 ha139; clear ha138 a138
                  refine dr_end (by kernel_rfl) ?_
                  replace hb37 := hb37.ext hs98
                  refine then_n ?_
                  refine cond_f ha139 rfl ?_
                  refine wp_skip ?_
                  refine block_n ?_
                  refine then_n ?_
                  refine wp_region_lit ?_
                  refine wl_val ha139 rfl rfl rfl (op_move ha139 rfl rfl) ?_
                  intro a140 ha140; clear ha139 a139
                  refine wl_val ha140 rfl rfl rfl ((op_add ha140 rfl rfl rfl).int (IntWalk.i64_in _ (by omega))) ?_
                  intro a141 ha141; clear ha140 a140
                  refine wl_val ha141 rfl rfl rfl (op_assign ha141 rfl rfl) ?_
                  intro a142 ha142; clear ha141 a141
                  refine wpList_nil ?_
                  refine round_end (x := i) ((i + 1)) ?_ ?_
                  ·
                    refine ⟨(Sl.cons_ ha142 rfl rfl (Sl.cons_ ha142 rfl (int_eq (by omega)) (Sl.nil_ ha142))), hx97, (by omega), (by omega), (by exact upB_step hA (stAt_ok hx14 (by first | (simp [binB, c11, c49, c60, c73, c84, c94, c102]; done) | (simp_all [binB]; done)) (by first | (left; omega) | (right; exact ⟨_, hx14, by assumption⟩))))⟩
                  · show (list.length - ((i + 1)) : Nat) < list.length - i; omega
              ·
                rw [c94] at ha93
                refine cond_t ha93 rfl ?_
                refine wp_seq ?_
                refine wp_region_lit ?_
                refine wl_val ha93 rfl rfl rfl (op_assign ha93 rfl rfl) ?_
                intro a143 ha143; clear ha93 a93
                refine wpList_nil ?_
                refine then_n ?_
                refine wp_ret ?_
                refine then_r ?_
                refine block_r ?_
                refine then_r ?_
                refine then_r ?_
                refine block_r ?_
                refine then_r ?_
                refine ret1 ha143 rfl rfl ?_
                clear ha143 a143
                exact ret_mk hx91 (congrArg Value.bool (by rw [stB_no hx14 (stAt_no hx14 (by first | (right; exact ⟨by omega, _, hx14, by assumption⟩) | (left; first | (simp [binB, c11, c49, c60, c73, c84, c94]; done) | (simp_all [binB]; done))))]))
            ·
              rw [c84] at ha83
              refine wl_skip ha83 rfl rfl rfl ?_
              intro a144 ha144; clear ha83 a83
              refine wl_skip ha144 rfl rfl rfl ?_
              intro a145 ha145; clear ha144 a144
              refine wl_skip ha145 rfl rfl rfl ?_
              intro a146 ha146; clear ha145 a145
              refine wl_skip ha146 rfl rfl rfl ?_
              intro a147 ha147; clear ha146 a146
              refine wl_val ha147 rfl rfl rfl (op_pick_t ha147 rfl rfl rfl) ?_
              intro a148 ha148; clear ha147 a147
              refine wpList_nil ?_
              refine then_n ?_
              refine cond_t ha148 rfl ?_
              refine wp_seq ?_
              refine wp_region_lit ?_
              refine wl_val ha148 rfl rfl rfl (op_assign ha148 rfl rfl) ?_
              intro a149 ha149; clear ha148 a148
              refine wpList_nil ?_
              refine then_n ?_
              refine wp_ret ?_
              refine then_r ?_
              refine block_r ?_
              refine then_r ?_
              refine then_r ?_
              refine block_r ?_
              refine then_r ?_
              refine ret1 ha149 rfl rfl ?_
              clear ha149 a149
              exact ret_mk hx80 (congrArg Value.bool (by rw [stB_no hx14 (stAt_no hx14 (by first | (right; exact ⟨by omega, _, hx14, by assumption⟩) | (left; first | (simp [binB, c11, c49, c60, c73, c84]; done) | (simp_all [binB]; done))))]))
          ·
            rw [c73] at ha72
            refine wl_skip ha72 rfl rfl rfl ?_
            intro a150 ha150; clear ha72 a72
            refine wl_skip ha150 rfl rfl rfl ?_
            intro a151 ha151; clear ha150 a150
            refine wl_skip ha151 rfl rfl rfl ?_
            intro a152 ha152; clear ha151 a151
            refine wl_skip ha152 rfl rfl rfl ?_
            intro a153 ha153; clear ha152 a152
            refine wl_val ha153 rfl rfl rfl (op_pick_t ha153 rfl rfl rfl) ?_
            intro a154 ha154; clear ha153 a153
            refine wl_val ha154 rfl rfl rfl (op_move ha154 rfl rfl) ?_
            intro a155 ha155; clear ha154 a154
            refine wl_skip ha155 rfl rfl rfl ?_
            intro a156 ha156; clear ha155 a155
            refine wl_skip ha156 rfl rfl rfl ?_
            intro a157 ha157; clear ha156 a156
            refine wl_skip ha157 rfl rfl rfl ?_
            intro a158 ha158; clear ha157 a157
            refine wl_skip ha158 rfl rfl rfl ?_
            intro a159 ha159; clear ha158 a158
            refine wl_val ha159 rfl rfl rfl (op_pick_t ha159 rfl rfl rfl) ?_
            intro a160 ha160; clear ha159 a159
            refine wpList_nil ?_
            refine then_n ?_
            refine cond_t ha160 rfl ?_
            refine wp_seq ?_
            refine wp_region_lit ?_
            refine wl_val ha160 rfl rfl rfl (op_assign ha160 rfl rfl) ?_
            intro a161 ha161; clear ha160 a160
            refine wpList_nil ?_
            refine then_n ?_
            refine wp_ret ?_
            refine then_r ?_
            refine block_r ?_
            refine then_r ?_
            refine then_r ?_
            refine block_r ?_
            refine then_r ?_
            refine ret1 ha161 rfl rfl ?_
            clear ha161 a161
            exact ret_mk hx69 (congrArg Value.bool (by rw [stB_no hx14 (stAt_no hx14 (by first | (right; exact ⟨by omega, _, hx14, by assumption⟩) | (left; first | (simp [binB, c11, c49, c60, c73]; done) | (simp_all [binB]; done))))]))
        ·
          rw [c60] at ha59
          refine wl_skip ha59 rfl rfl rfl ?_
          intro a162 ha162; clear ha59 a59
          refine wl_skip ha162 rfl rfl rfl ?_
          intro a163 ha163; clear ha162 a162
          refine wl_skip ha163 rfl rfl rfl ?_
          intro a164 ha164; clear ha163 a163
          refine wl_skip ha164 rfl rfl rfl ?_
          intro a165 ha165; clear ha164 a164
          refine wl_skip ha165 rfl rfl rfl ?_
          intro a166 ha166; clear ha165 a165
          refine wl_skip ha166 rfl rfl rfl ?_
          intro a167 ha167; clear ha166 a166
          refine wl_val ha167 rfl rfl rfl (op_pick_t ha167 rfl rfl rfl) ?_
          intro a168 ha168; clear ha167 a167
          refine wl_val ha168 rfl rfl rfl (op_move ha168 rfl rfl) ?_
          intro a169 ha169; clear ha168 a168
          refine wl_skip ha169 rfl rfl rfl ?_
          intro a170 ha170; clear ha169 a169
          refine wl_skip ha170 rfl rfl rfl ?_
          intro a171 ha171; clear ha170 a170
          refine wl_skip ha171 rfl rfl rfl ?_
          intro a172 ha172; clear ha171 a171
          refine wl_skip ha172 rfl rfl rfl ?_
          intro a173 ha173; clear ha172 a172
          refine wl_val ha173 rfl rfl rfl (op_pick_t ha173 rfl rfl rfl) ?_
          intro a174 ha174; clear ha173 a173
          refine wl_val ha174 rfl rfl rfl (op_move ha174 rfl rfl) ?_
          intro a175 ha175; clear ha174 a174
          refine wl_skip ha175 rfl rfl rfl ?_
          intro a176 ha176; clear ha175 a175
          refine wl_skip ha176 rfl rfl rfl ?_
          intro a177 ha177; clear ha176 a176
          refine wl_skip ha177 rfl rfl rfl ?_
          intro a178 ha178; clear ha177 a177
          refine wl_skip ha178 rfl rfl rfl ?_
          intro a179 ha179; clear ha178 a178
          refine wl_val ha179 rfl rfl rfl (op_pick_t ha179 rfl rfl rfl) ?_
          intro a180 ha180; clear ha179 a179
          refine wpList_nil ?_
          refine then_n ?_
          refine cond_t ha180 rfl ?_
          refine wp_seq ?_
          refine wp_region_lit ?_
          refine wl_val ha180 rfl rfl rfl (op_assign ha180 rfl rfl) ?_
          intro a181 ha181; clear ha180 a180
          refine wpList_nil ?_
          refine then_n ?_
          refine wp_ret ?_
          refine then_r ?_
          refine block_r ?_
          refine then_r ?_
          refine then_r ?_
          refine block_r ?_
          refine then_r ?_
          refine ret1 ha181 rfl rfl ?_
          clear ha181 a181
          exact ret_mk hx56 (congrArg Value.bool (by rw [stB_no hx14 (stAt_no hx14 (by first | (right; exact ⟨by omega, _, hx14, by assumption⟩) | (left; first | (simp [binB, c11, c49, c60]; done) | (simp_all [binB]; done))))]))
      ·
        rw [c49] at ha48
        refine wl_skip ha48 rfl rfl rfl ?_
        intro a182 ha182; clear ha48 a48
        refine wl_skip ha182 rfl rfl rfl ?_
        intro a183 ha183; clear ha182 a182
        refine wl_skip ha183 rfl rfl rfl ?_
        intro a184 ha184; clear ha183 a183
        refine wl_skip ha184 rfl rfl rfl ?_
        intro a185 ha185; clear ha184 a184
        refine wl_val ha185 rfl rfl rfl (op_pick_t ha185 rfl rfl rfl) ?_
        intro a186 ha186; clear ha185 a185
        refine wl_val ha186 rfl rfl rfl (op_move ha186 rfl rfl) ?_
        intro a187 ha187; clear ha186 a186
        refine wl_skip ha187 rfl rfl rfl ?_
        intro a188 ha188; clear ha187 a187
        refine wl_skip ha188 rfl rfl rfl ?_
        intro a189 ha189; clear ha188 a188
        refine wl_skip ha189 rfl rfl rfl ?_
        intro a190 ha190; clear ha189 a189
        refine wl_skip ha190 rfl rfl rfl ?_
        intro a191 ha191; clear ha190 a190
        refine wl_skip ha191 rfl rfl rfl ?_
        intro a192 ha192; clear ha191 a191
        refine wl_skip ha192 rfl rfl rfl ?_
        intro a193 ha193; clear ha192 a192
        refine wl_val ha193 rfl rfl rfl (op_pick_t ha193 rfl rfl rfl) ?_
        intro a194 ha194; clear ha193 a193
        refine wl_val ha194 rfl rfl rfl (op_move ha194 rfl rfl) ?_
        intro a195 ha195; clear ha194 a194
        refine wl_skip ha195 rfl rfl rfl ?_
        intro a196 ha196; clear ha195 a195
        refine wl_skip ha196 rfl rfl rfl ?_
        intro a197 ha197; clear ha196 a196
        refine wl_skip ha197 rfl rfl rfl ?_
        intro a198 ha198; clear ha197 a197
        refine wl_skip ha198 rfl rfl rfl ?_
        intro a199 ha199; clear ha198 a198
        refine wl_val ha199 rfl rfl rfl (op_pick_t ha199 rfl rfl rfl) ?_
        intro a200 ha200; clear ha199 a199
        refine wl_val ha200 rfl rfl rfl (op_move ha200 rfl rfl) ?_
        intro a201 ha201; clear ha200 a200
        refine wl_skip ha201 rfl rfl rfl ?_
        intro a202 ha202; clear ha201 a201
        refine wl_skip ha202 rfl rfl rfl ?_
        intro a203 ha203; clear ha202 a202
        refine wl_skip ha203 rfl rfl rfl ?_
        intro a204 ha204; clear ha203 a203
        refine wl_skip ha204 rfl rfl rfl ?_
        intro a205 ha205; clear ha204 a204
        refine wl_val ha205 rfl rfl rfl (op_pick_t ha205 rfl rfl rfl) ?_
        intro a206 ha206; clear ha205 a205
        refine wpList_nil ?_
        refine then_n ?_
        refine cond_t ha206 rfl ?_
        refine wp_seq ?_
        refine wp_region_lit ?_
        refine wl_val ha206 rfl rfl rfl (op_assign ha206 rfl rfl) ?_
        intro a207 ha207; clear ha206 a206
        refine wpList_nil ?_
        refine then_n ?_
        refine wp_ret ?_
        refine then_r ?_
        refine block_r ?_
        refine then_r ?_
        refine then_r ?_
        refine block_r ?_
        refine then_r ?_
        refine ret1 ha207 rfl rfl ?_
        clear ha207 a207
        exact ret_mk hx46 (congrArg Value.bool (by rw [stB_no hx14 (stAt_no hx14 (by first | (right; exact ⟨by omega, _, hx14, by assumption⟩) | (left; first | (simp [binB, c11, c49]; done) | (simp_all [binB]; done))))]))
    ·
      rw [decide_eq_false c11] at ha10
      refine cond_f ha10 rfl ?_
      refine wp_exit ?_
      refine then_e ?_
      refine then_e ?_
      refine block_hit ?_
      refine then_n ?_
      refine wp_seq ?_
      refine wp_region_lit ?_
      refine wl_val ha10 rfl rfl rfl (op_move ha10 rfl rfl) ?_
      intro a208 ha208; clear ha10 a10
      refine wl_val ha208 rfl rfl rfl (op_len_sl ha208 rfl Try.underlying30 rfl h_list) ?_
      intro a209 ha209; clear ha208 a208
      refine wl_val ha209 rfl rfl rfl (op_leq ha209 rfl rfl rfl) ?_
      intro a210 ha210; clear ha209 a209
      refine wl_val ha210 rfl rfl rfl (op_assign ha210 rfl rfl) ?_
      intro a211 ha211; clear ha210 a210
      refine wpList_nil ?_
      refine then_n ?_
      refine wp_ret ?_
      refine ret1 ha211 rfl rfl ?_
      clear ha211 a211
      exact ret_mk hx4 (congrArg Value.bool (by have e : i = list.length := (by omega); rw [e] at hA; rw [stB_up hA]; first | (symm; rw [decide_eq_true_eq]; omega) | (rw [Bool.eq_iff_iff]; simp; done) | (rw [Bool.eq_iff_iff]; simp; omega)))

set_option maxHeartbeats 4000000 in
theorem c_impl_IsStock (w0 : World) (v_list : Value) (list : List (Str × Int × Int × Int × Int)) {S_list : Nat → Prop} (h_list : Rds shBin S_list w0 v_list list) :
    Calls Try.prog 23 #[v_list] w0 (Ret w0 (fun v _ => v = .bool (stB list))) := by
  refine enter (N := 59) Try.func23 rfl rfl rfl ?_
  intro a0 ha0
  have hx0 := Ext.rfl' w0
  have hl_list := h_list.length_le
  refine wp_seq ?_
  refine wp_region_lit ?_
  refine wl_val ha0 rfl rfl rfl (op_assign ha0 rfl rfl) ?_
  intro a1 ha1; clear ha0 a0
  refine wpList_nil ?_
  refine then_n ?_
  refine wp_seq ?_
  refine wp_seq ?_
  refine wp_region_lit ?_
  refine wl_val ha1 rfl rfl rfl (op_move ha1 rfl rfl) ?_
  intro a2 ha2; clear ha1 a1
  refine wl_val ha2 rfl rfl rfl (op_len_sl ha2 rfl Try.underlying30 rfl h_list) ?_
  intro a3 ha3; clear ha2 a2
  refine wl_val ha3 rfl rfl rfl (op_gtr ha3 rfl rfl rfl) ?_
  intro a4 ha4; clear ha3 a3
  refine wpList_nil ?_
  refine then_n ?_
  by_cases c5 : (20 : Int) < ((list.length : Nat) : Int)
  ·
    rw [decide_eq_true c5] at ha4
    refine cond_t ha4 rfl ?_
    refine wp_seq ?_
    refine wp_region_lit ?_
    refine wl_val ha4 rfl rfl rfl (op_assign ha4 rfl rfl) ?_
    intro a6 ha6; clear ha4 a4
    refine wpList_nil ?_
    refine then_n ?_
    refine wp_ret ?_
    refine then_r ?_
    refine ret1 ha6 rfl rfl ?_
    clear ha6 a6
    exact ret_mk hx0 (congrArg Value.bool (by rw [stB_big (by omega)]))
  ·
    rw [decide_eq_false c5] at ha4
    refine cond_f ha4 rfl ?_
    refine wp_skip ?_
    refine then_n ?_
    refine wp_seq ?_
    refine wp_seq ?_
    refine wp_region_lit ?_
    refine wl_val ha4 rfl rfl rfl (op_move ha4 rfl rfl) ?_
    intro a7 ha7; clear ha4 a4
    refine wl_val ha7 rfl rfl rfl (op_len_sl ha7 rfl Try.underlying30 rfl h_list) ?_
    intro a8 ha8; clear ha7 a7
    refine wl_val ha8 rfl rfl rfl (op_move ha8 rfl rfl) ?_
    intro a9 ha9; clear ha8 a8
    refine wpList_nil ?_
    refine then_n ?_
    refine wp_block ?_
    refine loop_inv (X := Nat) (fun (i : Nat) fr wl => Sl 59 fr [(0, v_list), (8, v_list), (9, .int .i64 ((list.length : Nat) : Int)), (10, .int .i64 ((i : Nat) : Int))] ∧ Ext w0 wl ∧ w0.heap.size ≤ wl.heap.size ∧ (i ≤ list.length) ∧ (upB (stAt list) i = true) ∧ (list.length ≤ 20)) (fun (i : Nat) => list.length - i) (0) ?_ ?_
    ·
      exact ⟨(Sl.cons_ ha9 rfl rfl (Sl.cons_ ha9 rfl rfl (Sl.cons_ ha9 rfl rfl (Sl.cons_ ha9 rfl (int_eq (by omega)) (Sl.nil_ ha9))))), hx0, (by omega), (by omega), (by rfl), (by omega)⟩
    ·
      clear ha9 a9
      rintro i a12 w10 ⟨ha12, hx11, hzl13, hi, hA, hn⟩
      have hzhx11 := hx11.size
      refine wp_seq ?_
      refine wp_region_lit ?_
      refine wl_val ha12 rfl rfl rfl (op_lss ha12 rfl rfl rfl) ?_
      intro a14 ha14; clear ha12 a12
      refine wpList_nil ?_
      refine then_n ?_
      refine wp_seq ?_
      by_cases c15 : ((i : Nat) : Int) < ((list.length : Nat) : Int)
      ·
        rw [decide_eq_true c15] at ha14
        refine cond_t ha14 rfl ?_
        refine wp_skip ?_
        refine then_n ?_
        refine wp_seq ?_
        refine wp_block ?_
        refine wp_seq ?_
        refine wp_region_lit ?_
        refine wl_val ha14 rfl rfl rfl (op_move ha14 rfl rfl) ?_
        intro a16 ha16; clear ha14 a14
        obtain ⟨x17, hx17⟩ := get_ex (xs := list) (j := i) (by omega)
        obtain ⟨p18, c19, hi20, hc21, hr22, hs23⟩ := Rds.at_ h_list hx17
        obtain ⟨rfl, b24, b25, b26, b27, b28⟩ := inv_shBin hr22
        refine wl_val ha16 rfl rfl rfl (op_indexAddr ha16 rfl Try.underlying30 ti69 rfl rfl (by omega) hi20) ?_
        intro a29 ha29; clear ha16 a16
        refine wl_val ha29 rfl rfl rfl (op_loadS ha29 rfl Try.underlying69 ti69 rfl rfl (hc21.ext hx11)) ?_
        intro a30 ha30; clear ha29 a29
        refine wl_eff ha30 rfl rfl rfl (op_alloc' rfl ti69 rfl) ?_
        rintro _ w32 ⟨rfl, he33, hb34, hz35⟩ a36 ha36; clear ha30 a30
        have hx37 := hx11.trans' he33
        have hzhx37 := he33.size
        refine wl_val ha36 rfl rfl rfl (op_assign ha36 rfl rfl) ?_
        intro a38 ha38; clear ha36 a36
        refine wl_effS ha38 rfl rfl (op_storeAll' ha38 rfl ti69 rfl rfl hb34 rfl rfl (by simp [Value.oneCell']) rfl) ?_
        rintro w39 ⟨hb41, hst40, hz42⟩
        have hx43 := hx37.stp hst40 (by intro q hq; cases hq; exact (by omega))
        have hzhx43 := hst40.size
        clear hb34
        refine wpList_nil ?_
        refine then_n ?_
        refine wp_seq ?_
        refine wp_seq ?_
        refine wp_region_lit ?_
        refine wl_val ha38 rfl rfl rfl (op_fieldAddr (sz := 0) ha38 rfl Try.underlying69 rfl rfl ti9 rfl) ?_
        intro a44 ha44; clear ha38 a38
        refine wl_val ha44 rfl rfl rfl (op_loadF (off := 0) ha44 rfl Try.underlying9 rfl rfl hb41.cells rfl) ?_
        intro a45 ha45; clear ha44 a44
        refine wl_callR ha45 rfl rfl rfl (op_call ha45 rfl cb47 rfl) (c_impl_IsWord _ x17.1 (by first | assumption | omega | (simp; omega) | (simp [mkN_length]; omega))) ?_
        rintro v46 w47 he48 rfl a49 ha49; clear ha45 a45
        have hx50 := hx43.trans' he48
        have hzhx50 := he48.size
        replace hb41 := hb41.ext he48
        refine wl_val ha49 rfl rfl rfl (op_not ha49 rfl rfl) ?_
        intro a51 ha51; clear ha49 a49
        refine wl_val ha51 rfl rfl rfl (op_move ha51 rfl rfl) ?_
        intro a52 ha52; clear ha51 a51
        rcases Bool.eq_false_or_eq_true (wordB x17.1) with c53 | c53
        ·
          rw [c53] at ha52
          refine wl_val ha52 rfl rfl rfl (op_fieldAddr (sz := 0) ha52 rfl Try.underlying69 rfl rfl ti2 rfl) ?_
          intro a54 ha54; clear ha52 a52
          refine wl_val ha54 rfl rfl rfl (op_loadF (off := 1) ha54 rfl Try.underlying2 rfl rfl hb41.cells rfl) ?_
          intro a55 ha55; clear ha54 a54
          refine wl_callR ha55 rfl rfl rfl (op_call ha55 rfl cb48 rfl) (c_impl_within _ x17.2.1 (0 : Int) (100000 : Int) ) ?_
          rintro v56 w57 he58 rfl a59 ha59; clear ha55 a55
          have hx60 := hx50.trans' he58
          have hzhx60 := he58.size
          replace hb41 := hb41.ext he58
          refine wl_val ha59 rfl rfl rfl (op_not ha59 rfl rfl) ?_
          intro a61 ha61; clear ha59 a59
          refine wl_val ha61 rfl rfl rfl (op_pick_f ha61 rfl rfl rfl) ?_
          intro a62 ha62; clear ha61 a61
          refine wl_val ha62 rfl rfl rfl (op_move ha62 rfl rfl) ?_
          intro a63 ha63; clear ha62 a62
          rcases Bool.eq_false_or_eq_true (decide ((0 : Int) ≤ x17.2.1) && decide (x17.2.1 ≤ (100000 : Int))) with c64 | c64
          ·
            rw [c64] at ha63
            refine wl_val ha63 rfl rfl rfl (op_fieldAddr (sz := 0) ha63 rfl Try.underlying69 rfl rfl ti2 rfl) ?_
            intro a65 ha65; clear ha63 a63
            refine wl_val ha65 rfl rfl rfl (op_loadF (off := 2) ha65 rfl Try.underlying2 rfl rfl hb41.cells rfl) ?_
            intro a66 ha66; clear ha65 a65
            refine wl_val ha66 rfl rfl rfl (op_fieldAddr (sz := 0) ha66 rfl Try.underlying69 rfl rfl ti2 rfl) ?_
            intro a67 ha67; clear ha66 a66
            refine wl_val ha67 rfl rfl rfl (op_loadF (off := 1) ha67 rfl Try.underlying2 rfl rfl hb41.cells rfl) ?_
            intro a68 ha68; clear ha67 a67
            refine wl_callR ha68 rfl rfl rfl (op_call ha68 rfl cb48 rfl) (c_impl_within _ x17.2.2.1 (0 : Int) x17.2.1 ) ?_
            rintro v69 w70 he71 rfl a72 ha72; clear ha68 a68
            have hx73 := hx60.trans' he71
            have hzhx73 := he71.size
            replace hb41 := hb41.ext he71
            refine wl_val ha72 rfl rfl rfl (op_not ha72 rfl rfl) ?_
            intro a74 ha74; clear ha72 a72
            refine wl_val ha74 rfl rfl rfl (op_pick_f ha74 rfl rfl rfl) ?_
            intro a75 ha75; clear ha74 a74
            refine wl_val ha75 rfl rfl rfl (op_move ha75 rfl rfl) ?_
            intro a76 ha76; clear ha75 a75
            rcases Bool.eq_false_or_eq_true (decide ((0 : Int) ≤ x17.2.2.1) && decide (x17.2.2.1 ≤ x17.2.1)) with c77 | c77
            ·
              rw [c77] at ha76
              refine wl_val ha76 rfl rfl rfl (op_fieldAddr (sz := 0) ha76 rfl Try.underlying69 rfl rfl ti2 rfl) ?_
              intro a78 ha78; clear ha76 a76
              refine wl_val ha78 rfl rfl rfl (op_loadF (off := 3) ha78 rfl Try.underlying2 rfl rfl hb41.cells rfl) ?_
              intro a79 ha79; clear ha78 a78
              refine wl_callR ha79 rfl rfl rfl (op_call ha79 rfl cb48 rfl) (c_impl_within _ x17.2.2.2.1 (0 : Int) (100000 : Int) ) ?_
              rintro v80 w81 he82 rfl a83 ha83; clear ha79 a79
              have hx84 := hx73.trans' he82
              have hzhx84 := he82.size
              replace hb41 := hb41.ext he82
              refine wl_val ha83 rfl rfl rfl (op_not ha83 rfl rfl) ?_
              intro a85 ha85; clear ha83 a83
              refine wl_val ha85 rfl rfl rfl (op_pick_f ha85 rfl rfl rfl) ?_
              intro a86 ha86; clear ha85 a85
              refine wl_val ha86 rfl rfl rfl (op_move ha86 rfl rfl) ?_
              intro a87 ha87; clear ha86 a86
              rcases Bool.eq_false_or_eq_true (decide ((0 : Int) ≤ x17.2.2.2.1) && decide (x17.2.2.2.1 ≤ (100000 : Int))) with c88 | c88
              ·
                rw [c88] at ha87
                refine wl_val ha87 rfl rfl rfl (op_fieldAddr (sz := 0) ha87 rfl Try.underlying69 rfl rfl ti2 rfl) ?_
                intro a89 ha89; clear ha87 a87
                refine wl_val ha89 rfl rfl rfl (op_loadF (off := 4) ha89 rfl Try.underlying2 rfl rfl hb41.cells rfl) ?_
                intro a90 ha90; clear ha89 a89
                refine wl_callR ha90 rfl rfl rfl (op_call ha90 rfl cb48 rfl) (c_impl_within _ x17.2.2.2.2 (1 : Int) (100000 : Int) ) ?_
                rintro v91 w92 he93 rfl a94 ha94; clear ha90 a90
                have hx95 := hx84.trans' he93
                have hzhx95 := he93.size
                replace hb41 := hb41.ext he93
                refine wl_val ha94 rfl rfl rfl (op_not ha94 rfl rfl) ?_
                intro a96 ha96; clear ha94 a94
                refine wl_val ha96 rfl rfl rfl (op_pick_f ha96 rfl rfl rfl) ?_
                intro a97 ha97; clear ha96 a96
                refine wpList_nil ?_
                refine then_n ?_
                rcases Bool.eq_false_or_eq_true (decide ((1 : Int) ≤ x17.2.2.2.2) && decide (x17.2.2.2.2 ≤ (100000 : Int))) with c98 | c98
                ·
                  rw [c98] at ha97
                  refine cond_f ha97 rfl ?_
                  refine wp_skip ?_
                  refine then_n ?_
                  refine wp_seq ?_
                  refine dr_enter Ext follows_mixed ?_
                  intro w99 he100
                  have hx101 := hx95.trans' he100
                  have hzhx101 := he100.size
                  replace hb41 := hb41.ext he100
                  have hs102 : Ext w99 w99 := Ext.rfl' _
                  refine dr_val (i := 0) ha97 rfl (by kernel_rfl) (by kernel_rfl) (by kernel_rfl) rfl rfl rfl hs102 (fun w' hw' => op_move ha97 rfl rfl) ?_
                  intro a103 ha103; clear ha97 a97
                  refine dr_val (i := 1) ha103 rfl (by kernel_rfl) (by kernel_rfl) (by kernel_rfl) rfl rfl rfl hs102 (fun w' hw' => op_gtr ha103 rfl rfl rfl) ?_
                  intro a104 ha104; clear ha103 a103
                  refine dr_val (i := 2) ha104 rfl (by kernel_rfl) (by kernel_rfl) (by kernel_rfl) rfl rfl rfl hs102 (fun w' hw' => op_move ha104 rfl rfl) ?_
                  intro a105 ha105; clear ha104 a104
                  by_cases c106 : (0 : Int) < ((i : Nat) : Int)
                  ·
                    rw [decide_eq_true c106] at ha105
                    refine dr_val (i := 3) ha105 rfl (by kernel_rfl) (by kernel_rfl) (by kernel_rfl) rfl rfl rfl hs102 (fun w' hw' => op_move ha105 rfl rfl) ?_
                    intro a107 ha107; clear ha105 a105
                    refine dr_val (i := 4) ha107 rfl (by kernel_rfl) (by kernel_rfl) (by kernel_rfl) rfl rfl rfl hs102 (fun w' hw' => op_move ha107 rfl rfl) ?_
                    intro a108 ha108; clear ha107 a107
                    refine dr_val (i := 5) ha108 rfl (by kernel_rfl) (by kernel_rfl) (by kernel_rfl) rfl rfl rfl hs102 (fun w' hw' => (op_sub ha108 rfl rfl rfl).int (IntWalk.i64_in _ (by omega))) ?_
                    intro a109 ha109; clear ha108 a108
                    obtain ⟨x110, hx110⟩ := get_ex (xs := list) (j := (i - 1)) (by omega)
                    obtain ⟨p111, c112, hi113, hc114, hr115, hs116⟩ := Rds.at_ h_list hx110
                    obtain ⟨rfl, b117, b118, b119, b120, b121⟩ := inv_shBin hr115
                    refine dr_val (i := 6) ha109 rfl (by kernel_rfl) (by kernel_rfl) (by kernel_rfl) rfl rfl rfl hs102 (fun w' hw' => op_indexAddr ha109 rfl Try.underlying30 ti69 rfl rfl (by omega) hi113) ?_
                    intro a122 ha122; clear ha109 a109
                    refine dr_val (i := 7) ha122 rfl (by kernel_rfl) (by kernel_rfl) (by kernel_rfl) rfl rfl rfl hs102 (fun w' hw' => op_fieldAddr (sz := 0) ha122 rfl Try.underlying69 rfl rfl ti9 rfl) ?_
                    intro a123 ha123; clear ha122 a122
                    refine dr_val (i := 8) ha123 rfl (by kernel_rfl) (by kernel_rfl) (by kernel_rfl) rfl rfl rfl hs102 (fun w' hw' => op_loadF (off := 0) ha123 rfl Try.underlying9 rfl rfl (hc114.ext (hx101.trans' hw')) rfl) ?_
                    intro a124 ha124; clear ha123 a123
                    refine dr_val (i := 9) ha124 rfl (by kernel_rfl) (by kernel_rfl) (by kernel_rfl) rfl rfl rfl hs102 (fun w' hw' => op_fieldAddr (sz := 0) ha124 rfl Try.underlying69 rfl rfl ti9 rfl) ?_
                    intro a125 ha125; clear ha124 a124
                    refine dr_val (i := 10) ha125 rfl (by kernel_rfl) (by kernel_rfl) (by kernel_rfl) rfl rfl rfl hs102 (fun w' hw' => op_loadF (off := 0) ha125 rfl Try.underlying9 rfl rfl (hb41.ext hw').cells rfl) ?_
                    intro a126 ha126; clear ha125 a125
                    refine dr_val (i := 11) ha126 rfl (by kernel_rfl) (by kernel_rfl) (by kernel_rfl) rfl rfl rfl hs102 (fun w' hw' => (op_sgeq ha126 rfl rfl rfl).to (congrArg (fun b => Value.bool (!b)) (bytesLess_lt _ _))) ?_
                    intro a127 ha127; clear ha126 a126
                    refine dr_val (i := 12) ha127 rfl (by kernel_rfl) (by kernel_rfl) (by kernel_rfl) rfl rfl rfl hs102 (fun w' hw' => op_pick_t ha127 rfl rfl rfl) ?_
                    intro a128 ha128; clear ha127 a127
                    refine dr_end (by kernel_rfl) ?_
                    replace hb41 := hb41.ext hs102
                    refine then_n ?_
                    by_cases c129 : x110.1 < x17.1
                    ·
                      rw [decide_eq_true c129] at ha128
                      refine cond_f ha128 rfl ?_
                      refine wp_skip ?_
                      refine block_n ?_
                      refine then_n ?_
                      refine wp_region_lit ?_
                      refine wl_val ha128 rfl rfl rfl ((op_add ha128 rfl rfl rfl).int (IntWalk.i64_in _ (by omega))) ?_
                      intro a130 ha130; clear ha128 a128
                      refine wl_val ha130 rfl rfl rfl (op_move ha130 rfl rfl) ?_
                      intro a131 ha131; clear ha130 a130
                      refine wpList_nil ?_
                      refine round_end (x := i) ((i + 1)) ?_ ?_
                      ·
                        refine ⟨(Sl.cons_ ha131 rfl rfl (Sl.cons_ ha131 rfl rfl (Sl.cons_ ha131 rfl rfl (Sl.cons_ ha131 rfl (int_eq (by omega)) (Sl.nil_ ha131))))), hx101, (by omega), (by omega), (by exact upB_step hA (stAt_ok hx17 (by first | (simp [binB, c5, c15, c53, c64, c77, c88, c98, c106, c129]; done) | (simp_all [binB]; done)) (by first | (left; omega) | (right; exact ⟨_, hx110, by assumption⟩)))), (by omega)⟩
                      · show (list.length - ((i + 1)) : Nat) < list.length - i; omega
                    ·
                      rw [decide_eq_false c129] at ha128
                      refine cond_t ha128 rfl ?_
                      refine wp_seq ?_
                      refine wp_region_lit ?_
                      refine wl_val ha128 rfl rfl rfl (op_assign ha128 rfl rfl) ?_
                      intro a132 ha132; clear ha128 a128
                      refine wpList_nil ?_
                      refine then_n ?_
                      refine wp_ret ?_
                      refine block_r ?_
                      refine then_r ?_
                      refine then_r ?_
                      refine block_r ?_
                      refine then_r ?_
                      refine ret1 ha132 rfl rfl ?_
                      clear ha132 a132
                      exact ret_mk hx101 (congrArg Value.bool (by rw [stB_no hx17 (stAt_no hx17 (by first | (right; exact ⟨by omega, _, hx110, by assumption⟩) | (left; first | (simp [binB, c5, c15, c53, c64, c77, c88, c98, c106, c129]; done) | (simp_all [binB]; done))))]))
                  ·
                    rw [decide_eq_false c106] at ha105
                    refine dr_skip (i := 3) ha105 rfl (by kernel_rfl) (by kernel_rfl) (by kernel_rfl) rfl rfl rfl hs102 ?_
                    intro a133 ha133; clear ha105 a105
                    refine dr_skip (i := 4) ha133 rfl (by kernel_rfl) (by kernel_rfl) (by kernel_rfl) rfl rfl rfl hs102 ?_
                    intro a134 ha134; clear ha133 a133
                    refine dr_skip (i := 5) ha134 rfl (by kernel_rfl) (by kernel_rfl) (by kernel_rfl) rfl rfl rfl hs102 ?_
                    intro a135 ha135; clear ha134 a134
                    refine dr_skip (i := 6) ha135 rfl (by kernel_rfl) (by kernel_rfl) (by kernel_rfl) rfl rfl rfl hs102 ?_
                    intro a136 ha136; clear ha135 a135
                    refine dr_skip (i := 7) ha136 rfl (by kernel_rfl) (by kernel_rfl) (by kernel_rfl) rfl rfl rfl hs102 ?_
                    intro a137 ha137; clear ha136 a136
                    refine dr_skip (i := 8) ha137 rfl (by kernel_rfl) (by kernel_rfl) (by kernel_rfl) rfl rfl rfl hs102 ?_
                    intro a138 ha138; clear ha137 a137
                    refine dr_skip (i := 9) ha138 rfl (by kernel_rfl) (by kernel_rfl) (by kernel_rfl) rfl rfl rfl hs102 ?_
                    intro a139 ha139; clear ha138 a138
                    refine dr_skip (i := 10) ha139 rfl (by kernel_rfl) (by kernel_rfl) (by kernel_rfl) rfl rfl rfl hs102 ?_
                    intro a140 ha140; clear ha139 a139
                    refine dr_skip (i := 11) ha140 rfl (by kernel_rfl) (by kernel_rfl) (by kernel_rfl) rfl rfl rfl hs102 ?_
                    intro a141 ha141; clear ha140 a140
                    refine dr_val (i := 12) ha141 rfl (by kernel_rfl) (by kernel_rfl) (by kernel_rfl) rfl rfl rfl hs102 (fun w' hw' => op_pick_f ha141 rfl rfl rfl) ?_
                    intro a142 ha142; clear ha141 a141
                    refine dr_end (by kernel_rfl) ?_
                    replace hb41 := hb41.ext hs102
                    refine then_n ?_
                    refine cond_f ha142 rfl ?_
                    refine wp_skip ?_
                    refine block_n ?_
                    refine then_n ?_
                    refine wp_region_lit ?_
                    refine wl_val ha142 rfl rfl rfl ((op_add ha142 rfl rfl rfl).int (IntWalk.i64_in _ (by omega))) ?_
                    intro a143 ha143; clear ha142 a142
                    refine wl_val ha143 rfl rfl rfl (op_move ha143 rfl rfl) ?_
                    intro a144 ha144; clear ha143 a143
                    refine wpList_nil ?_
                    refine round_end (x := i) ((i + 1)) ?_ ?_
                    ·
                      refine ⟨(Sl.cons_ ha144 rfl rfl (Sl.cons_ ha144 rfl rfl (Sl.cons_ ha144 rfl rfl (Sl.cons_ ha144 rfl (int_eq (by omega)) (Sl.nil_ ha144))))), hx101, (by omega), (by omega), (by exact upB_step hA (stAt_ok hx17 (by first | (simp [binB, c5, c15, c53, c64, c77, c88, c98, c106]; done) | (simp_all [binB]; done)) (by first | (left; omega) | (right; exact ⟨_, hx17, by assumption⟩)))), (by omega)⟩
                    · show (list.length - ((i + 1)) : Nat) < list.length - i; omega
                ·
                  rw [c98] at ha97
                  refine cond_t ha97 rfl ?_
                  refine wp_seq ?_
                  refine wp_region_lit ?_
                  refine wl_val ha97 rfl rfl rfl (op_assign ha97 rfl rfl) ?_
                  intro a145 ha145; clear ha97 a97
                  refine wpList_nil ?_
                  refine then_n ?_
                  refine wp_ret ?_
                  refine then_r ?_
                  refine block_r ?_
                  refine then_r ?_
                  refine then_r ?_
                  refine block_r ?_
                  refine then_r ?_
                  refine ret1 ha145 rfl rfl ?_
                  clear ha145 a145
                  exact ret_mk hx95 (congrArg Value.bool (by rw [stB_no hx17 (stAt_no hx17 (by first | (right; exact ⟨by omega, _, hx17, by assumption⟩) | (left; first | (simp [binB, c5, c15, c53, c64, c77, c88, c98]; done) | (simp_all [binB]; done))))]))
              ·
                rw [c88] at ha87
                refine wl_skip ha87 rfl rfl rfl ?_
                intro a146 ha146; clear ha87 a87
                refine wl_skip ha146 rfl rfl rfl ?_
                intro a147 ha147; clear ha146 a146
                refine wl_skip ha147 rfl rfl rfl ?_
                intro a148 ha148; clear ha147 a147
                refine wl_skip ha148 rfl rfl rfl ?_
                intro a149 ha149; clear ha148 a148
                refine wl_val ha149 rfl rfl rfl (op_pick_t ha149 rfl rfl rfl) ?_
                intro a150 ha150; clear ha149 a149
                refine wpList_nil ?_
                refine then_n ?_
                refine cond_t ha150 rfl ?_
                refine wp_seq ?_
                refine wp_region_lit ?_
                refine wl_val ha150 rfl rfl rfl (op_assign ha150 rfl rfl) ?_
                intro a151 ha151; clear ha150 a150
                refine wpList_nil ?_
                refine then_n ?_
                refine wp_ret ?_
                refine then_r ?_
                refine block_r ?_
                refine then_r ?_
                refine then_r ?_
                refine block_r ?_
                refine then_r ?_
                refine ret1 ha151 rfl rfl ?_
                clear ha151 a151
                exact ret_mk hx84 (congrArg Value.bool (by rw [stB_no hx17 (stAt_no hx17 (by first | (right; exact ⟨by omega, _, hx17, by assumption⟩) | (left; first | (simp [binB, c5, c15, c53, c64, c77, c88]; done) | (simp_all [binB]; done))))]))
            ·
              rw [c77] at ha76
              refine wl_skip ha76 rfl rfl rfl ?_
              intro a152 ha152; clear ha76 a76
              refine wl_skip ha152 rfl rfl rfl ?_
              intro a153 ha153; clear ha152 a152
              refine wl_skip ha153 rfl rfl rfl ?_
              intro a154 ha154; clear ha153 a153
              refine wl_skip ha154 rfl rfl rfl ?_
              intro a155 ha155; clear ha154 a154
              refine wl_val ha155 rfl rfl rfl (op_pick_t ha155 rfl rfl rfl) ?_
              intro a156 ha156; clear ha155 a155
              refine wl_val ha156 rfl rfl rfl (op_move ha156 rfl rfl) ?_
              intro a157 ha157; clear ha156 a156
              refine wl_skip ha157 rfl rfl rfl ?_
              intro a158 ha158; clear ha157 a157
              refine wl_skip ha158 rfl rfl rfl ?_
              intro a159 ha159; clear ha158 a158
              refine wl_skip ha159 rfl rfl rfl ?_
              intro a160 ha160; clear ha159 a159
              refine wl_skip ha160 rfl rfl rfl ?_
              intro a161 ha161; clear ha160 a160
              refine wl_val ha161 rfl rfl rfl (op_pick_t ha161 rfl rfl rfl) ?_
              intro a162 ha162; clear ha161 a161
              refine wpList_nil ?_
              refine then_n ?_
              refine cond_t ha162 rfl ?_
              refine wp_seq ?_
              refine wp_region_lit ?_
              refine wl_val ha162 rfl rfl rfl (op_assign ha162 rfl rfl) ?_
              intro a163 ha163; clear ha162 a162
              refine wpList_nil ?_
              refine then_n ?_
              refine wp_ret ?_
              refine then_r ?_
              refine block_r ?_
              refine then_r ?_
              refine then_r ?_
              refine block_r ?_
              refine then_r ?_
              refine ret1 ha163 rfl rfl ?_
              clear ha163 a163
              exact ret_mk hx73 (congrArg Value.bool (by rw [stB_no hx17 (stAt_no hx17 (by first | (right; exact ⟨by omega, _, hx17, by assumption⟩) | (left; first | (simp [binB, c5, c15, c53, c64, c77]; done) | (simp_all [binB]; done))))]))
          ·
            rw [c64] at ha63
            refine wl_skip ha63 rfl rfl rfl ?_
            intro a164 ha164; clear ha63 a63
            refine wl_skip ha164 rfl rfl rfl ?_
            intro a165 ha165; clear ha164 a164
            refine wl_skip ha165 rfl rfl rfl ?_
            intro a166 ha166; clear ha165 a165
            refine wl_skip ha166 rfl rfl rfl ?_
            intro a167 ha167; clear ha166 a166
            refine wl_skip ha167 rfl rfl rfl ?_
            intro a168 ha168; clear ha167 a167
            refine wl_skip ha168 rfl rfl rfl ?_
            intro a169 ha169; clear ha168 a168
            refine wl_val ha169 rfl rfl rfl (op_pick_t ha169 rfl rfl rfl) ?_
            intro a170 ha170; clear ha169 a169
            refine wl_val ha170 rfl rfl rfl (op_move ha170 rfl rfl) ?_
            intro a171 ha171; clear ha170 a170
            refine wl_skip ha171 rfl rfl rfl ?_
            intro a172 ha172; clear ha171 a171
            refine wl_skip ha172 rfl rfl rfl ?_
            intro a173 ha173; clear ha172 a172
            refine wl_skip ha173 rfl rfl rfl ?_
            intro a174 ha174; clear ha173 a173
            refine wl_skip ha174 rfl rfl rfl ?_
            intro a175 ha175; clear ha174 a174
            refine wl_val ha175 rfl rfl rfl (op_pick_t ha175 rfl rfl rfl) ?_
            intro a176 ha176; clear ha175 a175
            refine wl_val ha176 rfl rfl rfl (op_move ha176 rfl rfl) ?_
            intro a177 ha177; clear ha176 a176
            refine wl_skip ha177 rfl rfl rfl ?_
            intro a178 ha178; clear ha177 a177
            refine wl_skip ha178 rfl rfl rfl ?_
            intro a179 ha179; clear ha178 a178
            refine wl_skip ha179 rfl rfl rfl ?_
            intro a180 ha180; clear ha179 a179
            refine wl_skip ha180 rfl rfl rfl ?_
            intro a181 ha181; clear ha180 a180
            refine wl_val ha181 rfl rfl rfl (op_pick_t ha181 rfl rfl rfl) ?_
            intro a182 ha182; clear ha181 a181
            refine wpList_nil ?_
            refine then_n ?_
            refine cond_t ha182 rfl ?_
            refine wp_seq ?_
            refine wp_region_lit ?_
            refine wl_val ha182 rfl rfl rfl (op_assign ha182 rfl rfl) ?_
            intro a183 ha183; clear ha182 a182
            refine wpList_nil ?_
            refine then_n ?_
            refine wp_ret ?_
            refine then_r ?_
            refine block_r ?_
            refine then_r ?_
            refine then_r ?_
            refine block_r ?_
            refine then_r ?_
            refine ret1 ha183 rfl rfl ?_
            clear ha183 a183
            exact ret_mk hx60 (congrArg Value.bool (by rw [stB_no hx17 (stAt_no hx17 (by first | (right; exact ⟨by omega, _, hx17, by assumption⟩) | (left; first | (simp [binB, c5, c15, c53, c64]; done) | (simp_all [binB]; done))))]))
        ·
          rw [c53] at ha52
          refine wl_skip ha52 rfl rfl rfl ?_
          intro a184 ha184; clear ha52 a52
          refine wl_skip ha184 rfl rfl rfl ?_
          intro a185 ha185; clear ha184 a184
          refine wl_skip ha185 rfl rfl rfl ?_
          intro a186 ha186; clear ha185 a185
          refine wl_skip ha186 rfl rfl rfl ?_
          intro a187 ha187; clear ha186 a186
          refine wl_val ha187 rfl rfl rfl (op_pick_t ha187 rfl rfl rfl) ?_
          intro a188 ha188; clear ha187 a187
          refine wl_val ha188 rfl rfl rfl (op_move ha188 rfl rfl) ?_
          intro a189 ha189; clear ha188 a188
          refine wl_skip ha189 rfl rfl rfl ?_
          intro a190 ha190; clear ha189 a189
          refine wl_skip ha190 rfl rfl rfl ?_
          intro a191 ha191; clear ha190 a190
          refine wl_skip ha191 rfl rfl rfl ?_
          intro a192 ha192; clear ha191 a191
          refine wl_skip ha192 rfl rfl rfl ?_
          intro a193 ha193; clear ha192 a192
          refine wl_skip ha193 rfl rfl rfl ?_
          intro a194 ha194; clear ha193 a193
          refine wl_skip ha194 rfl rfl rfl ?_
          intro a195 ha195; clear ha194 a194
          refine wl_val ha195 rfl rfl rfl (op_pick_t ha195 rfl rfl rfl) ?_
          intro a196 ha196; clear ha195 a195
          refine wl_val ha196 rfl rfl rfl (op_move ha196 rfl rfl) ?_
          intro a197 ha197; clear ha196 a196
          refine wl_skip ha197 rfl rfl rfl ?_
          intro a198 ha198; clear ha197 a197
          refine wl_skip ha198 rfl rfl rfl ?_
          intro a199 ha199; clear ha198 a198
          refine wl_skip ha199 rfl rfl rfl ?_
          intro a200 ha200; clear ha199 a199
          refine wl_skip ha200 rfl rfl rfl ?_
          intro a201 ha201; clear ha200 a200
          refine wl_val ha201 rfl rfl rfl (op_pick_t ha201 rfl rfl rfl) ?_
          intro a202 ha202; clear ha201 a201
          refine wl_val ha202 rfl rfl rfl (op_move ha202 rfl rfl) ?_
          intro a203 ha203; clear ha202 a202
          refine wl_skip ha203 rfl rfl rfl ?_
          intro a204 ha204; clear ha203 a203
          refine wl_skip ha204 rfl rfl rfl ?_
          intro a205 ha205; clear ha204 a204
          refine wl_skip ha205 rfl rfl rfl ?_
          intro a206 ha206; clear ha205 a205
          refine wl_skip ha206 rfl rfl rfl ?_
          intro a207 ha207; clear ha206 a206
          refine wl_val ha207 rfl rfl rfl (op_pick_t ha207 rfl rfl rfl) ?_
          intro a208 ha208; clear ha207 a207
          refine wpList_nil ?_
          refine then_n ?_
          refine cond_t ha208 rfl ?_
          refine wp_seq ?_
          refine wp_region_lit ?_
          refine wl_val ha208 rfl rfl rfl (op_assign ha208 rfl rfl) ?_
          intro a209 ha209; clear ha208 a208
          refine wpList_nil ?_
          refine then_n ?_
          refine wp_ret ?_
          refine then_r ?_
          refine block_r ?_
          refine then_r ?_
          refine then_r ?_
          refine block_r ?_
          refine then_r ?_
          refine ret1 ha209 rfl rfl ?_
          clear ha209 a209
          exact ret_mk hx50 (congrArg Value.bool (by rw [stB_no hx17 (stAt_no hx17 (by first | (right; exact ⟨by omega, _, hx17, by assumption⟩) | (left; first | (simp [binB, c5, c15, c53]; done) | (simp_all [binB]; done))))]))
      ·
        rw [decide_eq_false c15] at ha14
        refine cond_f ha14 rfl ?_
        refine wp_exit ?_
        refine then_e ?_
        refine then_e ?_
        refine block_hit ?_
        refine then_n ?_
        refine wp_seq ?_
        refine wp_region_lit ?_
        refine wl_val ha14 rfl rfl rfl (op_assign ha14 rfl rfl) ?_
        intro a210 ha210; clear ha14 a14
        refine wpList_nil ?_
        refine then_n ?_
        refine wp_ret ?_
        refine ret1 ha210 rfl rfl ?_
        clear ha210 a210
        exact ret_mk hx11 (congrArg Value.bool (by have e : i = list.length := (by omega); rw [e] at hA; rw [stB_up hA]; first | (symm; rw [decide_eq_true_eq]; omega) | (rw [Bool.eq_iff_iff]; simp; done) | (rw [Bool.eq_iff_iff]; simp; omega)))

theorem c_impl_isDay (w0 : World) (day : Int)  :
    Calls Try.prog 49 #[.int .i64 day] w0 (Ret w0 (fun v _ => v = .bool (decide (1 ≤ day) && decide (day ≤ 1000)))) := by
  refine enter (N := 5) Try.func49 rfl rfl rfl ?_
  intro a0 ha0
  have hx0 := Ext.rfl' w0
  refine wp_seq ?_
  refine wp_region_lit ?_
  refine wl_val ha0 rfl rfl rfl (op_assign ha0 rfl rfl) ?_
  intro a1 ha1; clear ha0 a0
  refine wpList_nil ?_
  refine then_n ?_
  refine wp_seq ?_
  refine wp_region_lit ?_
  refine wl_val ha1 rfl rfl rfl (op_move ha1 rfl rfl) ?_
  intro a2 ha2; clear ha1 a1
  refine wl_callR ha2 rfl rfl rfl (op_call ha2 rfl cb48 rfl) (c_impl_within _ day (1 : Int) (1000 : Int) ) ?_
  rintro v3 w4 he5 rfl a6 ha6; clear ha2 a2
  have hx7 := hx0.trans' he5
  have hzhx7 := he5.size
  refine wl_val ha6 rfl rfl rfl (op_assign ha6 rfl rfl) ?_
  intro a8 ha8; clear ha6 a6
  refine wpList_nil ?_
  refine then_n ?_
  refine wp_ret ?_
  refine ret1 ha8 rfl rfl ?_
  clear ha8 a8
  exact ret_mk hx7 (congrArg Value.bool (by rfl))

theorem c_impl_isWork (w0 : World) (minutes : Int)  :
    Calls Try.prog 50 #[.int .i64 minutes] w0 (Ret w0 (fun v _ => v = .bool (decide (1 ≤ minutes) && decide (minutes ≤ 2000)))) := by
  refine enter (N := 5) Try.func50 rfl rfl rfl ?_
  intro a0 ha0
  have hx0 := Ext.rfl' w0
  refine wp_seq ?_
  refine wp_region_lit ?_
  refine wl_val ha0 rfl rfl rfl (op_assign ha0 rfl rfl) ?_
  intro a1 ha1; clear ha0 a0
  refine wpList_nil ?_
  refine then_n ?_
  refine wp_seq ?_
  refine wp_region_lit ?_
  refine wl_val ha1 rfl rfl rfl (op_move ha1 rfl rfl) ?_
  intro a2 ha2; clear ha1 a1
  refine wl_callR ha2 rfl rfl rfl (op_call ha2 rfl cb48 rfl) (c_impl_within _ minutes (1 : Int) (2000 : Int) ) ?_
  rintro v3 w4 he5 rfl a6 ha6; clear ha2 a2
  have hx7 := hx0.trans' he5
  have hzhx7 := he5.size
  refine wl_val ha6 rfl rfl rfl (op_assign ha6 rfl rfl) ?_
  intro a8 ha8; clear ha6 a6
  refine wpList_nil ?_
  refine then_n ?_
  refine wp_ret ?_
  refine ret1 ha8 rfl rfl ?_
  clear ha8 a8
  exact ret_mk hx7 (congrArg Value.bool (by rfl))

theorem c_spec_l23Is (w0 : World) (p : Str × Int × Int) (g0 : p.1.length ≤ 9223372036854775807) :
    Calls Try.prog 40 #[.agg #[St p.1, .int .i64 p.2.1, .int .i64 p.2.2]] w0 (Ret w0 (fun v _ => v = .bool (prB p))) := by
  refine enter (N := 16) Try.func40 rfl rfl rfl ?_
  intro a0 ha0
  have hx0 := Ext.rfl' w0
  refine wp_seq ?_
  refine wp_region_lit ?_
  refine wl_eff ha0 rfl rfl rfl (op_box' ha0 rfl rfl rfl) ?_
  rintro _ w2 ⟨rfl, he3, hb4, hz5⟩ a6 ha6; clear ha0 a0
  have hx7 := hx0.trans' he3
  have hzhx7 := he3.size
  refine wl_val ha6 rfl rfl rfl (op_assign ha6 rfl rfl) ?_
  intro a8 ha8; clear ha6 a6
  refine wpList_nil ?_
  refine then_n ?_
  refine wp_seq ?_
  refine wp_region_lit ?_
  refine wl_val ha8 rfl rfl rfl (op_fieldAddr (sz := 0) ha8 rfl Try.underlying72 rfl rfl ti9 rfl) ?_
  intro a9 ha9; clear ha8 a8
  refine wl_val ha9 rfl rfl rfl (op_loadF (off := 0) ha9 rfl Try.underlying9 rfl rfl hb4.cells rfl) ?_
  intro a10 ha10; clear ha9 a9
  refine wl_callR ha10 rfl rfl rfl (op_call ha10 rfl cb38 rfl) (c_spec_IsWord _ p.1 (by first | assumption | omega | (simp; omega) | (simp [mkN_length]; omega))) ?_
  rintro v11 w12 he13 rfl a14 ha14; clear ha10 a10
  have hx15 := hx7.trans' he13
  have hzhx15 := he13.size
  replace hb4 := hb4.ext he13
  refine wl_val ha14 rfl rfl rfl (op_move ha14 rfl rfl) ?_
  intro a16 ha16; clear ha14 a14
  rcases Bool.eq_false_or_eq_true (wordB p.1) with c17 | c17
  ·
    rw [c17] at ha16
    refine wl_val ha16 rfl rfl rfl (op_fieldAddr (sz := 0) ha16 rfl Try.underlying72 rfl rfl ti2 rfl) ?_
    intro a18 ha18; clear ha16 a16
    refine wl_val ha18 rfl rfl rfl (op_loadF (off := 1) ha18 rfl Try.underlying2 rfl rfl hb4.cells rfl) ?_
    intro a19 ha19; clear ha18 a18
    refine wl_callR ha19 rfl rfl rfl (op_call ha19 rfl cb39 rfl) (c_spec_l01In _ p.2.1 (1 : Int) (1000 : Int) ) ?_
    rintro v20 w21 he22 rfl a23 ha23; clear ha19 a19
    have hx24 := hx15.trans' he22
    have hzhx24 := he22.size
    replace hb4 := hb4.ext he22
    refine wl_val ha23 rfl rfl rfl (op_pick_t ha23 rfl rfl rfl) ?_
    intro a25 ha25; clear ha23 a23
    refine wl_val ha25 rfl rfl rfl (op_move ha25 rfl rfl) ?_
    intro a26 ha26; clear ha25 a25
    rcases Bool.eq_false_or_eq_true (decide ((1 : Int) ≤ p.2.1) && decide (p.2.1 ≤ (1000 : Int))) with c27 | c27
    ·
      rw [c27] at ha26
      refine wl_val ha26 rfl rfl rfl (op_fieldAddr (sz := 0) ha26 rfl Try.underlying72 rfl rfl ti2 rfl) ?_
      intro a28 ha28; clear ha26 a26
      refine wl_val ha28 rfl rfl rfl (op_loadF (off := 2) ha28 rfl Try.underlying2 rfl rfl hb4.cells rfl) ?_
      intro a29 ha29; clear ha28 a28
      refine wl_callR ha29 rfl rfl rfl (op_call ha29 rfl cb39 rfl) (c_spec_l01In _ p.2.2 (1 : Int) (2000 : Int) ) ?_
      rintro v30 w31 he32 rfl a33 ha33; clear ha29 a29
      have hx34 := hx24.trans' he32
      have hzhx34 := he32.size
      replace hb4 := hb4.ext he32
      refine wl_val ha33 rfl rfl rfl (op_pick_t ha33 rfl rfl rfl) ?_
      intro a35 ha35; clear ha33 a33
      refine wl_val ha35 rfl rfl rfl (op_assign ha35 rfl rfl) ?_
      intro a36 ha36; clear ha35 a35
      refine wpList_nil ?_
      refine then_n ?_
      refine wp_ret ?_
      refine ret1 ha36 rfl rfl ?_
      clear ha36 a36
      exact ret_mk hx34 (congrArg Value.bool (by first | (simp [prB, c17, c27]; done) | (simp_all [prB]; done)))
    ·
      rw [c27] at ha26
      refine wl_skip ha26 rfl rfl rfl ?_
      intro a37 ha37; clear ha26 a26
      refine wl_skip ha37 rfl rfl rfl ?_
      intro a38 ha38; clear ha37 a37
      refine wl_skip ha38 rfl rfl rfl ?_
      intro a39 ha39; clear ha38 a38
      refine wl_val ha39 rfl rfl rfl (op_pick_f ha39 rfl rfl rfl) ?_
      intro a40 ha40; clear ha39 a39
      refine wl_val ha40 rfl rfl rfl (op_assign ha40 rfl rfl) ?_
      intro a41 ha41; clear ha40 a40
      refine wpList_nil ?_
      refine then_n ?_
      refine wp_ret ?_
      refine ret1 ha41 rfl rfl ?_
      clear ha41 a41
      exact ret_mk hx24 (congrArg Value.bool (by first | (simp [prB, c17, c27]; done) | (simp_all [prB]; done)))
  ·
    rw [c17] at ha16
    refine wl_skip ha16 rfl rfl rfl ?_
    intro a42 ha42; clear ha16 a16
    refine wl_skip ha42 rfl rfl rfl ?_
    intro a43 ha43; clear ha42 a42
    refine wl_skip ha43 rfl rfl rfl ?_
    intro a44 ha44; clear ha43 a43
    refine wl_val ha44 rfl rfl rfl (op_pick_f ha44 rfl rfl rfl) ?_
    intro a45 ha45; clear ha44 a44
    refine wl_val ha45 rfl rfl rfl (op_move ha45 rfl rfl) ?_
    intro a46 ha46; clear ha45 a45
    refine wl_skip ha46 rfl rfl rfl ?_
    intro a47 ha47; clear ha46 a46
    refine wl_skip ha47 rfl rfl rfl ?_
    intro a48 ha48; clear ha47 a47
    refine wl_skip ha48 rfl rfl rfl ?_
    intro a49 ha49; clear ha48 a48
    refine wl_val ha49 rfl rfl rfl (op_pick_f ha49 rfl rfl rfl) ?_
    intro a50 ha50; clear ha49 a49
    refine wl_val ha50 rfl rfl rfl (op_assign ha50 rfl rfl) ?_
    intro a51 ha51; clear ha50 a50
    refine wpList_nil ?_
    refine then_n ?_
    refine wp_ret ?_
    refine ret1 ha51 rfl rfl ?_
    clear ha51 a51
    exact ret_mk hx15 (congrArg Value.bool (by first | (simp [prB, c17]; done) | (simp_all [prB]; done)))

theorem c_spec_l23Find (w0 : World) (v_list : Value) (list : List (Str × Int × Int)) {S_list : Nat → Prop} (name : Str) (h_list : Rds shProm S_list w0 v_list list) :
    Calls Try.prog 41 #[v_list, St name] w0 (Ret w0 (fun v _ => v = .int .i64 (fdF (pnB name) list))) := by
  refine enter (N := 20) Try.func41 rfl rfl rfl ?_
  intro a0 ha0
  have hx0 := Ext.rfl' w0
  have hl_list := h_list.length_le
  refine wp_seq ?_
  refine wp_region_lit ?_
  refine wl_val ha0 rfl rfl rfl (op_assign ha0 rfl rfl) ?_
  intro a1 ha1; clear ha0 a0
  refine wpList_nil ?_
  refine then_n ?_
  refine wp_seq ?_
  refine wp_seq ?_
  refine wp_region_lit ?_
  refine wl_val ha1 rfl rfl rfl (op_assign ha1 rfl rfl) ?_
  intro a2 ha2; clear ha1 a1
  refine wpList_nil ?_
  refine then_n ?_
  refine wp_block ?_
  refine loop_inv (X := Nat) (fun (i : Nat) fr wl => Sl 20 fr [(0, v_list), (1, St name), (5, .int .i64 ((i : Nat) : Int))] ∧ Ext w0 wl ∧ w0.heap.size ≤ wl.heap.size ∧ (i ≤ list.length) ∧ (∀ (j : Nat) (y : Str × Int × Int), j < i → list[j]? = some y → (pnB name) y = false)) (fun (i : Nat) => list.length - i) (0) ?_ ?_
  ·
    exact ⟨(Sl.cons_ ha2 rfl rfl (Sl.cons_ ha2 rfl rfl (Sl.cons_ ha2 rfl (int_eq (by omega)) (Sl.nil_ ha2)))), hx0, (by omega), (by omega), (by exact all_zero)⟩
  ·
    clear ha2 a2
    rintro i a5 w3 ⟨ha5, hx4, hzl6, hi, hA⟩
    have hzhx4 := hx4.size
    refine wp_seq ?_
    refine wp_seq ?_
    refine wp_region_lit ?_
    refine wl_val ha5 rfl rfl rfl (op_move ha5 rfl rfl) ?_
    intro a7 ha7; clear ha5 a5
    refine wl_val ha7 rfl rfl rfl (op_move ha7 rfl rfl) ?_
    intro a8 ha8; clear ha7 a7
    refine wl_val ha8 rfl rfl rfl (op_len_sl ha8 rfl Try.underlying31 rfl h_list) ?_
    intro a9 ha9; clear ha8 a8
    refine wl_val ha9 rfl rfl rfl (op_lss ha9 rfl rfl rfl) ?_
    intro a10 ha10; clear ha9 a9
    refine wpList_nil ?_
    refine then_n ?_
    by_cases c11 : ((i : Nat) : Int) < ((list.length : Nat) : Int)
    ·
      rw [decide_eq_true c11] at ha10
      refine cond_t ha10 rfl ?_
      refine wp_skip ?_
      refine then_n ?_
      refine wp_seq ?_
      refine wp_block ?_
      refine wp_seq ?_
      refine wp_region_lit ?_
      refine wl_val ha10 rfl rfl rfl (op_move ha10 rfl rfl) ?_
      intro a12 ha12; clear ha10 a10
      refine wl_val ha12 rfl rfl rfl (op_move ha12 rfl rfl) ?_
      intro a13 ha13; clear ha12 a12
      obtain ⟨x14, hx14⟩ := get_ex (xs := list) (j := i) (by omega)
      obtain ⟨p15, c16, hi17, hc18, hr19, hs20⟩ := Rds.at_ h_list hx14
      obtain ⟨rfl, b21, b22, b23⟩ := inv_shProm hr19
      refine wl_val ha13 rfl rfl rfl (op_indexAddr ha13 rfl Try.underlying31 ti72 rfl rfl (by omega) hi17) ?_
      intro a24 ha24; clear ha13 a13
      refine wl_val ha24 rfl rfl rfl (op_fieldAddr (sz := 0) ha24 rfl Try.underlying72 rfl rfl ti9 rfl) ?_
      intro a25 ha25; clear ha24 a24
      refine wl_val ha25 rfl rfl rfl (op_loadF (off := 0) ha25 rfl Try.underlying9 rfl rfl (hc18.ext hx4) rfl) ?_
      intro a26 ha26; clear ha25 a25
      refine wl_val ha26 rfl rfl rfl (op_move ha26 rfl rfl) ?_
      intro a27 ha27; clear ha26 a26
      refine wl_val ha27 rfl rfl rfl (op_seql ha27 rfl rfl rfl) ?_
      intro a28 ha28; clear ha27 a27
      refine wpList_nil ?_
      refine then_n ?_
      by_cases c29 : x14.1 = name
      ·
        rw [decide_eq_true c29] at ha28
        refine cond_t ha28 rfl ?_
        refine wp_seq ?_
        refine wp_region_lit ?_
        refine wl_val ha28 rfl rfl rfl (op_move ha28 rfl rfl) ?_
        intro a30 ha30; clear ha28 a28
        refine wl_val ha30 rfl rfl rfl (op_assign ha30 rfl rfl) ?_
        intro a31 ha31; clear ha30 a30
        refine wpList_nil ?_
        refine then_n ?_
        refine wp_ret ?_
        refine block_r ?_
        refine then_r ?_
        refine then_r ?_
        refine block_r ?_
        refine then_r ?_
        refine ret1 ha31 rfl rfl ?_
        clear ha31 a31
        exact ret_mk hx4 (int_eq (by exact (fdF_hit hx14 (by simp [pnB, c11, c29]) hA).symm))
      ·
        rw [decide_eq_false c29] at ha28
        refine cond_f ha28 rfl ?_
        refine wp_skip ?_
        refine block_n ?_
        refine then_n ?_
        refine wp_region_lit ?_
        refine wl_val ha28 rfl rfl rfl (op_move ha28 rfl rfl) ?_
        intro a32 ha32; clear ha28 a28
        refine wl_val ha32 rfl rfl rfl ((op_add ha32 rfl rfl rfl).int (IntWalk.i64_in _ (by omega))) ?_
        intro a33 ha33; clear ha32 a32
        refine wl_val ha33 rfl rfl rfl (op_assign ha33 rfl rfl) ?_
        intro a34 ha34; clear ha33 a33
        refine wpList_nil ?_
        refine round_end (x := i) ((i + 1)) ?_ ?_
        ·
          refine ⟨(Sl.cons_ ha34 rfl rfl (Sl.cons_ ha34 rfl rfl (Sl.cons_ ha34 rfl (int_eq (by omega)) (Sl.nil_ ha34)))), hx4, (by omega), (by omega), (by exact all_snoc (p := fun y => (pnB name) y = false) hA hx14 (by simp [pnB, c11, c29]))⟩
        · show (list.length - ((i + 1)) : Nat) < list.length - i; omega
    ·
      rw [decide_eq_false c11] at ha10
      refine cond_f ha10 rfl ?_
      refine wp_exit ?_
      refine then_e ?_
      refine then_e ?_
      refine block_hit ?_
      refine then_n ?_
      refine wp_seq ?_
      refine wp_region_lit ?_
      refine wl_val ha10 rfl rfl rfl (op_assign ha10 rfl rfl) ?_
      intro a35 ha35; clear ha10 a10
      refine wpList_nil ?_
      refine then_n ?_
      refine wp_ret ?_
      refine ret1 ha35 rfl rfl ?_
      clear ha35 a35
      exact ret_mk hx4 (int_eq (by exact (fdF_none fun j y hj hy => hA j y (by omega) hy).symm))

set_option maxHeartbeats 4000000 in
theorem c_spec_ArePromises (w0 : World) (v_list : Value) (list : List (Str × Int × Int)) {S_list : Nat → Prop} (h_list : Rds shProm S_list w0 v_list list) :
    Calls Try.prog 18 #[v_list] w0 (Ret w0 (fun v _ => v = .bool (prsB list))) := by
  refine enter (N := 30) Try.func18 rfl rfl rfl ?_
  intro a0 ha0
  have hx0 := Ext.rfl' w0
  have hl_list := h_list.length_le
  refine wp_seq ?_
  refine wp_region_lit ?_
  refine wl_val ha0 rfl rfl rfl (op_assign ha0 rfl rfl) ?_
  intro a1 ha1; clear ha0 a0
  refine wpList_nil ?_
  refine then_n ?_
  refine wp_seq ?_
  refine wp_seq ?_
  refine wp_region_lit ?_
  refine wl_val ha1 rfl rfl rfl (op_assign ha1 rfl rfl) ?_
  intro a2 ha2; clear ha1 a1
  refine wpList_nil ?_
  refine then_n ?_
  refine wp_block ?_
  refine loop_inv (X := Nat) (fun (i : Nat) fr wl => Sl 30 fr [(0, v_list), (3, .int .i64 ((i : Nat) : Int))] ∧ Ext w0 wl ∧ w0.heap.size ≤ wl.heap.size ∧ (i ≤ list.length) ∧ (upB (prAt list) i = true)) (fun (i : Nat) => list.length - i) (0) ?_ ?_
  ·
    exact ⟨(Sl.cons_ ha2 rfl rfl (Sl.cons_ ha2 rfl (int_eq (by omega)) (Sl.nil_ ha2))), hx0, (by omega), (by omega), (by rfl)⟩
  ·
    clear ha2 a2
    rintro i a5 w3 ⟨ha5, hx4, hzl6, hi, hA⟩
    have hzhx4 := hx4.size
    refine wp_seq ?_
    refine wp_seq ?_
    refine wp_region_lit ?_
    refine wl_val ha5 rfl rfl rfl (op_move ha5 rfl rfl) ?_
    intro a7 ha7; clear ha5 a5
    refine wl_val ha7 rfl rfl rfl (op_move ha7 rfl rfl) ?_
    intro a8 ha8; clear ha7 a7
    refine wl_val ha8 rfl rfl rfl (op_len_sl ha8 rfl Try.underlying31 rfl h_list) ?_
    intro a9 ha9; clear ha8 a8
    refine wl_val ha9 rfl rfl rfl (op_lss ha9 rfl rfl rfl) ?_
    intro a10 ha10; clear ha9 a9
    refine wpList_nil ?_
    refine then_n ?_
    by_cases c11 : ((i : Nat) : Int) < ((list.length : Nat) : Int)
    ·
      rw [decide_eq_true c11] at ha10
      refine cond_t ha10 rfl ?_
      refine wp_skip ?_
      refine then_n ?_
      refine wp_seq ?_
      refine wp_block ?_
      refine wp_seq ?_
      refine wp_region_lit ?_
      refine wl_val ha10 rfl rfl rfl (op_move ha10 rfl rfl) ?_
      intro a12 ha12; clear ha10 a10
      refine wl_val ha12 rfl rfl rfl (op_move ha12 rfl rfl) ?_
      intro a13 ha13; clear ha12 a12
      obtain ⟨x14, hx14⟩ := get_ex (xs := list) (j := i) (by omega)
      obtain ⟨p15, c16, hi17, hc18, hr19, hs20⟩ := Rds.at_ h_list hx14
      obtain ⟨rfl, b21, b22, b23⟩ := inv_shProm hr19
      refine wl_val ha13 rfl rfl rfl (op_indexAddr ha13 rfl Try.underlying31 ti72 rfl rfl (by omega) hi17) ?_
      intro a24 ha24; clear ha13 a13
      refine wl_val ha24 rfl rfl rfl (op_loadS ha24 rfl Try.underlying72 ti72 rfl rfl (hc18.ext hx4)) ?_
      intro a25 ha25; clear ha24 a24
      refine wl_callR ha25 rfl rfl rfl (op_call ha25 rfl cb40 rfl) (c_spec_l23Is _ x14 (by first | assumption | omega | (simp; omega) | (simp [mkN_length]; omega))) ?_
      rintro v26 w27 he28 rfl a29 ha29; clear ha25 a25
      have hx30 := hx4.trans' he28
      have hzhx30 := he28.size
      refine wl_val ha29 rfl rfl rfl (op_not ha29 rfl rfl) ?_
      intro a31 ha31; clear ha29 a29
      refine wl_val ha31 rfl rfl rfl (op_move ha31 rfl rfl) ?_
      intro a32 ha32; clear ha31 a31
      rcases Bool.eq_false_or_eq_true (prB x14) with c33 | c33
      ·
        rw [c33] at ha32
        refine wl_val ha32 rfl rfl rfl (op_move ha32 rfl rfl) ?_
        intro a34 ha34; clear ha32 a32
        refine wl_val ha34 rfl rfl rfl (op_move ha34 rfl rfl) ?_
        intro a35 ha35; clear ha34 a34
        refine wl_val ha35 rfl rfl rfl (op_move ha35 rfl rfl) ?_
        intro a36 ha36; clear ha35 a35
        refine wl_val ha36 rfl rfl rfl (op_indexAddr ha36 rfl Try.underlying31 ti72 rfl rfl (by omega) hi17) ?_
        intro a37 ha37; clear ha36 a36
        refine wl_val ha37 rfl rfl rfl (op_fieldAddr (sz := 0) ha37 rfl Try.underlying72 rfl rfl ti9 rfl) ?_
        intro a38 ha38; clear ha37 a37
        refine wl_val ha38 rfl rfl rfl (op_loadF (off := 0) ha38 rfl Try.underlying9 rfl rfl (hc18.ext hx30) rfl) ?_
        intro a39 ha39; clear ha38 a38
        refine wl_callR ha39 rfl rfl rfl (op_call ha39 rfl cb41 rfl) (c_spec_l23Find _ v_list list x14.1 (h_list.ext pos_shProm hx30)) ?_
        rintro v40 w41 he42 rfl a43 ha43; clear ha39 a39
        have hx44 := hx30.trans' he42
        have hzhx44 := he42.size
        refine wl_val ha43 rfl rfl rfl (op_move ha43 rfl rfl) ?_
        intro a45 ha45; clear ha43 a43
        refine wl_val ha45 rfl rfl rfl ((op_neq ha45 rfl rfl rfl).to (congrArg Value.bool decide_not)) ?_
        intro a46 ha46; clear ha45 a45
        refine wl_val ha46 rfl rfl rfl (op_pick_f ha46 rfl rfl rfl) ?_
        intro a47 ha47; clear ha46 a46
        refine wpList_nil ?_
        refine then_n ?_
        by_cases c48 : (fdF (pnB x14.1) list : Int) = ((i : Nat) : Int)
        ·
          rw [decide_eq_true c48] at ha47
          refine cond_f ha47 rfl ?_
          refine wp_skip ?_
          refine block_n ?_
          refine then_n ?_
          refine wp_region_lit ?_
          refine wl_val ha47 rfl rfl rfl (op_move ha47 rfl rfl) ?_
          intro a49 ha49; clear ha47 a47
          refine wl_val ha49 rfl rfl rfl ((op_add ha49 rfl rfl rfl).int (IntWalk.i64_in _ (by omega))) ?_
          intro a50 ha50; clear ha49 a49
          refine wl_val ha50 rfl rfl rfl (op_assign ha50 rfl rfl) ?_
          intro a51 ha51; clear ha50 a50
          refine wpList_nil ?_
          refine round_end (x := i) ((i + 1)) ?_ ?_
          ·
            refine ⟨(Sl.cons_ ha51 rfl rfl (Sl.cons_ ha51 rfl (int_eq (by omega)) (Sl.nil_ ha51))), hx44, (by omega), (by omega), (by exact upB_step hA (prAt_ok hx14 (by assumption) ((fd_here hx14 (by simp [pnB])).1 (by assumption))))⟩
          · show (list.length - ((i + 1)) : Nat) < list.length - i; omega
        ·
          rw [decide_eq_false c48] at ha47
          refine cond_t ha47 rfl ?_
          refine wp_seq ?_
          refine wp_region_lit ?_
          refine wl_val ha47 rfl rfl rfl (op_assign ha47 rfl rfl) ?_
          intro a52 ha52; clear ha47 a47
          refine wpList_nil ?_
          refine then_n ?_
          refine wp_ret ?_
          refine block_r ?_
          refine then_r ?_
          refine then_r ?_
          refine block_r ?_
          refine then_r ?_
          refine ret1 ha52 rfl rfl ?_
          clear ha52 a52
          exact ret_mk hx44 (congrArg Value.bool (by rw [prsB_no hx14 (prAt_no hx14 (by first | (left; assumption) | (right; exact fun q => absurd ((fd_here hx14 (by simp [pnB])).2 q) (by assumption)) | (left; first | (simp [prB, c11, c33, c48]; done) | (simp_all [prB]; done))))]))
      ·
        rw [c33] at ha32
        refine wl_skip ha32 rfl rfl rfl ?_
        intro a53 ha53; clear ha32 a32
        refine wl_skip ha53 rfl rfl rfl ?_
        intro a54 ha54; clear ha53 a53
        refine wl_skip ha54 rfl rfl rfl ?_
        intro a55 ha55; clear ha54 a54
        refine wl_skip ha55 rfl rfl rfl ?_
        intro a56 ha56; clear ha55 a55
        refine wl_skip ha56 rfl rfl rfl ?_
        intro a57 ha57; clear ha56 a56
        refine wl_skip ha57 rfl rfl rfl ?_
        intro a58 ha58; clear ha57 a57
        refine wl_skip ha58 rfl rfl rfl ?_
        intro a59 ha59; clear ha58 a58
        refine wl_skip ha59 rfl rfl rfl ?_
        intro a60 ha60; clear ha59 a59
        refine wl_skip ha60 rfl rfl rfl ?_
        intro a61 ha61; clear ha60 a60
        refine wl_val ha61 rfl rfl rfl (op_pick_t ha61 rfl rfl rfl) ?_
        intro a62 ha62; clear ha61 a61
        refine wpList_nil ?_
        refine then_n ?_
        refine cond_t ha62 rfl ?_
        refine wp_seq ?_
        refine wp_region_lit ?_
        refine wl_val ha62 rfl rfl rfl (op_assign ha62 rfl rfl) ?_
        intro a63 ha63; clear ha62 a62
        refine wpList_nil ?_
        refine then_n ?_
        refine wp_ret ?_
        refine block_r ?_
        refine then_r ?_
        refine then_r ?_
        refine block_r ?_
        refine then_r ?_
        refine ret1 ha63 rfl rfl ?_
        clear ha63 a63
        exact ret_mk hx30 (congrArg Value.bool (by rw [prsB_no hx14 (prAt_no hx14 (by first | (left; assumption) | (right; exact fun q => absurd ((fd_here hx14 (by simp [pnB])).2 q) (by assumption)) | (left; first | (simp [prB, c11, c33]; done) | (simp_all [prB]; done))))]))
    ·
      rw [decide_eq_false c11] at ha10
      refine cond_f ha10 rfl ?_
      refine wp_exit ?_
      refine then_e ?_
      refine then_e ?_
      refine block_hit ?_
      refine then_n ?_
      refine wp_seq ?_
      refine wp_region_lit ?_
      refine wl_val ha10 rfl rfl rfl (op_move ha10 rfl rfl) ?_
      intro a64 ha64; clear ha10 a10
      refine wl_val ha64 rfl rfl rfl (op_len_sl ha64 rfl Try.underlying31 rfl h_list) ?_
      intro a65 ha65; clear ha64 a64
      refine wl_val ha65 rfl rfl rfl (op_leq ha65 rfl rfl rfl) ?_
      intro a66 ha66; clear ha65 a65
      refine wl_val ha66 rfl rfl rfl (op_assign ha66 rfl rfl) ?_
      intro a67 ha67; clear ha66 a66
      refine wpList_nil ?_
      refine then_n ?_
      refine wp_ret ?_
      refine ret1 ha67 rfl rfl ?_
      clear ha67 a67
      exact ret_mk hx4 (congrArg Value.bool (by have e : i = list.length := (by omega); rw [e] at hA; rw [prsB_up hA]; first | (symm; rw [decide_eq_true_eq]; omega) | (rw [Bool.eq_iff_iff]; simp; done) | (rw [Bool.eq_iff_iff]; simp; omega)))

set_option maxHeartbeats 4000000 in
theorem c_impl_ArePromises (w0 : World) (v_list : Value) (list : List (Str × Int × Int)) {S_list : Nat → Prop} (h_list : Rds shProm S_list w0 v_list list) :
    Calls Try.prog 24 #[v_list] w0 (Ret w0 (fun v _ => v = .bool (prsB list))) := by
  refine enter (N := 48) Try.func24 rfl rfl rfl ?_
  intro a0 ha0
  have hx0 := Ext.rfl' w0
  have hl_list := h_list.length_le
  refine wp_seq ?_
  refine wp_region_lit ?_
  refine wl_val ha0 rfl rfl rfl (op_assign ha0 rfl rfl) ?_
  intro a1 ha1; clear ha0 a0
  refine wpList_nil ?_
  refine then_n ?_
  refine wp_seq ?_
  refine wp_seq ?_
  refine wp_region_lit ?_
  refine wl_val ha1 rfl rfl rfl (op_move ha1 rfl rfl) ?_
  intro a2 ha2; clear ha1 a1
  refine wl_val ha2 rfl rfl rfl (op_len_sl ha2 rfl Try.underlying31 rfl h_list) ?_
  intro a3 ha3; clear ha2 a2
  refine wl_val ha3 rfl rfl rfl (op_gtr ha3 rfl rfl rfl) ?_
  intro a4 ha4; clear ha3 a3
  refine wpList_nil ?_
  refine then_n ?_
  by_cases c5 : (40 : Int) < ((list.length : Nat) : Int)
  ·
    rw [decide_eq_true c5] at ha4
    refine cond_t ha4 rfl ?_
    refine wp_seq ?_
    refine wp_region_lit ?_
    refine wl_val ha4 rfl rfl rfl (op_assign ha4 rfl rfl) ?_
    intro a6 ha6; clear ha4 a4
    refine wpList_nil ?_
    refine then_n ?_
    refine wp_ret ?_
    refine then_r ?_
    refine ret1 ha6 rfl rfl ?_
    clear ha6 a6
    exact ret_mk hx0 (congrArg Value.bool (by rw [prsB_big (by omega)]))
  ·
    rw [decide_eq_false c5] at ha4
    refine cond_f ha4 rfl ?_
    refine wp_skip ?_
    refine then_n ?_
    refine wp_seq ?_
    refine wp_seq ?_
    refine wp_region_lit ?_
    refine wl_val ha4 rfl rfl rfl (op_move ha4 rfl rfl) ?_
    intro a7 ha7; clear ha4 a4
    refine wl_val ha7 rfl rfl rfl (op_len_sl ha7 rfl Try.underlying31 rfl h_list) ?_
    intro a8 ha8; clear ha7 a7
    refine wl_val ha8 rfl rfl rfl (op_move ha8 rfl rfl) ?_
    intro a9 ha9; clear ha8 a8
    refine wpList_nil ?_
    refine then_n ?_
    refine wp_block ?_
    refine loop_inv (X := Nat) (fun (i : Nat) fr wl => Sl 48 fr [(0, v_list), (10, v_list), (11, .int .i64 ((list.length : Nat) : Int)), (12, .int .i64 ((i : Nat) : Int))] ∧ Ext w0 wl ∧ w0.heap.size ≤ wl.heap.size ∧ (i ≤ list.length) ∧ (upB (prAt list) i = true) ∧ (list.length ≤ 40)) (fun (i : Nat) => list.length - i) (0) ?_ ?_
    ·
      exact ⟨(Sl.cons_ ha9 rfl rfl (Sl.cons_ ha9 rfl rfl (Sl.cons_ ha9 rfl rfl (Sl.cons_ ha9 rfl (int_eq (by omega)) (Sl.nil_ ha9))))), hx0, (by omega), (by omega), (by rfl), (by omega)⟩
    ·
      clear ha9 a9
      rintro i a12 w10 ⟨ha12, hx11, hzl13, hi, hA, hn⟩
      have hzhx11 := hx11.size
      refine wp_seq ?_
      refine wp_region_lit ?_
      refine wl_val ha12 rfl rfl rfl (op_lss ha12 rfl rfl rfl) ?_
      intro a14 ha14; clear ha12 a12
      refine wpList_nil ?_
      refine then_n ?_
      refine wp_seq ?_
      by_cases c15 : ((i : Nat) : Int) < ((list.length : Nat) : Int)
      ·
        rw [decide_eq_true c15] at ha14
        refine cond_t ha14 rfl ?_
        refine wp_skip ?_
        refine then_n ?_
        refine wp_seq ?_
        refine wp_block ?_
        refine wp_seq ?_
        refine wp_region_lit ?_
        refine wl_val ha14 rfl rfl rfl (op_move ha14 rfl rfl) ?_
        intro a16 ha16; clear ha14 a14
        obtain ⟨x17, hx17⟩ := get_ex (xs := list) (j := i) (by omega)
        obtain ⟨p18, c19, hi20, hc21, hr22, hs23⟩ := Rds.at_ h_list hx17
        obtain ⟨rfl, b24, b25, b26⟩ := inv_shProm hr22
        refine wl_val ha16 rfl rfl rfl (op_indexAddr ha16 rfl Try.underlying31 ti72 rfl rfl (by omega) hi20) ?_
        intro a27 ha27; clear ha16 a16
        refine wl_val ha27 rfl rfl rfl (op_loadS ha27 rfl Try.underlying72 ti72 rfl rfl (hc21.ext hx11)) ?_
        intro a28 ha28; clear ha27 a27
        refine wl_eff ha28 rfl rfl rfl (op_alloc' rfl ti72 rfl) ?_
        rintro _ w30 ⟨rfl, he31, hb32, hz33⟩ a34 ha34; clear ha28 a28
        have hx35 := hx11.trans' he31
        have hzhx35 := he31.size
        refine wl_val ha34 rfl rfl rfl (op_assign ha34 rfl rfl) ?_
        intro a36 ha36; clear ha34 a34
        refine wl_effS ha36 rfl rfl (op_storeAll' ha36 rfl ti72 rfl rfl hb32 rfl rfl (by simp [Value.oneCell']) rfl) ?_
        rintro w37 ⟨hb39, hst38, hz40⟩
        have hx41 := hx35.stp hst38 (by intro q hq; cases hq; exact (by omega))
        have hzhx41 := hst38.size
        clear hb32
        refine wpList_nil ?_
        refine then_n ?_
        refine wp_seq ?_
        refine wp_seq ?_
        refine wp_region_lit ?_
        refine wl_val ha36 rfl rfl rfl (op_fieldAddr (sz := 0) ha36 rfl Try.underlying72 rfl rfl ti9 rfl) ?_
        intro a42 ha42; clear ha36 a36
        refine wl_val ha42 rfl rfl rfl (op_loadF (off := 0) ha42 rfl Try.underlying9 rfl rfl hb39.cells rfl) ?_
        intro a43 ha43; clear ha42 a42
        refine wl_callR ha43 rfl rfl rfl (op_call ha43 rfl cb47 rfl) (c_impl_IsWord _ x17.1 (by first | assumption | omega | (simp; omega) | (simp [mkN_length]; omega))) ?_
        rintro v44 w45 he46 rfl a47 ha47; clear ha43 a43
        have hx48 := hx41.trans' he46
        have hzhx48 := he46.size
        replace hb39 := hb39.ext he46
        refine wl_val ha47 rfl rfl rfl (op_not ha47 rfl rfl) ?_
        intro a49 ha49; clear ha47 a47
        refine wl_val ha49 rfl rfl rfl (op_move ha49 rfl rfl) ?_
        intro a50 ha50; clear ha49 a49
        rcases Bool.eq_false_or_eq_true (wordB x17.1) with c51 | c51
        ·
          rw [c51] at ha50
          refine wl_val ha50 rfl rfl rfl (op_fieldAddr (sz := 0) ha50 rfl Try.underlying72 rfl rfl ti2 rfl) ?_
          intro a52 ha52; clear ha50 a50
          refine wl_val ha52 rfl rfl rfl (op_loadF (off := 1) ha52 rfl Try.underlying2 rfl rfl hb39.cells rfl) ?_
          intro a53 ha53; clear ha52 a52
          refine wl_callR ha53 rfl rfl rfl (op_call ha53 rfl cb49 rfl) (c_impl_isDay _ x17.2.1 ) ?_
          rintro v54 w55 he56 rfl a57 ha57; clear ha53 a53
          have hx58 := hx48.trans' he56
          have hzhx58 := he56.size
          replace hb39 := hb39.ext he56
          refine wl_val ha57 rfl rfl rfl (op_not ha57 rfl rfl) ?_
          intro a59 ha59; clear ha57 a57
          refine wl_val ha59 rfl rfl rfl (op_pick_f ha59 rfl rfl rfl) ?_
          intro a60 ha60; clear ha59 a59
          refine wl_val ha60 rfl rfl rfl (op_move ha60 rfl rfl) ?_
          intro a61 ha61; clear ha60 a60
          rcases Bool.eq_false_or_eq_true (decide (1 ≤ x17.2.1) && decide (x17.2.1 ≤ 1000)) with c62 | c62
          ·
            rw [c62] at ha61
            refine wl_val ha61 rfl rfl rfl (op_fieldAddr (sz := 0) ha61 rfl Try.underlying72 rfl rfl ti2 rfl) ?_
            intro a63 ha63; clear ha61 a61
            refine wl_val ha63 rfl rfl rfl (op_loadF (off := 2) ha63 rfl Try.underlying2 rfl rfl hb39.cells rfl) ?_
            intro a64 ha64; clear ha63 a63
            refine wl_callR ha64 rfl rfl rfl (op_call ha64 rfl cb50 rfl) (c_impl_isWork _ x17.2.2 ) ?_
            rintro v65 w66 he67 rfl a68 ha68; clear ha64 a64
            have hx69 := hx58.trans' he67
            have hzhx69 := he67.size
            replace hb39 := hb39.ext he67
            refine wl_val ha68 rfl rfl rfl (op_not ha68 rfl rfl) ?_
            intro a70 ha70; clear ha68 a68
            refine wl_val ha70 rfl rfl rfl (op_pick_f ha70 rfl rfl rfl) ?_
            intro a71 ha71; clear ha70 a70
            refine wpList_nil ?_
            refine then_n ?_
            rcases Bool.eq_false_or_eq_true (decide (1 ≤ x17.2.2) && decide (x17.2.2 ≤ 2000)) with c72 | c72
            ·
              rw [c72] at ha71
              refine cond_f ha71 rfl ?_
              refine wp_skip ?_
              refine then_n ?_
              refine wp_seq ?_
              refine wp_region_lit ?_
              refine wl_val ha71 rfl rfl rfl (op_move ha71 rfl rfl) ?_
              intro a73 ha73; clear ha71 a71
              refine wl_val ha73 rfl rfl rfl (op_move ha73 rfl rfl) ?_
              intro a74 ha74; clear ha73 a73
              obtain ⟨u75, hu76, hr77⟩ := Rds.part h_list Try.underlying31 ti72 none (some (.int .i64 (i : Nat))) 0 i (.inl ⟨rfl, rfl⟩) (.inr ⟨.i64, rfl⟩) (by first | omega | (simp; omega)) (by first | omega | (simp; omega))
              replace hr77 := hr77.cast (ys := list.take i) (by first | rw [List.take_length] | simp)
              refine wl_val ha74 rfl rfl rfl (op_slice_t (by omega) ha74 rfl rfl rfl hu76) ?_
              intro a78 ha78; clear ha74 a74
              refine wl_val ha78 rfl rfl rfl (op_len_sl ha78 rfl Try.underlying31 rfl hr77) ?_
              intro a79 ha79; clear ha78 a78
              refine wl_val ha79 rfl rfl rfl (op_move ha79 rfl rfl) ?_
              intro a80 ha80; clear ha79 a79
              refine wpList_nil ?_
              refine then_n ?_
              refine wp_block ?_
              refine loop_inv (X := Nat) (fun (k : Nat) fr wl => Sl 48 fr [(0, v_list), (4, .pointer (some (⟨w10.heap.size, 0, none⟩ : Addr))), (10, v_list), (11, .int .i64 ((list.length : Nat) : Int)), (12, .int .i64 ((i : Nat) : Int)), (35, u75), (36, .int .i64 (((list.take i).length : Nat) : Int)), (37, .int .i64 ((k : Nat) : Int))] ∧ Ext w0 wl ∧ Box wl w10.heap.size 72 [St x17.1, .int .i64 x17.2.1, .int .i64 x17.2.2] ∧ w66.heap.size ≤ wl.heap.size ∧ (k ≤ (list.take i).length) ∧ (∀ (j : Nat) (y : Prom), j < k → (list.take i)[j]? = some y → y.1 ≠ x17.1)) (fun (k : Nat) => (list.take i).length - k) (0) ?_ ?_
              ·
                exact ⟨(Sl.cons_ ha80 rfl rfl (Sl.cons_ ha80 rfl rfl (Sl.cons_ ha80 rfl rfl (Sl.cons_ ha80 rfl rfl (Sl.cons_ ha80 rfl rfl (Sl.cons_ ha80 rfl rfl (Sl.cons_ ha80 rfl rfl (Sl.cons_ ha80 rfl (int_eq (by omega)) (Sl.nil_ ha80))))))))), hx69, hb39, (by omega), (by omega), (by exact all_zero)⟩
              ·
                clear ha80 a80
                rintro k a84 w81 ⟨ha84, hx82, hf83, hzl85, hk, hK⟩
                have hzhx82 := hx82.size
                have htl : (list.take i).length = i := by rw [List.length_take]; omega
                refine wp_seq ?_
                refine wp_region_lit ?_
                refine wl_val ha84 rfl rfl rfl (op_lss ha84 rfl rfl rfl) ?_
                intro a86 ha86; clear ha84 a84
                refine wpList_nil ?_
                refine then_n ?_
                refine wp_seq ?_
                by_cases c87 : ((k : Nat) : Int) < (((list.take i).length : Nat) : Int)
                ·
                  rw [decide_eq_true c87] at ha86
                  refine cond_t ha86 rfl ?_
                  refine wp_skip ?_
                  refine then_n ?_
                  refine wp_seq ?_
                  refine wp_block ?_
                  refine wp_seq ?_
                  refine wp_region_lit ?_
                  obtain ⟨x88, hx88⟩ := get_ex (xs := list.take i) (j := k) (by omega)
                  obtain ⟨p89, c90, hi91, hc92, hr93, hs94⟩ := Rds.at_ hr77 hx88
                  obtain ⟨rfl, b95, b96, b97⟩ := inv_shProm hr93
                  refine wl_val ha86 rfl rfl rfl (op_indexAddr ha86 rfl Try.underlying31 ti72 rfl rfl (by omega) hi91) ?_
                  intro a98 ha98; clear ha86 a86
                  refine wl_val ha98 rfl rfl rfl (op_loadS ha98 rfl Try.underlying72 ti72 rfl rfl (hc92.ext hx82)) ?_
                  intro a99 ha99; clear ha98 a98
                  refine wl_eff ha99 rfl rfl rfl (op_alloc' rfl ti72 rfl) ?_
                  rintro _ w101 ⟨rfl, he102, hb103, hz104⟩ a105 ha105; clear ha99 a99
                  have hx106 := hx82.trans' he102
                  have hzhx106 := he102.size
                  replace hf83 := hf83.ext he102
                  refine wl_effS ha105 rfl rfl (op_storeAll' ha105 rfl ti72 rfl rfl hb103 rfl rfl (by simp [Value.oneCell']) rfl) ?_
                  rintro w107 ⟨hb109, hst108, hz110⟩
                  have hx111 := hx106.stp hst108 (by intro q hq; cases hq; exact (by omega))
                  have hzhx111 := hst108.size
                  replace hf83 := hf83.stp hst108 (by intro q hq; cases hq; omega)
                  clear hb103
                  refine wpList_nil ?_
                  refine then_n ?_
                  refine wp_seq ?_
                  refine wp_region_lit ?_
                  refine wl_val ha105 rfl rfl rfl (op_fieldAddr (sz := 0) ha105 rfl Try.underlying72 rfl rfl ti9 rfl) ?_
                  intro a112 ha112; clear ha105 a105
                  refine wl_val ha112 rfl rfl rfl (op_loadF (off := 0) ha112 rfl Try.underlying9 rfl rfl hb109.cells rfl) ?_
                  intro a113 ha113; clear ha112 a112
                  refine wl_val ha113 rfl rfl rfl (op_fieldAddr (sz := 0) ha113 rfl Try.underlying72 rfl rfl ti9 rfl) ?_
                  intro a114 ha114; clear ha113 a113
                  refine wl_val ha114 rfl rfl rfl (op_loadF (off := 0) ha114 rfl Try.underlying9 rfl rfl hf83.cells rfl) ?_
                  intro a115 ha115; clear ha114 a114
                  refine wl_val ha115 rfl rfl rfl (op_seql ha115 rfl rfl rfl) ?_
                  intro a116 ha116; clear ha115 a115
                  refine wpList_nil ?_
                  refine then_n ?_
                  by_cases c117 : x88.1 = x17.1
                  ·
                    rw [decide_eq_true c117] at ha116
                    refine cond_t ha116 rfl ?_
                    refine wp_seq ?_
                    refine wp_region_lit ?_
                    refine wl_val ha116 rfl rfl rfl (op_assign ha116 rfl rfl) ?_
                    intro a118 ha118; clear ha116 a116
                    refine wpList_nil ?_
                    refine then_n ?_
                    refine wp_ret ?_
                    refine block_r ?_
                    refine then_r ?_
                    refine then_r ?_
                    refine block_r ?_
                    refine block_r ?_
                    refine then_r ?_
                    refine then_r ?_
                    refine block_r ?_
                    refine then_r ?_
                    refine ret1 ha118 rfl rfl ?_
                    clear ha118 a118
                    exact ret_mk hx111 (congrArg Value.bool (by rw [prsB_no hx17 (prAt_no hx17 (.inr fun q => by have h9 := fdF_neg.1 q _ (List.mem_of_getElem? hx88); simp [pnB, c5, c15, c51, c62, c72, c87, c117] at h9))]))
                  ·
                    rw [decide_eq_false c117] at ha116
                    refine cond_f ha116 rfl ?_
                    refine wp_skip ?_
                    refine block_n ?_
                    refine then_n ?_
                    refine wp_region_lit ?_
                    refine wl_val ha116 rfl rfl rfl ((op_add ha116 rfl rfl rfl).int (IntWalk.i64_in _ (by omega))) ?_
                    intro a119 ha119; clear ha116 a116
                    refine wl_val ha119 rfl rfl rfl (op_move ha119 rfl rfl) ?_
                    intro a120 ha120; clear ha119 a119
                    refine wpList_nil ?_
                    refine round_end (x := k) ((k + 1)) ?_ ?_
                    ·
                      refine ⟨(Sl.cons_ ha120 rfl rfl (Sl.cons_ ha120 rfl rfl (Sl.cons_ ha120 rfl rfl (Sl.cons_ ha120 rfl rfl (Sl.cons_ ha120 rfl rfl (Sl.cons_ ha120 rfl rfl (Sl.cons_ ha120 rfl rfl (Sl.cons_ ha120 rfl (int_eq (by omega)) (Sl.nil_ ha120))))))))), hx111, hf83, (by omega), (by omega), (by exact all_snoc (p := fun y => y.1 ≠ x17.1) hK hx88 (by assumption))⟩
                    · show ((list.take i).length - ((k + 1)) : Nat) < (list.take i).length - k; omega
                ·
                  rw [decide_eq_false c87] at ha86
                  refine cond_f ha86 rfl ?_
                  refine wp_exit ?_
                  refine then_e ?_
                  refine then_e ?_
                  refine block_hit ?_
                  refine block_n ?_
                  refine then_n ?_
                  refine wp_region_lit ?_
                  refine wl_val ha86 rfl rfl rfl ((op_add ha86 rfl rfl rfl).int (IntWalk.i64_in _ (by omega))) ?_
                  intro a121 ha121; clear ha86 a86
                  refine wl_val ha121 rfl rfl rfl (op_move ha121 rfl rfl) ?_
                  intro a122 ha122; clear ha121 a121
                  refine wpList_nil ?_
                  refine round_end (x := i) ((i + 1)) ?_ ?_
                  ·
                    refine ⟨(Sl.cons_ ha122 rfl rfl (Sl.cons_ ha122 rfl rfl (Sl.cons_ ha122 rfl rfl (Sl.cons_ ha122 rfl (int_eq (by omega)) (Sl.nil_ ha122))))), hx82, (by omega), (by omega), (by exact upB_step hA (prAt_ok hx17 (by first | (simp [prB, c5, c15, c51, c62, c72, c87]; done) | (simp_all [prB]; done)) (fdF_neg.2 fun y hy => by have h9 := all_mem hK (by omega) y hy; simp [pnB, h9]))), (by omega)⟩
                  · show (list.length - ((i + 1)) : Nat) < list.length - i; omega
            ·
              rw [c72] at ha71
              refine cond_t ha71 rfl ?_
              refine wp_seq ?_
              refine wp_region_lit ?_
              refine wl_val ha71 rfl rfl rfl (op_assign ha71 rfl rfl) ?_
              intro a123 ha123; clear ha71 a71
              refine wpList_nil ?_
              refine then_n ?_
              refine wp_ret ?_
              refine then_r ?_
              refine block_r ?_
              refine then_r ?_
              refine then_r ?_
              refine block_r ?_
              refine then_r ?_
              refine ret1 ha123 rfl rfl ?_
              clear ha123 a123
              exact ret_mk hx69 (congrArg Value.bool (by rw [prsB_no hx17 (prAt_no hx17 (by first | (left; assumption) | (right; exact fun q => absurd ((fd_here hx17 (by simp [pnB])).2 q) (by assumption)) | (left; first | (simp [prB, c5, c15, c51, c62, c72]; done) | (simp_all [prB]; done))))]))
          ·
            rw [c62] at ha61
            refine wl_skip ha61 rfl rfl rfl ?_
            intro a124 ha124; clear ha61 a61
            refine wl_skip ha124 rfl rfl rfl ?_
            intro a125 ha125; clear ha124 a124
            refine wl_skip ha125 rfl rfl rfl ?_
            intro a126 ha126; clear ha125 a125
            refine wl_skip ha126 rfl rfl rfl ?_
            intro a127 ha127; clear ha126 a126
            refine wl_val ha127 rfl rfl rfl (op_pick_t ha127 rfl rfl rfl) ?_
            intro a128 ha128; clear ha127 a127
            refine wpList_nil ?_
            refine then_n ?_
            refine cond_t ha128 rfl ?_
            refine wp_seq ?_
            refine wp_region_lit ?_
            refine wl_val ha128 rfl rfl rfl (op_assign ha128 rfl rfl) ?_
            intro a129 ha129; clear ha128 a128
            refine wpList_nil ?_
            refine then_n ?_
            refine wp_ret ?_
            refine then_r ?_
            refine block_r ?_
            refine then_r ?_
            refine then_r ?_
            refine block_r ?_
            refine then_r ?_
            refine ret1 ha129 rfl rfl ?_
            clear ha129 a129
            exact ret_mk hx58 (congrArg Value.bool (by rw [prsB_no hx17 (prAt_no hx17 (by first | (left; assumption) | (right; exact fun q => absurd ((fd_here hx17 (by simp [pnB])).2 q) (by assumption)) | (left; first | (simp [prB, c5, c15, c51, c62]; done) | (simp_all [prB]; done))))]))
        ·
          rw [c51] at ha50
          refine wl_skip ha50 rfl rfl rfl ?_
          intro a130 ha130; clear ha50 a50
          refine wl_skip ha130 rfl rfl rfl ?_
          intro a131 ha131; clear ha130 a130
          refine wl_skip ha131 rfl rfl rfl ?_
          intro a132 ha132; clear ha131 a131
          refine wl_skip ha132 rfl rfl rfl ?_
          intro a133 ha133; clear ha132 a132
          refine wl_val ha133 rfl rfl rfl (op_pick_t ha133 rfl rfl rfl) ?_
          intro a134 ha134; clear ha133 a133
          refine wl_val ha134 rfl rfl rfl (op_move ha134 rfl rfl) ?_
          intro a135 ha135; clear ha134 a134
          refine wl_skip ha135 rfl rfl rfl ?_
          intro a136 ha136; clear ha135 a135
          refine wl_skip ha136 rfl rfl rfl ?_
          intro a137 ha137; clear ha136 a136
          refine wl_skip ha137 rfl rfl rfl ?_
          intro a138 ha138; clear ha137 a137
          refine wl_skip ha138 rfl rfl rfl ?_
          intro a139 ha139; clear ha138 a138
          refine wl_val ha139 rfl rfl rfl (op_pick_t ha139 rfl rfl rfl) ?_
          intro a140 ha140; clear ha139 a139
          refine wpList_nil ?_
          refine then_n ?_
          refine cond_t ha140 rfl ?_
          refine wp_seq ?_
          refine wp_region_lit ?_
          refine wl_val ha140 rfl rfl rfl (op_assign ha140 rfl rfl) ?_
          intro a141 ha141; clear ha140 a140
          refine wpList_nil ?_
          refine then_n ?_
          refine wp_ret ?_
          refine then_r ?_
          refine block_r ?_
          refine then_r ?_
          refine then_r ?_
          refine block_r ?_
          refine then_r ?_
          refine ret1 ha141 rfl rfl ?_
          clear ha141 a141
          exact ret_mk hx48 (congrArg Value.bool (by rw [prsB_no hx17 (prAt_no hx17 (by first | (left; assumption) | (right; exact fun q => absurd ((fd_here hx17 (by simp [pnB])).2 q) (by assumption)) | (left; first | (simp [prB, c5, c15, c51]; done) | (simp_all [prB]; done))))]))
      ·
        rw [decide_eq_false c15] at ha14
        refine cond_f ha14 rfl ?_
        refine wp_exit ?_
        refine then_e ?_
        refine then_e ?_
        refine block_hit ?_
        refine then_n ?_
        refine wp_seq ?_
        refine wp_region_lit ?_
        refine wl_val ha14 rfl rfl rfl (op_assign ha14 rfl rfl) ?_
        intro a142 ha142; clear ha14 a14
        refine wpList_nil ?_
        refine then_n ?_
        refine wp_ret ?_
        refine ret1 ha142 rfl rfl ?_
        clear ha142 a142
        exact ret_mk hx11 (congrArg Value.bool (by have e : i = list.length := (by omega); rw [e] at hA; rw [prsB_up hA]; first | (symm; rw [decide_eq_true_eq]; omega) | (rw [Bool.eq_iff_iff]; simp; done) | (rw [Bool.eq_iff_iff]; simp; omega)))

theorem c_impl_IsDesk (w0 : World) (v_d0 : Value) (v_d1 : Value) (v_d2 : Value) (d : List (Str × Int × Int × Int × Int) × List (Str × Int × Int) × List (Int × Int × Str × Int)) {S_d0 : Nat → Prop} {S_d1 : Nat → Prop} {S_d2 : Nat → Prop} (h_d0 : Rds shBin S_d0 w0 v_d0 d.1) (h_d1 : Rds shProm S_d1 w0 v_d1 d.2.1) (h_d2 : Rds shEnt S_d2 w0 v_d2 d.2.2) (g0 : d.1.length ≤ 1048576) (g1 : d.2.1.length ≤ 1048576) (g2 : d.2.2.length ≤ 1048576) :
    Calls Try.prog 10 #[.agg #[v_d0, v_d1, v_d2]] w0 (Ret w0 (fun v _ => v = .bool (deskB d))) := by
  refine enter (N := 16) Try.func10 rfl rfl rfl ?_
  intro a0 ha0
  have hx0 := Ext.rfl' w0
  have hl_d0 := h_d0.length_le
  have hl_d1 := h_d1.length_le
  have hl_d2 := h_d2.length_le
  refine wp_seq ?_
  refine wp_region_lit ?_
  refine wl_eff ha0 rfl rfl rfl (op_box' ha0 rfl rfl rfl) ?_
  rintro _ w2 ⟨rfl, he3, hb4, hz5⟩ a6 ha6; clear ha0 a0
  have hx7 := hx0.trans' he3
  have hzhx7 := he3.size
  refine wl_val ha6 rfl rfl rfl (op_assign ha6 rfl rfl) ?_
  intro a8 ha8; clear ha6 a6
  refine wpList_nil ?_
  refine then_n ?_
  refine wp_seq ?_
  refine wp_region_lit ?_
  refine wl_val ha8 rfl rfl rfl (op_fieldAddr (sz := 0) ha8 rfl Try.underlying34 rfl rfl ti30 rfl) ?_
  intro a9 ha9; clear ha8 a8
  refine wl_val ha9 rfl rfl rfl (op_loadF (off := 0) ha9 rfl Try.underlying30 rfl rfl hb4.cells rfl) ?_
  intro a10 ha10; clear ha9 a9
  refine wl_callR ha10 rfl rfl rfl (op_call ha10 rfl cb23 rfl) (c_impl_IsStock _ v_d0 d.1 (h_d0.ext pos_shBin hx7)) ?_
  rintro v11 w12 he13 rfl a14 ha14; clear ha10 a10
  have hx15 := hx7.trans' he13
  have hzhx15 := he13.size
  replace hb4 := hb4.ext he13
  refine wl_val ha14 rfl rfl rfl (op_move ha14 rfl rfl) ?_
  intro a16 ha16; clear ha14 a14
  rcases Bool.eq_false_or_eq_true (stB d.1) with c17 | c17
  ·
    rw [c17] at ha16
    refine wl_val ha16 rfl rfl rfl (op_fieldAddr (sz := 0) ha16 rfl Try.underlying34 rfl rfl ti31 rfl) ?_
    intro a18 ha18; clear ha16 a16
    refine wl_val ha18 rfl rfl rfl (op_loadF (off := 1) ha18 rfl Try.underlying31 rfl rfl hb4.cells rfl) ?_
    intro a19 ha19; clear ha18 a18
    refine wl_callR ha19 rfl rfl rfl (op_call ha19 rfl cb24 rfl) (c_impl_ArePromises _ v_d1 d.2.1 (h_d1.ext pos_shProm hx15)) ?_
    rintro v20 w21 he22 rfl a23 ha23; clear ha19 a19
    have hx24 := hx15.trans' he22
    have hzhx24 := he22.size
    replace hb4 := hb4.ext he22
    refine wl_val ha23 rfl rfl rfl (op_pick_t ha23 rfl rfl rfl) ?_
    intro a25 ha25; clear ha23 a23
    refine wl_val ha25 rfl rfl rfl (op_move ha25 rfl rfl) ?_
    intro a26 ha26; clear ha25 a25
    rcases Bool.eq_false_or_eq_true (prsB d.2.1) with c27 | c27
    ·
      rw [c27] at ha26
      refine wl_val ha26 rfl rfl rfl (op_fieldAddr (sz := 0) ha26 rfl Try.underlying34 rfl rfl ti32 rfl) ?_
      intro a28 ha28; clear ha26 a26
      refine wl_val ha28 rfl rfl rfl (op_loadF (off := 2) ha28 rfl Try.underlying32 rfl rfl hb4.cells rfl) ?_
      intro a29 ha29; clear ha28 a28
      refine wl_callR ha29 rfl rfl rfl (op_call ha29 rfl cb25 rfl) (c_impl_IsDayBook _ v_d2 d.2.2 (h_d2.ext pos_shEnt hx24) (by first | assumption | omega | (simp; omega) | (simp [mkN_length]; omega))) ?_
      rintro v30 w31 he32 rfl a33 ha33; clear ha29 a29
      have hx34 := hx24.trans' he32
      have hzhx34 := he32.size
      replace hb4 := hb4.ext he32
      refine wl_val ha33 rfl rfl rfl (op_pick_t ha33 rfl rfl rfl) ?_
      intro a35 ha35; clear ha33 a33
      refine wl_val ha35 rfl rfl rfl (op_assign ha35 rfl rfl) ?_
      intro a36 ha36; clear ha35 a35
      refine wpList_nil ?_
      refine then_n ?_
      refine wp_ret ?_
      refine ret1 ha36 rfl rfl ?_
      clear ha36 a36
      exact ret_mk hx34 (congrArg Value.bool (by first | (simp [deskB, c17, c27]; done) | (simp_all [deskB]; done)))
    ·
      rw [c27] at ha26
      refine wl_skip ha26 rfl rfl rfl ?_
      intro a37 ha37; clear ha26 a26
      refine wl_skip ha37 rfl rfl rfl ?_
      intro a38 ha38; clear ha37 a37
      refine wl_skip ha38 rfl rfl rfl ?_
      intro a39 ha39; clear ha38 a38
      refine wl_val ha39 rfl rfl rfl (op_pick_f ha39 rfl rfl rfl) ?_
      intro a40 ha40; clear ha39 a39
      refine wl_val ha40 rfl rfl rfl (op_assign ha40 rfl rfl) ?_
      intro a41 ha41; clear ha40 a40
      refine wpList_nil ?_
      refine then_n ?_
      refine wp_ret ?_
      refine ret1 ha41 rfl rfl ?_
      clear ha41 a41
      exact ret_mk hx24 (congrArg Value.bool (by first | (simp [deskB, c17, c27]; done) | (simp_all [deskB]; done)))
  ·
    rw [c17] at ha16
    refine wl_skip ha16 rfl rfl rfl ?_
    intro a42 ha42; clear ha16 a16
    refine wl_skip ha42 rfl rfl rfl ?_
    intro a43 ha43; clear ha42 a42
    refine wl_skip ha43 rfl rfl rfl ?_
    intro a44 ha44; clear ha43 a43
    refine wl_val ha44 rfl rfl rfl (op_pick_f ha44 rfl rfl rfl) ?_
    intro a45 ha45; clear ha44 a44
    refine wl_val ha45 rfl rfl rfl (op_move ha45 rfl rfl) ?_
    intro a46 ha46; clear ha45 a45
    refine wl_skip ha46 rfl rfl rfl ?_
    intro a47 ha47; clear ha46 a46
    refine wl_skip ha47 rfl rfl rfl ?_
    intro a48 ha48; clear ha47 a47
    refine wl_skip ha48 rfl rfl rfl ?_
    intro a49 ha49; clear ha48 a48
    refine wl_val ha49 rfl rfl rfl (op_pick_f ha49 rfl rfl rfl) ?_
    intro a50 ha50; clear ha49 a49
    refine wl_val ha50 rfl rfl rfl (op_assign ha50 rfl rfl) ?_
    intro a51 ha51; clear ha50 a50
    refine wpList_nil ?_
    refine then_n ?_
    refine wp_ret ?_
    refine ret1 ha51 rfl rfl ?_
    clear ha51 a51
    exact ret_mk hx15 (congrArg Value.bool (by first | (simp [deskB, c17]; done) | (simp_all [deskB]; done)))

theorem c_spec_IsDesk (w0 : World) (v_d0 : Value) (v_d1 : Value) (v_d2 : Value) (d : List (Str × Int × Int × Int × Int) × List (Str × Int × Int) × List (Int × Int × Str × Int)) {S_d0 : Nat → Prop} {S_d1 : Nat → Prop} {S_d2 : Nat → Prop} (h_d0 : Rds shBin S_d0 w0 v_d0 d.1) (h_d1 : Rds shProm S_d1 w0 v_d1 d.2.1) (h_d2 : Rds shEnt S_d2 w0 v_d2 d.2.2) (g0 : d.1.length ≤ 1048576) (g1 : d.2.1.length ≤ 1048576) (g2 : d.2.2.length ≤ 1048576) :
    Calls Try.prog 8 #[.agg #[v_d0, v_d1, v_d2]] w0 (Ret w0 (fun v _ => v = .bool (deskB d))) := by
  refine enter (N := 16) Try.func8 rfl rfl rfl ?_
  intro a0 ha0
  have hx0 := Ext.rfl' w0
  have hl_d0 := h_d0.length_le
  have hl_d1 := h_d1.length_le
  have hl_d2 := h_d2.length_le
  refine wp_seq ?_
  refine wp_region_lit ?_
  refine wl_eff ha0 rfl rfl rfl (op_box' ha0 rfl rfl rfl) ?_
  rintro _ w2 ⟨rfl, he3, hb4, hz5⟩ a6 ha6; clear ha0 a0
  have hx7 := hx0.trans' he3
  have hzhx7 := he3.size
  refine wl_val ha6 rfl rfl rfl (op_assign ha6 rfl rfl) ?_
  intro a8 ha8; clear ha6 a6
  refine wpList_nil ?_
  refine then_n ?_
  refine wp_seq ?_
  refine wp_region_lit ?_
  refine wl_val ha8 rfl rfl rfl (op_fieldAddr (sz := 0) ha8 rfl Try.underlying34 rfl rfl ti30 rfl) ?_
  intro a9 ha9; clear ha8 a8
  refine wl_val ha9 rfl rfl rfl (op_loadF (off := 0) ha9 rfl Try.underlying30 rfl rfl hb4.cells rfl) ?_
  intro a10 ha10; clear ha9 a9
  refine wl_callR ha10 rfl rfl rfl (op_call ha10 rfl cb17 rfl) (c_spec_IsStock _ v_d0 d.1 (h_d0.ext pos_shBin hx7)) ?_
  rintro v11 w12 he13 rfl a14 ha14; clear ha10 a10
  have hx15 := hx7.trans' he13
  have hzhx15 := he13.size
  replace hb4 := hb4.ext he13
  refine wl_val ha14 rfl rfl rfl (op_move ha14 rfl rfl) ?_
  intro a16 ha16; clear ha14 a14
  rcases Bool.eq_false_or_eq_true (stB d.1) with c17 | c17
  ·
    rw [c17] at ha16
    refine wl_val ha16 rfl rfl rfl (op_fieldAddr (sz := 0) ha16 rfl Try.underlying34 rfl rfl ti31 rfl) ?_
    intro a18 ha18; clear ha16 a16
    refine wl_val ha18 rfl rfl rfl (op_loadF (off := 1) ha18 rfl Try.underlying31 rfl rfl hb4.cells rfl) ?_
    intro a19 ha19; clear ha18 a18
    refine wl_callR ha19 rfl rfl rfl (op_call ha19 rfl cb18 rfl) (c_spec_ArePromises _ v_d1 d.2.1 (h_d1.ext pos_shProm hx15)) ?_
    rintro v20 w21 he22 rfl a23 ha23; clear ha19 a19
    have hx24 := hx15.trans' he22
    have hzhx24 := he22.size
    replace hb4 := hb4.ext he22
    refine wl_val ha23 rfl rfl rfl (op_pick_t ha23 rfl rfl rfl) ?_
    intro a25 ha25; clear ha23 a23
    refine wl_val ha25 rfl rfl rfl (op_move ha25 rfl rfl) ?_
    intro a26 ha26; clear ha25 a25
    rcases Bool.eq_false_or_eq_true (prsB d.2.1) with c27 | c27
    ·
      rw [c27] at ha26
      refine wl_val ha26 rfl rfl rfl (op_fieldAddr (sz := 0) ha26 rfl Try.underlying34 rfl rfl ti32 rfl) ?_
      intro a28 ha28; clear ha26 a26
      refine wl_val ha28 rfl rfl rfl (op_loadF (off := 2) ha28 rfl Try.underlying32 rfl rfl hb4.cells rfl) ?_
      intro a29 ha29; clear ha28 a28
      refine wl_callR ha29 rfl rfl rfl (op_call ha29 rfl cb19 rfl) (c_spec_IsDayBook _ v_d2 d.2.2 (h_d2.ext pos_shEnt hx24) (by first | assumption | omega | (simp; omega) | (simp [mkN_length]; omega))) ?_
      rintro v30 w31 he32 rfl a33 ha33; clear ha29 a29
      have hx34 := hx24.trans' he32
      have hzhx34 := he32.size
      replace hb4 := hb4.ext he32
      refine wl_val ha33 rfl rfl rfl (op_pick_t ha33 rfl rfl rfl) ?_
      intro a35 ha35; clear ha33 a33
      refine wl_val ha35 rfl rfl rfl (op_assign ha35 rfl rfl) ?_
      intro a36 ha36; clear ha35 a35
      refine wpList_nil ?_
      refine then_n ?_
      refine wp_ret ?_
      refine ret1 ha36 rfl rfl ?_
      clear ha36 a36
      exact ret_mk hx34 (congrArg Value.bool (by first | (simp [deskB, c17, c27]; done) | (simp_all [deskB]; done)))
    ·
      rw [c27] at ha26
      refine wl_skip ha26 rfl rfl rfl ?_
      intro a37 ha37; clear ha26 a26
      refine wl_skip ha37 rfl rfl rfl ?_
      intro a38 ha38; clear ha37 a37
      refine wl_skip ha38 rfl rfl rfl ?_
      intro a39 ha39; clear ha38 a38
      refine wl_val ha39 rfl rfl rfl (op_pick_f ha39 rfl rfl rfl) ?_
      intro a40 ha40; clear ha39 a39
      refine wl_val ha40 rfl rfl rfl (op_assign ha40 rfl rfl) ?_
      intro a41 ha41; clear ha40 a40
      refine wpList_nil ?_
      refine then_n ?_
      refine wp_ret ?_
      refine ret1 ha41 rfl rfl ?_
      clear ha41 a41
      exact ret_mk hx24 (congrArg Value.bool (by first | (simp [deskB, c17, c27]; done) | (simp_all [deskB]; done)))
  ·
    rw [c17] at ha16
    refine wl_skip ha16 rfl rfl rfl ?_
    intro a42 ha42; clear ha16 a16
    refine wl_skip ha42 rfl rfl rfl ?_
    intro a43 ha43; clear ha42 a42
    refine wl_skip ha43 rfl rfl rfl ?_
    intro a44 ha44; clear ha43 a43
    refine wl_val ha44 rfl rfl rfl (op_pick_f ha44 rfl rfl rfl) ?_
    intro a45 ha45; clear ha44 a44
    refine wl_val ha45 rfl rfl rfl (op_move ha45 rfl rfl) ?_
    intro a46 ha46; clear ha45 a45
    refine wl_skip ha46 rfl rfl rfl ?_
    intro a47 ha47; clear ha46 a46
    refine wl_skip ha47 rfl rfl rfl ?_
    intro a48 ha48; clear ha47 a47
    refine wl_skip ha48 rfl rfl rfl ?_
    intro a49 ha49; clear ha48 a48
    refine wl_val ha49 rfl rfl rfl (op_pick_f ha49 rfl rfl rfl) ?_
    intro a50 ha50; clear ha49 a49
    refine wl_val ha50 rfl rfl rfl (op_assign ha50 rfl rfl) ?_
    intro a51 ha51; clear ha50 a50
    refine wpList_nil ?_
    refine then_n ?_
    refine wp_ret ?_
    refine ret1 ha51 rfl rfl ?_
    clear ha51 a51
    exact ret_mk hx15 (congrArg Value.bool (by first | (simp [deskB, c17]; done) | (simp_all [deskB]; done)))


end Go.Proofs.Ythbehhhblchhhaa
