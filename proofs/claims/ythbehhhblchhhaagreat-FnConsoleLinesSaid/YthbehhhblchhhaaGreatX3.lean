/- Commands done by the reference. -/
import Derived.Test.YthbehhhblchhhaaGreatX2
namespace Go.Proofs.YthbehhhblchhhaaGreat
open Go Go.RowKit
set_option maxHeartbeats 16000000

def dk0 : Dsk := ([], [], [])
theorem dk0_ok : deskB dk0 = true := by decide
def sdD (d : Dsk) (ws : List Str) (ns : List Int) : Dsk := if isS (gw ws 0) = true then (exM d ws ns).1 else d
def sdC (d : Dsk) (ws : List Str) (ns : List Int) : Int := if isS (gw ws 0) = true then (exM d ws ns).2.2 else 0
def kdD (d : Dsk) (ws : List Str) (ns : List Int) : Dsk := if isK (gw ws 0) = true then (exM d ws ns).1 else d
def kdC (d : Dsk) (ws : List Str) (ns : List Int) : Int := if isK (gw ws 0) = true then (exM d ws ns).2.2 else 0
theorem stR_c {d : Dsk} {xs : List Bin} {c : Int} : (stR d xs c).2.2 = c := by
  unfold stR; split
  · exact (‹c = 0›).symm
  · rfl
theorem prR_c {d : Dsk} {xs : List Prom} {c : Int} : (prR d xs c).2.2 = c := by
  unfold prR; split
  · exact (‹c = 0›).symm
  · rfl
theorem bkR_c {d : Dsk} {e : Ent} : (bkR d e).2.2 = addC d.2.2 e := by
  unfold bkR; split
  · exact (‹addC d.2.2 e = 0›).symm
  · rfl
theorem isS_no {w : Str} (h : isS w = false) : ¬ w = [98, 105, 110] ∧ ¬ w = [102, 105, 108, 108] ∧ ¬ w = [114, 101, 115, 101, 114, 118, 101] ∧ ¬ w = [114, 101, 108, 101, 97, 115, 101] ∧ ¬ w = [117, 115, 101] := by
  unfold isS at h; simpa only [Bool.or_eq_false_iff, decide_eq_false_iff_not] using h
theorem isK_no {w : Str} (h : isK w = false) : ¬ w = [112, 114, 111, 109, 105, 115, 101] ∧ ¬ w = [115, 97, 108, 101] ∧ ¬ w = [112, 97, 121] ∧ ¬ w = [98, 117, 121] ∧ ¬ w = [99, 108, 111, 115, 101] := by
  unfold isK at h; simpa only [Bool.or_eq_false_iff, decide_eq_false_iff_not] using h
/-- A line done. -/
def errS (c : Int) : Str := [101, 114, 114, 111, 114, 32] ++ decS c
theorem es_len {c : Int} (h : 0 ≤ c ∧ c ≤ 9) : (([101, 114, 114, 111, 114, 32] : Str) ++ decS c).length ≤ 1048576 := by
  have := decS_len (n := c) (by omega)
  rw [List.length_append]; simp only [List.length_cons, List.length_nil]; omega
theorem es_l2 {c : Int} (h : 0 ≤ c ∧ c ≤ 9) : ([101, 114, 114, 111, 114, 32] : Str).length + (decS c).length ≤ 9223372036854775807 := by
  have := decS_len (n := c) (by omega)
  simp only [List.length_cons, List.length_nil]; omega
theorem es_l3 {c : Int} (h : 0 ≤ c ∧ c ≤ 9) : (([101, 114, 114, 111, 114, 32] : Str) ++ decS c).length ≤ 9223372036854775807 := Nat.le_trans (es_len h) (by decide)
theorem exM_l3 {d : Dsk} (h : deskB d = true) (ws : List Str) (ns : List Int) : (exM d ws ns).2.1.length ≤ 9223372036854775807 := Nat.le_trans (exM_len h ws ns) (by decide)
def rnC (d : Dsk) (line : Str) : Int := (exM d (pcW line) (pcN line)).2.2
def rnD (d : Dsk) (line : Str) : Dsk := if (pcO line).isSome = true then (if rnC d line = 0 then (exM d (pcW line) (pcN line)).1 else d) else d
def rnT (d : Dsk) (line : Str) : Str := if (pcO line).isSome = true then (if rnC d line = 0 then (exM d (pcW line) (pcN line)).2.1 else errS (rnC d line)) else errS 6
theorem rn_no {d : Dsk} {line : Str} (h : (pcO line).isSome = false) : rnD d line = d ∧ rnT d line = errS 6 := by unfold rnD rnT; rw [h]; exact ⟨rfl, rfl⟩
theorem rn_err {d : Dsk} {line : Str} (h : (pcO line).isSome = true) (hc : ¬ rnC d line = 0) : rnD d line = d ∧ rnT d line = errS (rnC d line) := by unfold rnD rnT; rw [if_pos h, if_pos h, if_neg hc, if_neg hc]; exact ⟨rfl, rfl⟩
theorem rn_ok {d : Dsk} {line : Str} (h : (pcO line).isSome = true) (hc : rnC d line = 0) : rnD d line = (exM d (pcW line) (pcN line)).1 ∧ rnT d line = (exM d (pcW line) (pcN line)).2.1 := by unfold rnD rnT; rw [if_pos h, if_pos h, if_pos hc, if_pos hc]; exact ⟨rfl, rfl⟩
theorem rnD_ok {d : Dsk} (h : deskB d = true) (line : Str) : deskB (rnD d line) = true := by
  unfold rnD; split
  · split
    · exact exM_desk h _ _
    · exact h
  · exact h
theorem rnT_len {d : Dsk} (h : deskB d = true) (line : Str) : (rnT d line).length ≤ 1048576 := by
  unfold rnT; split
  · split
    · exact exM_len h _ _
    · exact es_len (exM_code _ _ _)
  · exact es_len (by omega)
def lnD : List Str → Dsk → Dsk
  | [], d => d
  | l :: ls, d => lnD ls (rnD d l)
def lnT : List Str → Dsk → List Str
  | [], _ => []
  | l :: ls, d => rnT d l :: lnT ls (rnD d l)
theorem lnD_ok : ∀ {ls : List Str} {d : Dsk}, deskB d = true → deskB (lnD ls d) = true
  | [], _, h => h
  | l :: ls, d, h => by rw [lnD]; exact lnD_ok (rnD_ok h l)
theorem lnT_len : ∀ {ls : List Str} {d : Dsk}, (lnT ls d).length = ls.length
  | [], _ => rfl
  | l :: ls, d => by rw [lnT, List.length_cons, lnT_len, List.length_cons]
theorem ln_step {ls : List Str} {i : Nat} {l : Str} {d d0 d2 : Dsk} {acc : List Str} {x : Str} (hl : ls[i]? = some l) (h1 : lnD (ls.drop i) d = lnD ls d0) (h2 : acc ++ lnT (ls.drop i) d = lnT ls d0) (hd : rnD d l = d2) (hx : rnT d l = x) :
    lnD (ls.drop (i + 1)) d2 = lnD ls d0 ∧ (acc ++ [x]) ++ lnT (ls.drop (i + 1)) d2 = lnT ls d0 := by
  rw [drop_cons hl, lnD, hd] at h1; rw [drop_cons hl, lnT, hd, hx] at h2
  exact ⟨h1, by rw [List.append_assoc]; exact h2⟩
/-- The lines of a text. -/
def liL (text : Str) : List Str := if (spl 10 [] text)[(spl 10 [] text).length - 1]? = some [] then (spl 10 [] text).take ((spl 10 [] text).length - 1) else spl 10 [] text
theorem liL_yes {text x : Str} (h : (spl 10 [] text)[(spl 10 [] text).length - 1]? = some x) (hx : x = []) : liL text = (spl 10 [] text).take ((spl 10 [] text).length - 1) := by unfold liL; rw [h, hx, if_pos rfl]
theorem liL_no {text x : Str} (h : (spl 10 [] text)[(spl 10 [] text).length - 1]? = some x) (hx : ¬ x = []) : liL text = spl 10 [] text := by unfold liL; rw [h, if_neg (fun e => hx (Option.some.inj e))]
theorem liL_len (text : Str) : (liL text).length ≤ text.length + 1 := by
  have := spl_len 10 text []
  unfold liL; split
  · rw [List.length_take]; omega
  · exact this
theorem liL_mem {text l : Str} (h : l ∈ liL text) : l.length ≤ text.length := by
  have h1 : l ∈ spl 10 [] text := by
    unfold liL at h; split at h
    · exact List.mem_of_mem_take h
    · exact h
  have := spl_mem h1; simpa using this
def fitB (text : Str) : Bool := decide (text.length ≤ 1500) && decide ((liL text).length ≤ 40)
def rcL (text : Str) : List Str := if fitB text then lnT (liL text) dk0 else []
def rcD (text : Str) : Dsk := if fitB text then lnD (liL text) dk0 else dk0
def rcC (text : Str) : Int := if fitB text then 0 else 3
theorem fit_yes {text : Str} (h1 : text.length ≤ 1500) (h2 : (liL text).length ≤ 40) : fitB text = true := by unfold fitB; rw [decide_eq_true h1, decide_eq_true h2]; rfl
theorem fit_no1 {text : Str} (h1 : ¬ text.length ≤ 1500) : fitB text = false := by unfold fitB; rw [decide_eq_false h1]; rfl
theorem fit_no2 {text : Str} (h1 : ¬ (liL text).length ≤ 40) : fitB text = false := by unfold fitB; rw [decide_eq_false h1, Bool.and_false]
theorem fit_c {text : Str} (h1 : text.length ≤ 1500) : fitB text = decide ((liL text).length ≤ 40) := by unfold fitB; rw [decide_eq_true h1, Bool.true_and]
theorem fit_bd {text : Str} (h : fitB text = true) : text.length ≤ 1500 ∧ (liL text).length ≤ 40 := by unfold fitB at h; simpa using h
theorem rcL_len (text : Str) : (rcL text).length ≤ 40 := by
  unfold rcL; split
  · rw [lnT_len]; exact (fit_bd ‹_›).2
  · simp
theorem rcD_ok (text : Str) : deskB (rcD text) = true := by
  unfold rcD; split
  · exact lnD_ok dk0_ok
  · exact dk0_ok
theorem gf {p : Prop} (h : p := by first | assumption | omega | (constructor <;> omega) | exact es_l3 (by omega) | exact cm_of (by assumption) (by assumption) | exact exM_l3 (by assumption) _ _ | (dsimp only; omega) | (simp; done) | (simp; omega)) : p := h
theorem ret_tct {fn : Func} {R : Ending → World → Prop} {N : Nat} {a : Act} {w : World} {l : List (Nat × Value)} {P : Program} {t0 : Tmp} {v0 : Value} {t1 : Tmp} {e1 : TypeId} {fs1 : Array Field} {p1 : Addr} {cs1 : List Value} {sz1 by1 : Nat} {z1 : Value} {t2 : Tmp} {v2 : Value}
    (ha : Sl N a l) (hr : fn.results = #[.tmp t0, .cell t1 e1, .tmp t2]) (x0 : lk l t0 = some v0) (x1 : lk l t1 = some (.pointer (some p1))) (T1 : P.underlying e1 = some (.struct fs1)) (E1 : TI P e1 sz1 by1 z1) (l1 : cs1.length = sz1) (c1 : CellsAt w p1 cs1) (x2 : lk l t2 = some v2)
    (h : R (.returned (.tuple #[v0, .agg cs1.toArray, v2])) w) : bodyPost P fn R .ret a w := by
  subst l1
  have e0' := ha.get t0 _ x0
  have e1' := ha.get t1 _ x1
  have e2' := ha.get t2 _ x2
  rw [Array.getD_eq_getD_getElem?] at e0' e1' e2'
  refine ⟨ha.defers, _, ?_, h⟩
  simp [results, hr, e0', e1', e2', asAddr, loadVar, isAgg, run_underlying T1, E1.sizeOf, run_loadCells_list w p1 cs1 (fun j v hv => c1 j v hv)]

theorem c_spec_l34Stock (w0 : World) (v_d0 : Value) (v_d1 : Value) (v_d2 : Value) (d : List (Str × Int × Int × Int × Int) × List (Str × Int × Int) × List (Int × Int × Str × Int)) {lo_d hi_d : Nat} (v_words : Value) (words : List Str) {S_words : Nat → Prop} (v_n : Value) (n : List Int) {S_n : Nat → Prop} (h_d0 : Own shBin 65 lo_d lo_d hi_d w0 v_d0 d.1) (h_d1 : Own shProm 67 lo_d lo_d hi_d w0 v_d1 d.2.1) (h_d2 : Own shEnt 69 lo_d lo_d hi_d w0 v_d2 d.2.2) (k_d : hi_d ≤ w0.heap.size) (l_d : lo_d ≤ w0.heap.size) (h_words : Rds shStr S_words w0 v_words words) (h_n : Rds shI64 S_n w0 v_n n) (g0 : deskB d = true) (g1 : cmOK words n) :
    Calls Tryz.prog 109 #[.agg #[v_d0, v_d1, v_d2], v_words, v_n] w0 (Ret w0 (fun v w1 => ∃ r0_0 r0_1 r0_2, v = .tuple #[.agg #[r0_0, r0_1, r0_2], .int .i64 (sdC d words n), .bool (isS (gw words 0))] ∧ Own shBin 65 lo_d lo_d w1.heap.size w1 r0_0 ((sdD d words n).1) ∧ Own shProm 67 lo_d lo_d w1.heap.size w1 r0_1 ((sdD d words n).2.1) ∧ Own shEnt 69 lo_d lo_d w1.heap.size w1 r0_2 ((sdD d words n).2.2))) := by
 refine enter (N := 93) Tryz.func109 rfl rfl rfl ?_
 intro A H
 have hx0 := Ext.rfl' w0
 have hl_d0 := (h_d0.rds pos_shBin).length_le
 have hl_d1 := (h_d1.rds pos_shProm).length_le
 have hl_d2 := (h_d2.rds pos_shEnt).length_le
 have hl_words := h_words.length_le
 have hl_n := h_n.length_le
 obtain ⟨hd1, hd2, hd3, hd4, hd5, hd6⟩ := desk_bd g0
 have hcp := cm_pos g1
 revert A; refine go ?_; intro A H
 refine we H (op_box' H rfl rfl rfl) ?_
 clear H A; rintro _ w2 ⟨rfl, he3, hb4, hz5⟩ A H
 obtain ⟨hx7, _⟩ := nx hx0 he3
 refine we H (op_alloc' rfl ti34 rfl) ?_
 clear H A; rintro _ w9 ⟨rfl, he10, hb11, hz12⟩ A H
 obtain ⟨hx14, _⟩ := nx hx7 he10
 replace hb4 := hb4.ext he10
 revert A; refine go ?_; intro A H
 refine fl 0 H U34 ti30 U30 hb4.cells ?_
 clear H A; intro A H
 refine wv H (op_assign H rfl rfl) ?_
 clear H A; intro A H
 refine wv H (op_assign H rfl rfl) ?_
 clear H A; intro A H
 refine wpList_nil ?_
 refine then_n ?_
 refine seq_mid (fun fr wl => ∃ (v : Value) (xs : List (Str × Int × Int × Int × Int)) (c : Int), Sl 93 fr [(3, .pointer (some (⟨w0.heap.size, 0, none⟩ : Addr))), (6, .pointer (some (⟨w2.heap.size, 0, none⟩ : Addr))), (9, v), (10, .int .i64 c)] ∧ Ext w0 wl ∧ Box wl w0.heap.size 34 [v_d0, v_d1, v_d2] ∧ Box wl w2.heap.size 34 [.slice none 0 0, .slice none 0 0, .slice none 0 0] ∧ Own shBin 65 lo_d lo_d wl.heap.size wl v xs ∧ w9.heap.size ≤ wl.heap.size ∧ (exM d words n = stR d xs c) ∧ (isS (gw words 0) = true)) ?_ ?_
 revert A; refine go ?_; intro A H
 obtain ⟨x27, hx27⟩ := get_ex (xs := words) (j := 0) (by omega)
 obtain ⟨p28, hi30, hc31, b34, hs33⟩ := at_shStr h_words hx27
 have hbx27 := cm_str g1 (List.mem_of_getElem? hx27)
 refine wv H (ix H U25 ti9 hi30) ?_
 clear H A; intro A H
 refine wv H (lh H U9 (hc31.ext hx14)) ?_
 clear H A; refine go ?_; intro A H
 by_cases c39 : x27 = ([98, 105, 110] : Str)
 rw [decide_eq_true c39] at H
 obtain ⟨hwlc39, hnlc39⟩ : words.length = 4 ∧ n.length = 2 := cm_len (l := [true, false, false]) g1 hx27 (by rw [c39]; decide)
 refine cond_t H rfl ?_
 refine dre Ext follows_mixed ?_
 intro w40 he41 hs43
 obtain ⟨hx42, _⟩ := nx hx14 he41
 replace hb4 := hb4.ext he41
 replace hb11 := hb11.ext he41
 revert A; refine dgo [0, 1] hs43 ?_; intro A H
 obtain ⟨x46, hx46⟩ := get_ex (xs := words) (j := 1) (by omega)
 obtain ⟨p47, hi49, hc50, b53, hs52⟩ := at_shStr h_words hx46
 have hbx46 := cm_str g1 (List.mem_of_getElem? hx46)
 refine dw 2 H rfl hs43 (ix H U25 ti9 hi49) ?_
 clear H A; intro A H
 refine dv 3 H rfl hs43 (fun w' hw' => lh H U9 (hc50.ext (hx42.trans' hw'))) ?_
 clear H A; intro A H
 refine dw 4 H rfl hs43 (op_move H rfl rfl) ?_
 clear H A; intro A H
 obtain ⟨x57, hx57⟩ := get_ex (xs := n) (j := 0) (by omega)
 obtain ⟨p58, hi60, hc61, b64, hs63⟩ := at_shI64 h_n hx57
 have hbx57 := cm_num g1 (List.mem_of_getElem? hx57)
 refine dw 5 H rfl hs43 (ix H U55 ti2 hi60) ?_
 clear H A; intro A H
 refine dv 6 H rfl hs43 (fun w' hw' => lh H U2 (hc61.ext (hx42.trans' hw'))) ?_
 clear H A; intro A H
 refine dw 7 H rfl hs43 (op_move H rfl rfl) ?_
 clear H A; intro A H
 obtain ⟨x68, hx68⟩ := get_ex (xs := n) (j := 1) (by omega)
 obtain ⟨p69, hi71, hc72, b75, hs74⟩ := at_shI64 h_n hx68
 have hbx68 := cm_num g1 (List.mem_of_getElem? hx68)
 refine dw 8 H rfl hs43 (ix H U55 ti2 hi71) ?_
 clear H A; intro A H
 refine dv 9 H rfl hs43 (fun w' hw' => lh H U2 (hc72.ext (hx42.trans' hw'))) ?_
 clear H A; intro A H
 refine dw 10 H rfl hs43 (op_build (vs := [(0, St x46), (3, .int .i64 x57), (4, .int .i64 x68)]) (cs := #[St x46, .int .i64 (0 : Int), .int .i64 (0 : Int), .int .i64 x57, .int .i64 x68]) H rfl U65 ti65 bp65 rfl rfl) ?_
 clear H A; intro A H
 refine dr_one (i := 11) (by kernel_rfl) ?_
 refine pc H cb127 rfl (c_spec_l34Bin _ v_d0 d.1 ((x46, (0 : Int), (0 : Int), x57, x68)) (((h_d0.ext hx42).rds pos_shBin).ext pos_shBin hs43) ge ge ge ge ge ge) ?_
 clear H A; rintro v79 w80 he81 ⟨v82, rfl, ho83⟩ A H
 have hs85 := hs43.trans' he81
 obtain ⟨hx86, _⟩ := nx hx42 he81
 refine ⟨hs85, ?_⟩
 replace hb4 := hb4.ext hs85
 replace hb11 := hb11.ext hs85
 refine drn hs85 ?_
 intro hs87
 revert A; refine dgo [12, 13, 14, 15, 16] hs87 ?_; intro A H
 refine dr_end (by kernel_rfl) ?_
 revert A; refine go ?_; intro A H
 refine ⟨v82, (adL d.1 ((x46, (0 : Int), (0 : Int), x57, x68))), (adC d.1 ((x46, (0 : Int), (0 : Int), x57, x68)) : Int), (sl H), hx86, hb4, hb11, (fi ho83), (by omega), (by exact exM_bin (d := d) (ns := n) hx27 c39 hx46 hx57 hx68), (by unfold isS; rw [gw_eq hx27, c39]; rfl)⟩
 rw [decide_eq_false c39] at H
 revert A; refine go ?_; intro A H
 by_cases c95 : x27 = ([102, 105, 108, 108] : Str)
 rw [decide_eq_true c95] at H
 obtain ⟨hwlc95, hnlc95⟩ : words.length = 3 ∧ n.length = 1 := cm_len (l := [true, false]) g1 hx27 (by rw [c95]; decide)
 refine cond_t H rfl ?_
 refine dre Ext follows_mixed ?_
 intro w96 he97 hs99
 obtain ⟨hx98, _⟩ := nx hx14 he97
 replace hb4 := hb4.ext he97
 replace hb11 := hb11.ext he97
 revert A; refine dgo [0, 1] hs99 ?_; intro A H
 obtain ⟨x102, hx102⟩ := get_ex (xs := words) (j := 1) (by omega)
 obtain ⟨p103, hi105, hc106, b109, hs108⟩ := at_shStr h_words hx102
 have hbx102 := cm_str g1 (List.mem_of_getElem? hx102)
 refine dw 2 H rfl hs99 (ix H U25 ti9 hi105) ?_
 clear H A; intro A H
 refine dv 3 H rfl hs99 (fun w' hw' => lh H U9 (hc106.ext (hx98.trans' hw'))) ?_
 clear H A; intro A H
 refine dw 4 H rfl hs99 (op_move H rfl rfl) ?_
 clear H A; intro A H
 obtain ⟨x113, hx113⟩ := get_ex (xs := n) (j := 0) (by omega)
 obtain ⟨p114, hi116, hc117, b120, hs119⟩ := at_shI64 h_n hx113
 have hbx113 := cm_num g1 (List.mem_of_getElem? hx113)
 refine dw 5 H rfl hs99 (ix H U55 ti2 hi116) ?_
 clear H A; intro A H
 refine dv 6 H rfl hs99 (fun w' hw' => lh H U2 (hc117.ext (hx98.trans' hw'))) ?_
 clear H A; intro A H
 refine dr_one (i := 7) (by kernel_rfl) ?_
 refine pc H cb128 rfl (c_spec_FillBin _ v_d0 d.1 x102 x113 (((h_d0.ext hx98).rds pos_shBin).ext pos_shBin hs99)) ?_
 clear H A; rintro v123 w124 he125 ⟨v126, rfl, ho127⟩ A H
 have hs129 := hs99.trans' he125
 obtain ⟨hx130, _⟩ := nx hx98 he125
 refine ⟨hs129, ?_⟩
 replace hb4 := hb4.ext hs129
 replace hb11 := hb11.ext hs129
 refine drn hs129 ?_
 intro hs131
 revert A; refine dgo [8, 9, 10, 11, 12] hs131 ?_; intro A H
 refine dr_end (by kernel_rfl) ?_
 revert A; refine go ?_; intro A H
 refine ⟨v126, (opL d.1 x102 (flC d.1 x102 x113) x113 0), (flC d.1 x102 x113 : Int), (sl H), hx130, hb4, hb11, (fi ho127), (by omega), (by exact exM_fill (d := d) (ns := n) hx27 c95 hx102 hx113), (by unfold isS; rw [gw_eq hx27, c95]; rfl)⟩
 rw [decide_eq_false c95] at H
 revert A; refine go ?_; intro A H
 by_cases c139 : x27 = ([114, 101, 115, 101, 114, 118, 101] : Str)
 rw [decide_eq_true c139] at H
 obtain ⟨hwlc139, hnlc139⟩ : words.length = 3 ∧ n.length = 1 := cm_len (l := [true, false]) g1 hx27 (by rw [c139]; decide)
 refine cond_t H rfl ?_
 refine dre Ext follows_mixed ?_
 intro w140 he141 hs143
 obtain ⟨hx142, _⟩ := nx hx14 he141
 replace hb4 := hb4.ext he141
 replace hb11 := hb11.ext he141
 revert A; refine dgo [0, 1] hs143 ?_; intro A H
 obtain ⟨x146, hx146⟩ := get_ex (xs := words) (j := 1) (by omega)
 obtain ⟨p147, hi149, hc150, b153, hs152⟩ := at_shStr h_words hx146
 have hbx146 := cm_str g1 (List.mem_of_getElem? hx146)
 refine dw 2 H rfl hs143 (ix H U25 ti9 hi149) ?_
 clear H A; intro A H
 refine dv 3 H rfl hs143 (fun w' hw' => lh H U9 (hc150.ext (hx142.trans' hw'))) ?_
 clear H A; intro A H
 refine dw 4 H rfl hs143 (op_move H rfl rfl) ?_
 clear H A; intro A H
 obtain ⟨x157, hx157⟩ := get_ex (xs := n) (j := 0) (by omega)
 obtain ⟨p158, hi160, hc161, b164, hs163⟩ := at_shI64 h_n hx157
 have hbx157 := cm_num g1 (List.mem_of_getElem? hx157)
 refine dw 5 H rfl hs143 (ix H U55 ti2 hi160) ?_
 clear H A; intro A H
 refine dv 6 H rfl hs143 (fun w' hw' => lh H U2 (hc161.ext (hx142.trans' hw'))) ?_
 clear H A; intro A H
 refine dr_one (i := 7) (by kernel_rfl) ?_
 refine pc H cb129 rfl (c_spec_ReservePieces _ v_d0 d.1 x146 x157 (((h_d0.ext hx142).rds pos_shBin).ext pos_shBin hs143)) ?_
 clear H A; rintro v167 w168 he169 ⟨v170, rfl, ho171⟩ A H
 have hs173 := hs143.trans' he169
 obtain ⟨hx174, _⟩ := nx hx142 he169
 refine ⟨hs173, ?_⟩
 replace hb4 := hb4.ext hs173
 replace hb11 := hb11.ext hs173
 refine drn hs173 ?_
 intro hs175
 revert A; refine dgo [8, 9, 10, 11, 12] hs175 ?_; intro A H
 refine dr_end (by kernel_rfl) ?_
 revert A; refine go ?_; intro A H
 refine ⟨v170, (opL d.1 x146 (rsC d.1 x146 x157) 0 x157), (rsC d.1 x146 x157 : Int), (sl H), hx174, hb4, hb11, (fi ho171), (by omega), (by exact exM_reserve (d := d) (ns := n) hx27 c139 hx146 hx157), (by unfold isS; rw [gw_eq hx27, c139]; rfl)⟩
 rw [decide_eq_false c139] at H
 revert A; refine go ?_; intro A H
 by_cases c183 : x27 = ([114, 101, 108, 101, 97, 115, 101] : Str)
 rw [decide_eq_true c183] at H
 obtain ⟨hwlc183, hnlc183⟩ : words.length = 3 ∧ n.length = 1 := cm_len (l := [true, false]) g1 hx27 (by rw [c183]; decide)
 refine cond_t H rfl ?_
 refine dre Ext follows_mixed ?_
 intro w184 he185 hs187
 obtain ⟨hx186, _⟩ := nx hx14 he185
 replace hb4 := hb4.ext he185
 replace hb11 := hb11.ext he185
 revert A; refine dgo [0, 1] hs187 ?_; intro A H
 obtain ⟨x190, hx190⟩ := get_ex (xs := words) (j := 1) (by omega)
 obtain ⟨p191, hi193, hc194, b197, hs196⟩ := at_shStr h_words hx190
 have hbx190 := cm_str g1 (List.mem_of_getElem? hx190)
 refine dw 2 H rfl hs187 (ix H U25 ti9 hi193) ?_
 clear H A; intro A H
 refine dv 3 H rfl hs187 (fun w' hw' => lh H U9 (hc194.ext (hx186.trans' hw'))) ?_
 clear H A; intro A H
 refine dw 4 H rfl hs187 (op_move H rfl rfl) ?_
 clear H A; intro A H
 obtain ⟨x201, hx201⟩ := get_ex (xs := n) (j := 0) (by omega)
 obtain ⟨p202, hi204, hc205, b208, hs207⟩ := at_shI64 h_n hx201
 have hbx201 := cm_num g1 (List.mem_of_getElem? hx201)
 refine dw 5 H rfl hs187 (ix H U55 ti2 hi204) ?_
 clear H A; intro A H
 refine dv 6 H rfl hs187 (fun w' hw' => lh H U2 (hc205.ext (hx186.trans' hw'))) ?_
 clear H A; intro A H
 refine dr_one (i := 7) (by kernel_rfl) ?_
 refine pc H cb130 rfl (c_spec_ReleasePieces _ v_d0 d.1 x190 x201 (((h_d0.ext hx186).rds pos_shBin).ext pos_shBin hs187)) ?_
 clear H A; rintro v211 w212 he213 ⟨v214, rfl, ho215⟩ A H
 have hs217 := hs187.trans' he213
 obtain ⟨hx218, _⟩ := nx hx186 he213
 refine ⟨hs217, ?_⟩
 replace hb4 := hb4.ext hs217
 replace hb11 := hb11.ext hs217
 refine drn hs217 ?_
 intro hs219
 revert A; refine dgo [8, 9, 10, 11, 12] hs219 ?_; intro A H
 refine dr_end (by kernel_rfl) ?_
 revert A; refine go ?_; intro A H
 refine ⟨v214, (opL d.1 x190 (rlC d.1 x190 x201) 0 (0 - x201)), (rlC d.1 x190 x201 : Int), (sl H), hx218, hb4, hb11, (fi ho215), (by omega), (by exact exM_release (d := d) (ns := n) hx27 c183 hx190 hx201), (by unfold isS; rw [gw_eq hx27, c183]; rfl)⟩
 rw [decide_eq_false c183] at H
 revert A; refine go ?_; intro A H
 by_cases c227 : x27 = ([117, 115, 101] : Str)
 rw [decide_eq_true c227] at H
 obtain ⟨hwlc227, hnlc227⟩ : words.length = 3 ∧ n.length = 1 := cm_len (l := [true, false]) g1 hx27 (by rw [c227]; decide)
 refine cond_t H rfl ?_
 refine dre Ext follows_mixed ?_
 intro w228 he229 hs231
 obtain ⟨hx230, _⟩ := nx hx14 he229
 replace hb4 := hb4.ext he229
 replace hb11 := hb11.ext he229
 revert A; refine dgo [0, 1] hs231 ?_; intro A H
 obtain ⟨x234, hx234⟩ := get_ex (xs := words) (j := 1) (by omega)
 obtain ⟨p235, hi237, hc238, b241, hs240⟩ := at_shStr h_words hx234
 have hbx234 := cm_str g1 (List.mem_of_getElem? hx234)
 refine dw 2 H rfl hs231 (ix H U25 ti9 hi237) ?_
 clear H A; intro A H
 refine dv 3 H rfl hs231 (fun w' hw' => lh H U9 (hc238.ext (hx230.trans' hw'))) ?_
 clear H A; intro A H
 refine dw 4 H rfl hs231 (op_move H rfl rfl) ?_
 clear H A; intro A H
 obtain ⟨x245, hx245⟩ := get_ex (xs := n) (j := 0) (by omega)
 obtain ⟨p246, hi248, hc249, b252, hs251⟩ := at_shI64 h_n hx245
 have hbx245 := cm_num g1 (List.mem_of_getElem? hx245)
 refine dw 5 H rfl hs231 (ix H U55 ti2 hi248) ?_
 clear H A; intro A H
 refine dv 6 H rfl hs231 (fun w' hw' => lh H U2 (hc249.ext (hx230.trans' hw'))) ?_
 clear H A; intro A H
 refine dr_one (i := 7) (by kernel_rfl) ?_
 refine pc H cb131 rfl (c_spec_UsePieces _ v_d0 d.1 x234 x245 (((h_d0.ext hx230).rds pos_shBin).ext pos_shBin hs231)) ?_
 clear H A; rintro v255 w256 he257 ⟨v258, rfl, ho259⟩ A H
 have hs261 := hs231.trans' he257
 obtain ⟨hx262, _⟩ := nx hx230 he257
 refine ⟨hs261, ?_⟩
 replace hb4 := hb4.ext hs261
 replace hb11 := hb11.ext hs261
 refine drn hs261 ?_
 intro hs263
 revert A; refine dgo [8, 9, 10, 11, 12] hs263 ?_; intro A H
 refine dr_end (by kernel_rfl) ?_
 revert A; refine go ?_; intro A H
 refine ⟨v258, (opL d.1 x234 (rlC d.1 x234 x245) (0 - x245) (0 - x245)), (rlC d.1 x234 x245 : Int), (sl H), hx262, hb4, hb11, (fi ho259), (by omega), (by exact exM_use (d := d) (ns := n) hx27 c227 hx234 hx245), (by unfold isS; rw [gw_eq hx27, c227]; rfl)⟩
 rw [decide_eq_false c227] at H
 revert A; refine go ?_; intro A H
 refine wv H (ls H U34 ti34 hb4.cells) ?_
 clear H A; intro A H
 refine wv H (op_move H rfl rfl) ?_
 clear H A; intro A H
 refine ws H (op_storeAll' H rfl ti34 rfl rfl hb11 rfl rfl (by intro u hu; have hu : u ∈ ([v_d0, v_d1, v_d2] : List Value) := hu; simp only [List.mem_cons, List.mem_nil_iff, or_false] at hu; rcases hu with rfl | rfl | rfl <;> first | exact (h_d0.ext hx14).one | exact (h_d1.ext hx14).one | exact (h_d2.ext hx14).one) rfl) ?_
 rintro w271 ⟨hb273, hst272, hz274⟩
 obtain ⟨hx275, _⟩ := nb hx14 hst272
 replace hb4 := bb hb4 hst272
 clear hb11
 revert A; refine go ?_; intro A H
 refine ret_ctt H rfl rfl U34 ti34 rfl hb273.cells rfl rfl ?_
 clear H A
 have hN : isS (gw words 0) = false := by unfold isS; rw [gw_eq hx27]; simp only [Bool.or_eq_false_iff, decide_eq_false_iff_not]; exact ⟨c39, c95, c139, c183, c227⟩
 exact ret_mk hx275 ⟨v_d0, v_d1, v_d2, (tup3_eq (by rfl) (int_eq (by unfold sdC; rw [hN]; rfl)) (congrArg Value.bool (by rw [hN]))), ((fi (h_d0.ext hx275)).cast (by unfold sdD; rw [hN]; rfl)), ((fi (h_d1.ext hx275)).cast (by unfold sdD; rw [hN]; rfl)), ((fi (h_d2.ext hx275)).cast (by unfold sdD; rw [hN]; rfl))⟩
 clear H A
 rintro A w21 ⟨v, xs, c, H, hx22, hf23, hf24, hf25, hzl279, hE, hS⟩
 have hzhx22 := hx22.size
 revert A; refine go ?_; intro A H
 by_cases c282 : c = (0 : Int)
 rw [decide_eq_true c282] at H
 revert A; refine go ?_; intro A H
 refine wv H (fa H U34 ti30) ?_
 clear H A; intro A H
 refine ws H (op_store' (off := 0) H rfl ti30 rfl rfl hf23 hf25.cells1 rfl (o1 hf25.one o0) (Nat.le_of_ble_eq_true rfl)) ?_
 rintro w285 ⟨hb287, hst286, hz288⟩
 obtain ⟨hx289, _⟩ := nb hx22 hst286
 replace hf24 := bb hf24 hst286
 replace hf25 := ob hf25 flat_shBin hf23 hst286
 clear hf23
 revert A; refine go ?_; intro A H
 refine wv H (ls H U34 ti34 hb287.cells) ?_
 clear H A; intro A H
 refine wv H (op_move H rfl rfl) ?_
 clear H A; intro A H
 refine ws H (op_storeAll' H rfl ti34 rfl rfl hf24 rfl rfl (by intro u hu; have hu : u ∈ ([v, v_d1, v_d2] : List Value) := hu; simp only [List.mem_cons, List.mem_nil_iff, or_false] at hu; rcases hu with rfl | rfl | rfl <;> first | exact hf25.one | exact (h_d1.ext hx289).one | exact (h_d2.ext hx289).one) rfl) ?_
 rintro w292 ⟨hb294, hst293, hz295⟩
 obtain ⟨hx296, _⟩ := nb hx289 hst293
 replace hf25 := ob hf25 flat_shBin hf24 hst293
 replace hb287 := bb hb287 hst293
 clear hf24
 revert A; refine go ?_; intro A H
 refine ret_ctt H rfl rfl U34 ti34 rfl hb294.cells rfl rfl ?_
 clear H A
 exact ret_mk hx296 ⟨v, v_d1, v_d2, (tup3_eq (by rfl) (int_eq (by unfold sdC; rw [if_pos hS, hE, stR_c])) (congrArg Value.bool (by rw [hS]))), ((fi hf25).cast (by unfold sdD; rw [if_pos hS, hE, stR, if_pos c282])), ((fi (h_d1.ext hx296)).cast (by unfold sdD; rw [if_pos hS, hE, stR, if_pos c282])), ((fi (h_d2.ext hx296)).cast (by unfold sdD; rw [if_pos hS, hE, stR, if_pos c282]))⟩
 rw [decide_eq_false c282] at H
 clear hf25
 revert A; refine go ?_; intro A H
 refine wv H (ls H U34 ti34 hf23.cells) ?_
 clear H A; intro A H
 refine wv H (op_move H rfl rfl) ?_
 clear H A; intro A H
 refine ws H (op_storeAll' H rfl ti34 rfl rfl hf24 rfl rfl (by intro u hu; have hu : u ∈ ([v_d0, v_d1, v_d2] : List Value) := hu; simp only [List.mem_cons, List.mem_nil_iff, or_false] at hu; rcases hu with rfl | rfl | rfl <;> first | exact (h_d0.ext hx22).one | exact (h_d1.ext hx22).one | exact (h_d2.ext hx22).one) rfl) ?_
 rintro w301 ⟨hb303, hst302, hz304⟩
 obtain ⟨hx305, _⟩ := nb hx22 hst302
 replace hf23 := bb hf23 hst302
 clear hf24
 revert A; refine go ?_; intro A H
 refine ret_ctt H rfl rfl U34 ti34 rfl hb303.cells rfl rfl ?_
 clear H A
 exact ret_mk hx305 ⟨v_d0, v_d1, v_d2, (tup3_eq (by rfl) (int_eq (by unfold sdC; rw [if_pos hS, hE, stR_c])) (congrArg Value.bool (by rw [hS]))), ((fi (h_d0.ext hx305)).cast (by unfold sdD; rw [if_pos hS, hE, stR, if_neg c282])), ((fi (h_d1.ext hx305)).cast (by unfold sdD; rw [if_pos hS, hE, stR, if_neg c282])), ((fi (h_d2.ext hx305)).cast (by unfold sdD; rw [if_pos hS, hE, stR, if_neg c282]))⟩



theorem c_spec_l34Book (w0 : World) (v_d0 : Value) (v_d1 : Value) (v_d2 : Value) (d : List (Str × Int × Int × Int × Int) × List (Str × Int × Int) × List (Int × Int × Str × Int)) {lo_d hi_d : Nat} (v_words : Value) (words : List Str) {S_words : Nat → Prop} (v_n : Value) (n : List Int) {S_n : Nat → Prop} (h_d0 : Own shBin 65 lo_d lo_d hi_d w0 v_d0 d.1) (h_d1 : Own shProm 67 lo_d lo_d hi_d w0 v_d1 d.2.1) (h_d2 : Own shEnt 69 lo_d lo_d hi_d w0 v_d2 d.2.2) (k_d : hi_d ≤ w0.heap.size) (l_d : lo_d ≤ w0.heap.size) (h_words : Rds shStr S_words w0 v_words words) (h_n : Rds shI64 S_n w0 v_n n) (g0 : deskB d = true) (g1 : cmOK words n) :
    Calls Tryz.prog 110 #[.agg #[v_d0, v_d1, v_d2], v_words, v_n] w0 (Ret w0 (fun v w1 => ∃ r0_0 r0_1 r0_2, v = .tuple #[.agg #[r0_0, r0_1, r0_2], .int .i64 (kdC d words n), .bool (isK (gw words 0))] ∧ Own shBin 65 lo_d lo_d w1.heap.size w1 r0_0 ((kdD d words n).1) ∧ Own shProm 67 lo_d lo_d w1.heap.size w1 r0_1 ((kdD d words n).2.1) ∧ Own shEnt 69 lo_d lo_d w1.heap.size w1 r0_2 ((kdD d words n).2.2))) := by
 refine enter (N := 98) Tryz.func110 rfl rfl rfl ?_
 intro A H
 have hx0 := Ext.rfl' w0
 have hl_d0 := (h_d0.rds pos_shBin).length_le
 have hl_d1 := (h_d1.rds pos_shProm).length_le
 have hl_d2 := (h_d2.rds pos_shEnt).length_le
 have hl_words := h_words.length_le
 have hl_n := h_n.length_le
 obtain ⟨hd1, hd2, hd3, hd4, hd5, hd6⟩ := desk_bd g0
 have hcp := cm_pos g1
 revert A; refine go ?_; intro A H
 refine we H (op_box' H rfl rfl rfl) ?_
 clear H A; rintro _ w2 ⟨rfl, he3, hb4, hz5⟩ A H
 obtain ⟨hx7, _⟩ := nx hx0 he3
 refine we H (op_alloc' rfl ti34 rfl) ?_
 clear H A; rintro _ w9 ⟨rfl, he10, hb11, hz12⟩ A H
 obtain ⟨hx14, _⟩ := nx hx7 he10
 replace hb4 := hb4.ext he10
 revert A; refine go ?_; intro A H
 refine wv H (op_build (vs := []) (cs := #[.int .i64 (0 : Int), .int .i64 (0 : Int), St (([] : Str)), .int .i64 (0 : Int)]) H rfl U69 ti69 bp69 rfl rfl) ?_
 clear H A; intro A H
 refine we H (op_alloc' rfl ti69 rfl) ?_
 clear H A; rintro _ w19 ⟨rfl, he20, hb21, hz22⟩ A H
 obtain ⟨hx24, _⟩ := nx hx14 he20
 replace hb4 := hb4.ext he20
 replace hb11 := hb11.ext he20
 refine ws H (op_sa H ti69 hb21) ?_
 rintro w25 ⟨hb27, hst26, hz28⟩
 obtain ⟨hx29, _⟩ := nb hx24 hst26
 replace hb4 := bb hb4 hst26
 replace hb11 := bb hb11 hst26
 clear hb21
 refine wpList_nil ?_
 refine then_n ?_
 refine seq_mid (fun fr wl => ∃ (e0 : Int) (e1 : Int) (e2 : Str) (e3 : Int), Sl 98 fr [(3, .pointer (some (⟨w0.heap.size, 0, none⟩ : Addr))), (6, .pointer (some (⟨w2.heap.size, 0, none⟩ : Addr))), (9, .pointer (some (⟨w9.heap.size, 0, none⟩ : Addr)))] ∧ Ext w0 wl ∧ Box wl w0.heap.size 34 [v_d0, v_d1, v_d2] ∧ Box wl w2.heap.size 34 [.slice none 0 0, .slice none 0 0, .slice none 0 0] ∧ Box wl w9.heap.size 69 [.int .i64 e0, .int .i64 e1, St e2, .int .i64 e3] ∧ w25.heap.size ≤ wl.heap.size ∧ (exM d words n = bkR d (e0, e1, e2, e3)) ∧ (isK (gw words 0) = true) ∧ ((I64 e0 ∧ I64 e1) ∧ e2.length ≤ 9223372036854775807 ∧ I64 e3)) ?_ ?_
 revert A; refine go ?_; intro A H
 obtain ⟨x36, hx36⟩ := get_ex (xs := words) (j := 0) (by omega)
 obtain ⟨p37, hi39, hc40, b43, hs42⟩ := at_shStr h_words hx36
 have hbx36 := cm_str g1 (List.mem_of_getElem? hx36)
 refine wv H (ix H U25 ti9 hi39) ?_
 clear H A; intro A H
 refine wv H (lh H U9 (hc40.ext hx29)) ?_
 clear H A; refine go ?_; intro A H
 by_cases c48 : x36 = ([112, 114, 111, 109, 105, 115, 101] : Str)
 rw [decide_eq_true c48] at H
 obtain ⟨hwlc48, hnlc48⟩ : words.length = 4 ∧ n.length = 2 := cm_len (l := [true, false, false]) g1 hx36 (by rw [c48]; decide)
 revert A; refine go ?_; intro A H
 clear hb27
 refine dre Ext follows_mixed ?_
 intro w49 he50 hs52
 obtain ⟨hx51, _⟩ := nx hx29 he50
 replace hb4 := hb4.ext he50
 replace hb11 := hb11.ext he50
 refine dw 0 H rfl hs52 (fa H U34 ti31) ?_
 clear H A; intro A H
 refine dv 1 H rfl hs52 (fun w' hw' => lf 1 H U31 (hb4.ext hw').cells) ?_
 clear H A; intro A H
 refine dw 2 H rfl hs52 (op_move H rfl rfl) ?_
 clear H A; intro A H
 obtain ⟨x56, hx56⟩ := get_ex (xs := words) (j := 1) (by omega)
 obtain ⟨p57, hi59, hc60, b63, hs62⟩ := at_shStr h_words hx56
 have hbx56 := cm_str g1 (List.mem_of_getElem? hx56)
 refine dw 3 H rfl hs52 (ix H U25 ti9 hi59) ?_
 clear H A; intro A H
 refine dv 4 H rfl hs52 (fun w' hw' => lh H U9 (hc60.ext (hx51.trans' hw'))) ?_
 clear H A; intro A H
 refine dw 5 H rfl hs52 (op_move H rfl rfl) ?_
 clear H A; intro A H
 obtain ⟨x67, hx67⟩ := get_ex (xs := n) (j := 0) (by omega)
 obtain ⟨p68, hi70, hc71, b74, hs73⟩ := at_shI64 h_n hx67
 have hbx67 := cm_num g1 (List.mem_of_getElem? hx67)
 refine dw 6 H rfl hs52 (ix H U55 ti2 hi70) ?_
 clear H A; intro A H
 refine dv 7 H rfl hs52 (fun w' hw' => lh H U2 (hc71.ext (hx51.trans' hw'))) ?_
 clear H A; intro A H
 refine dw 8 H rfl hs52 (op_move H rfl rfl) ?_
 clear H A; intro A H
 obtain ⟨x78, hx78⟩ := get_ex (xs := n) (j := 1) (by omega)
 obtain ⟨p79, hi81, hc82, b85, hs84⟩ := at_shI64 h_n hx78
 have hbx78 := cm_num g1 (List.mem_of_getElem? hx78)
 refine dw 9 H rfl hs52 (ix H U55 ti2 hi81) ?_
 clear H A; intro A H
 refine dv 10 H rfl hs52 (fun w' hw' => lh H U2 (hc82.ext (hx51.trans' hw'))) ?_
 clear H A; intro A H
 refine dw 11 H rfl hs52 (op_build (vs := [(0, St x56), (1, .int .i64 x67), (2, .int .i64 x78)]) (cs := #[St x56, .int .i64 x67, .int .i64 x78]) H rfl U67 ti67 bp67 rfl rfl) ?_
 clear H A; intro A H
 refine dr_one (i := 12) (by kernel_rfl) ?_
 refine pc H cb132 rfl (c_spec_MakePromise _ v_d1 d.2.1 ((x56, x67, x78)) (((h_d1.ext hx51).rds pos_shProm).ext pos_shProm hs52) ge ge ge) ?_
 clear H A; rintro v89 w90 he91 ⟨v92, rfl, ho93⟩ A H
 have hs95 := hs52.trans' he91
 obtain ⟨hx96, _⟩ := nx hx51 he91
 refine ⟨hs95, ?_⟩
 replace hb4 := hb4.ext hs95
 replace hb11 := hb11.ext hs95
 refine drn hs95 ?_
 intro hs97
 revert A; refine dgo [13, 14, 15, 16, 17] hs97 ?_; intro A H
 refine dr_end (by kernel_rfl) ?_
 revert A; refine go ?_; intro A H
 by_cases c105 : (mkPC d.2.1 ((x56, x67, x78)) : Int) = (0 : Int)
 rw [decide_eq_true c105] at H
 revert A; refine go ?_; intro A H
 refine wv H (fa H U34 ti31) ?_
 clear H A; intro A H
 refine ws H (op_store' (off := 1) H rfl ti31 rfl rfl hb4 ho93.cells1 rfl (o1 ho93.one o0) (Nat.le_of_ble_eq_true rfl)) ?_
 rintro w108 ⟨hb110, hst109, hz111⟩
 obtain ⟨hx112, _⟩ := nb hx96 hst109
 replace hb11 := bb hb11 hst109
 replace ho93 := ho93.stp hst109 (by intro q hq; cases hq; omega)
 clear hb4
 revert A; refine go ?_; intro A H
 refine wv H (ls H U34 ti34 hb110.cells) ?_
 clear H A; intro A H
 refine wv H (op_move H rfl rfl) ?_
 clear H A; intro A H
 refine ws H (op_storeAll' H rfl ti34 rfl rfl hb11 rfl rfl (by intro u hu; have hu : u ∈ ([v_d0, v92, v_d2] : List Value) := hu; simp only [List.mem_cons, List.mem_nil_iff, or_false] at hu; rcases hu with rfl | rfl | rfl <;> first | exact (h_d0.ext hx112).one | exact ho93.one | exact (h_d2.ext hx112).one) rfl) ?_
 rintro w115 ⟨hb117, hst116, hz118⟩
 obtain ⟨hx119, _⟩ := nb hx112 hst116
 replace ho93 := ho93.stp hst116 (by intro q hq; cases hq; omega)
 replace hb110 := bb hb110 hst116
 clear hb11
 revert A; refine go ?_; intro A H
 refine ret_ctt H rfl rfl U34 ti34 rfl hb117.cells rfl rfl ?_
 clear H A
 have hS : isK (gw words 0) = true := by unfold isK; rw [gw_eq hx36, c48]; rfl
 have hE := exM_promise (d := d) (ns := n) hx36 c48 hx56 hx67 hx78
 exact ret_mk hx119 ⟨v_d0, v92, v_d2, (tup3_eq (by rfl) (int_eq (by unfold kdC; rw [if_pos hS, hE, prR_c])) (congrArg Value.bool (by rw [hS]))), ((fi (h_d0.ext hx119)).cast (by unfold kdD; rw [if_pos hS, hE, prR, if_pos c105])), ((fi ho93).cast (by unfold kdD; rw [if_pos hS, hE, prR, if_pos c105])), ((fi (h_d2.ext hx119)).cast (by unfold kdD; rw [if_pos hS, hE, prR, if_pos c105]))⟩
 rw [decide_eq_false c105] at H
 clear ho93
 revert A; refine go ?_; intro A H
 refine wv H (ls H U34 ti34 hb4.cells) ?_
 clear H A; intro A H
 refine wv H (op_move H rfl rfl) ?_
 clear H A; intro A H
 refine ws H (op_storeAll' H rfl ti34 rfl rfl hb11 rfl rfl (by intro u hu; have hu : u ∈ ([v_d0, v_d1, v_d2] : List Value) := hu; simp only [List.mem_cons, List.mem_nil_iff, or_false] at hu; rcases hu with rfl | rfl | rfl <;> first | exact (h_d0.ext hx96).one | exact (h_d1.ext hx96).one | exact (h_d2.ext hx96).one) rfl) ?_
 rintro w124 ⟨hb126, hst125, hz127⟩
 obtain ⟨hx128, _⟩ := nb hx96 hst125
 replace hb4 := bb hb4 hst125
 clear hb11
 revert A; refine go ?_; intro A H
 refine ret_ctt H rfl rfl U34 ti34 rfl hb126.cells rfl rfl ?_
 clear H A
 have hS : isK (gw words 0) = true := by unfold isK; rw [gw_eq hx36, c48]; rfl
 have hE := exM_promise (d := d) (ns := n) hx36 c48 hx56 hx67 hx78
 exact ret_mk hx128 ⟨v_d0, v_d1, v_d2, (tup3_eq (by rfl) (int_eq (by unfold kdC; rw [if_pos hS, hE, prR_c])) (congrArg Value.bool (by rw [hS]))), ((fi (h_d0.ext hx128)).cast (by unfold kdD; rw [if_pos hS, hE, prR, if_neg c105])), ((fi (h_d1.ext hx128)).cast (by unfold kdD; rw [if_pos hS, hE, prR, if_neg c105])), ((fi (h_d2.ext hx128)).cast (by unfold kdD; rw [if_pos hS, hE, prR, if_neg c105]))⟩
 rw [decide_eq_false c48] at H
 revert A; refine go ?_; intro A H
 by_cases c133 : x36 = ([115, 97, 108, 101] : Str)
 rw [decide_eq_true c133] at H
 obtain ⟨hwlc133, hnlc133⟩ : words.length = 4 ∧ n.length = 2 := cm_len (l := [true, false, false]) g1 hx36 (by rw [c133]; decide)
 refine cond_t H rfl ?_
 refine dre (fun wa_ wb_ => Stp wa_ wb_ (some w9.heap.size)) follows_mixed ?_
 intro w134 he135 hs137
 obtain ⟨hx136, _⟩ := nx hx29 he135
 replace hb4 := hb4.ext he135
 replace hb11 := hb11.ext he135
 replace hb27 := hb27.ext he135
 refine dw 0 H rfl (Stp.of_ext hs137 _) (op_move H rfl rfl) ?_
 clear H A; intro A H
 obtain ⟨x139, hx139⟩ := get_ex (xs := words) (j := 1) (by omega)
 obtain ⟨p140, hi142, hc143, b146, hs145⟩ := at_shStr h_words hx139
 have hbx139 := cm_str g1 (List.mem_of_getElem? hx139)
 refine dw 1 H rfl (Stp.of_ext hs137 _) (ix H U25 ti9 hi142) ?_
 clear H A; intro A H
 refine dv 2 H rfl (Stp.of_ext hs137 _) (fun w' hw' => lh H U9 (hc143.ext (hx136.stp hw' (by intro q hq; cases hq; omega)))) ?_
 clear H A; intro A H
 refine dw 3 H rfl (Stp.of_ext hs137 _) (op_move H rfl rfl) ?_
 clear H A; intro A H
 obtain ⟨x150, hx150⟩ := get_ex (xs := n) (j := 0) (by omega)
 obtain ⟨p151, hi153, hc154, b157, hs156⟩ := at_shI64 h_n hx150
 have hbx150 := cm_num g1 (List.mem_of_getElem? hx150)
 refine dw 4 H rfl (Stp.of_ext hs137 _) (ix H U55 ti2 hi153) ?_
 clear H A; intro A H
 refine dv 5 H rfl (Stp.of_ext hs137 _) (fun w' hw' => lh H U2 (hc154.ext (hx136.stp hw' (by intro q hq; cases hq; omega)))) ?_
 clear H A; intro A H
 refine dw 6 H rfl (Stp.of_ext hs137 _) (op_move H rfl rfl) ?_
 clear H A; intro A H
 obtain ⟨x161, hx161⟩ := get_ex (xs := n) (j := 1) (by omega)
 obtain ⟨p162, hi164, hc165, b168, hs167⟩ := at_shI64 h_n hx161
 have hbx161 := cm_num g1 (List.mem_of_getElem? hx161)
 refine dw 7 H rfl (Stp.of_ext hs137 _) (ix H U55 ti2 hi164) ?_
 clear H A; intro A H
 refine dv 8 H rfl (Stp.of_ext hs137 _) (fun w' hw' => lh H U2 (hc165.ext (hx136.stp hw' (by intro q hq; cases hq; omega)))) ?_
 clear H A; intro A H
 refine dw 9 H rfl (Stp.of_ext hs137 _) (op_build (vs := [(1, .int .i64 (0 : Int)), (2, St x139), (0, .int .i64 x150), (3, .int .i64 x161)]) (cs := #[.int .i64 x150, .int .i64 (0 : Int), St x139, .int .i64 x161]) H rfl U69 ti69 bp69 rfl rfl) ?_
 clear H A; intro A H
 refine dr_one (i := 10) (by kernel_rfl) ?_
 replace hb4 := hb4.ext hs137
 replace hb11 := hb11.ext hs137
 replace hb27 := hb27.ext hs137
 refine po_effS H rfl rfl rfl (op_sa H ti69 hb27) ?_
 rintro w172 ⟨hb174, hst173, hz175⟩
 have hs176 := (Stp.of_ext hs137 (some w9.heap.size)).trans' hst173
 obtain ⟨hx177, _⟩ := nb hx136 hst173
 replace hb4 := bb hb4 hst173
 replace hb11 := bb hb11 hst173
 clear hb27
 refine ⟨hs176, ?_⟩
 refine drs hs176 ?_
 intro hs178
 refine dr_end (by kernel_rfl) ?_
 revert A; refine go ?_; intro A H
 refine ⟨x150, (0 : Int), x139, x161, (sl H), hx177, hb4, hb11, hb174, (by omega), (by exact exM_sale (d := d) (ns := n) hx36 c133 hx139 hx150 hx161), (by unfold isK; rw [gw_eq hx36, c133]; rfl), (by simp only [I64]; omega)⟩
 rw [decide_eq_false c133] at H
 revert A; refine go ?_; intro A H
 by_cases c181 : x36 = ([112, 97, 121] : Str)
 rw [decide_eq_true c181] at H
 obtain ⟨hwlc181, hnlc181⟩ : words.length = 4 ∧ n.length = 2 := cm_len (l := [true, false, false]) g1 hx36 (by rw [c181]; decide)
 refine cond_t H rfl ?_
 refine dre (fun wa_ wb_ => Stp wa_ wb_ (some w9.heap.size)) follows_mixed ?_
 intro w182 he183 hs185
 obtain ⟨hx184, _⟩ := nx hx29 he183
 replace hb4 := hb4.ext he183
 replace hb11 := hb11.ext he183
 replace hb27 := hb27.ext he183
 refine dw 0 H rfl (Stp.of_ext hs185 _) (op_move H rfl rfl) ?_
 clear H A; intro A H
 obtain ⟨x187, hx187⟩ := get_ex (xs := words) (j := 1) (by omega)
 obtain ⟨p188, hi190, hc191, b194, hs193⟩ := at_shStr h_words hx187
 have hbx187 := cm_str g1 (List.mem_of_getElem? hx187)
 refine dw 1 H rfl (Stp.of_ext hs185 _) (ix H U25 ti9 hi190) ?_
 clear H A; intro A H
 refine dv 2 H rfl (Stp.of_ext hs185 _) (fun w' hw' => lh H U9 (hc191.ext (hx184.stp hw' (by intro q hq; cases hq; omega)))) ?_
 clear H A; intro A H
 refine dw 3 H rfl (Stp.of_ext hs185 _) (op_move H rfl rfl) ?_
 clear H A; intro A H
 obtain ⟨x198, hx198⟩ := get_ex (xs := n) (j := 0) (by omega)
 obtain ⟨p199, hi201, hc202, b205, hs204⟩ := at_shI64 h_n hx198
 have hbx198 := cm_num g1 (List.mem_of_getElem? hx198)
 refine dw 4 H rfl (Stp.of_ext hs185 _) (ix H U55 ti2 hi201) ?_
 clear H A; intro A H
 refine dv 5 H rfl (Stp.of_ext hs185 _) (fun w' hw' => lh H U2 (hc202.ext (hx184.stp hw' (by intro q hq; cases hq; omega)))) ?_
 clear H A; intro A H
 refine dw 6 H rfl (Stp.of_ext hs185 _) (op_move H rfl rfl) ?_
 clear H A; intro A H
 obtain ⟨x209, hx209⟩ := get_ex (xs := n) (j := 1) (by omega)
 obtain ⟨p210, hi212, hc213, b216, hs215⟩ := at_shI64 h_n hx209
 have hbx209 := cm_num g1 (List.mem_of_getElem? hx209)
 refine dw 7 H rfl (Stp.of_ext hs185 _) (ix H U55 ti2 hi212) ?_
 clear H A; intro A H
 refine dv 8 H rfl (Stp.of_ext hs185 _) (fun w' hw' => lh H U2 (hc213.ext (hx184.stp hw' (by intro q hq; cases hq; omega)))) ?_
 clear H A; intro A H
 refine dw 9 H rfl (Stp.of_ext hs185 _) (op_build (vs := [(1, .int .i64 (1 : Int)), (2, St x187), (0, .int .i64 x198), (3, .int .i64 x209)]) (cs := #[.int .i64 x198, .int .i64 (1 : Int), St x187, .int .i64 x209]) H rfl U69 ti69 bp69 rfl rfl) ?_
 clear H A; intro A H
 refine dr_one (i := 10) (by kernel_rfl) ?_
 replace hb4 := hb4.ext hs185
 replace hb11 := hb11.ext hs185
 replace hb27 := hb27.ext hs185
 refine po_effS H rfl rfl rfl (op_sa H ti69 hb27) ?_
 rintro w220 ⟨hb222, hst221, hz223⟩
 have hs224 := (Stp.of_ext hs185 (some w9.heap.size)).trans' hst221
 obtain ⟨hx225, _⟩ := nb hx184 hst221
 replace hb4 := bb hb4 hst221
 replace hb11 := bb hb11 hst221
 clear hb27
 refine ⟨hs224, ?_⟩
 refine drs hs224 ?_
 intro hs226
 refine dr_end (by kernel_rfl) ?_
 revert A; refine go ?_; intro A H
 refine ⟨x198, (1 : Int), x187, x209, (sl H), hx225, hb4, hb11, hb222, (by omega), (by exact exM_pay (d := d) (ns := n) hx36 c181 hx187 hx198 hx209), (by unfold isK; rw [gw_eq hx36, c181]; rfl), (by simp only [I64]; omega)⟩
 rw [decide_eq_false c181] at H
 revert A; refine go ?_; intro A H
 by_cases c229 : x36 = ([98, 117, 121] : Str)
 rw [decide_eq_true c229] at H
 obtain ⟨hwlc229, hnlc229⟩ : words.length = 4 ∧ n.length = 2 := cm_len (l := [true, false, false]) g1 hx36 (by rw [c229]; decide)
 refine cond_t H rfl ?_
 refine dre (fun wa_ wb_ => Stp wa_ wb_ (some w9.heap.size)) follows_mixed ?_
 intro w230 he231 hs233
 obtain ⟨hx232, _⟩ := nx hx29 he231
 replace hb4 := hb4.ext he231
 replace hb11 := hb11.ext he231
 replace hb27 := hb27.ext he231
 refine dw 0 H rfl (Stp.of_ext hs233 _) (op_move H rfl rfl) ?_
 clear H A; intro A H
 obtain ⟨x235, hx235⟩ := get_ex (xs := words) (j := 1) (by omega)
 obtain ⟨p236, hi238, hc239, b242, hs241⟩ := at_shStr h_words hx235
 have hbx235 := cm_str g1 (List.mem_of_getElem? hx235)
 refine dw 1 H rfl (Stp.of_ext hs233 _) (ix H U25 ti9 hi238) ?_
 clear H A; intro A H
 refine dv 2 H rfl (Stp.of_ext hs233 _) (fun w' hw' => lh H U9 (hc239.ext (hx232.stp hw' (by intro q hq; cases hq; omega)))) ?_
 clear H A; intro A H
 refine dw 3 H rfl (Stp.of_ext hs233 _) (op_move H rfl rfl) ?_
 clear H A; intro A H
 obtain ⟨x246, hx246⟩ := get_ex (xs := n) (j := 0) (by omega)
 obtain ⟨p247, hi249, hc250, b253, hs252⟩ := at_shI64 h_n hx246
 have hbx246 := cm_num g1 (List.mem_of_getElem? hx246)
 refine dw 4 H rfl (Stp.of_ext hs233 _) (ix H U55 ti2 hi249) ?_
 clear H A; intro A H
 refine dv 5 H rfl (Stp.of_ext hs233 _) (fun w' hw' => lh H U2 (hc250.ext (hx232.stp hw' (by intro q hq; cases hq; omega)))) ?_
 clear H A; intro A H
 refine dw 6 H rfl (Stp.of_ext hs233 _) (op_move H rfl rfl) ?_
 clear H A; intro A H
 obtain ⟨x257, hx257⟩ := get_ex (xs := n) (j := 1) (by omega)
 obtain ⟨p258, hi260, hc261, b264, hs263⟩ := at_shI64 h_n hx257
 have hbx257 := cm_num g1 (List.mem_of_getElem? hx257)
 refine dw 7 H rfl (Stp.of_ext hs233 _) (ix H U55 ti2 hi260) ?_
 clear H A; intro A H
 refine dv 8 H rfl (Stp.of_ext hs233 _) (fun w' hw' => lh H U2 (hc261.ext (hx232.stp hw' (by intro q hq; cases hq; omega)))) ?_
 clear H A; intro A H
 refine dw 9 H rfl (Stp.of_ext hs233 _) (op_build (vs := [(1, .int .i64 (2 : Int)), (2, St x235), (0, .int .i64 x246), (3, .int .i64 x257)]) (cs := #[.int .i64 x246, .int .i64 (2 : Int), St x235, .int .i64 x257]) H rfl U69 ti69 bp69 rfl rfl) ?_
 clear H A; intro A H
 refine dr_one (i := 10) (by kernel_rfl) ?_
 replace hb4 := hb4.ext hs233
 replace hb11 := hb11.ext hs233
 replace hb27 := hb27.ext hs233
 refine po_effS H rfl rfl rfl (op_sa H ti69 hb27) ?_
 rintro w268 ⟨hb270, hst269, hz271⟩
 have hs272 := (Stp.of_ext hs233 (some w9.heap.size)).trans' hst269
 obtain ⟨hx273, _⟩ := nb hx232 hst269
 replace hb4 := bb hb4 hst269
 replace hb11 := bb hb11 hst269
 clear hb27
 refine ⟨hs272, ?_⟩
 refine drs hs272 ?_
 intro hs274
 refine dr_end (by kernel_rfl) ?_
 revert A; refine go ?_; intro A H
 refine ⟨x246, (2 : Int), x235, x257, (sl H), hx273, hb4, hb11, hb270, (by omega), (by exact exM_buy (d := d) (ns := n) hx36 c229 hx235 hx246 hx257), (by unfold isK; rw [gw_eq hx36, c229]; rfl), (by simp only [I64]; omega)⟩
 rw [decide_eq_false c229] at H
 revert A; refine go ?_; intro A H
 by_cases c277 : x36 = ([99, 108, 111, 115, 101] : Str)
 rw [decide_eq_true c277] at H
 obtain ⟨hwlc277, hnlc277⟩ : words.length = 2 ∧ n.length = 1 := cm_len (l := [false]) g1 hx36 (by rw [c277]; decide)
 revert A; refine go ?_; intro A H
 obtain ⟨x279, hx279⟩ := get_ex (xs := n) (j := 0) (by omega)
 obtain ⟨p280, hi282, hc283, b286, hs285⟩ := at_shI64 h_n hx279
 have hbx279 := cm_num g1 (List.mem_of_getElem? hx279)
 refine wv H (ix H U55 ti2 hi282) ?_
 clear H A; intro A H
 refine wv H (lh H U2 (hc283.ext hx29)) ?_
 clear H A; intro A H
 refine wv H (op_build (vs := [(1, .int .i64 (3 : Int)), (0, .int .i64 x279)]) (cs := #[.int .i64 x279, .int .i64 (3 : Int), St (([] : Str)), .int .i64 (0 : Int)]) H rfl U69 ti69 bp69 rfl rfl) ?_
 clear H A; intro A H
 refine ws H (op_sa H ti69 hb27) ?_
 rintro w290 ⟨hb292, hst291, hz293⟩
 obtain ⟨hx294, _⟩ := nb hx29 hst291
 replace hb4 := bb hb4 hst291
 replace hb11 := bb hb11 hst291
 clear hb27
 revert A; refine go ?_; intro A H
 refine ⟨x279, (3 : Int), ([] : Str), (0 : Int), (sl H), hx294, hb4, hb11, hb292, (by omega), (by exact exM_close (d := d) (ns := n) hx36 c277 hx279), (by unfold isK; rw [gw_eq hx36, c277]; rfl), (by simp only [I64, List.length_nil]; omega)⟩
 rw [decide_eq_false c277] at H
 clear hb27
 revert A; refine go ?_; intro A H
 refine wv H (ls H U34 ti34 hb4.cells) ?_
 clear H A; intro A H
 refine ws H (op_storeAll' H rfl ti34 rfl rfl hb11 rfl rfl (by intro u hu; have hu : u ∈ ([v_d0, v_d1, v_d2] : List Value) := hu; simp only [List.mem_cons, List.mem_nil_iff, or_false] at hu; rcases hu with rfl | rfl | rfl <;> first | exact (h_d0.ext hx29).one | exact (h_d1.ext hx29).one | exact (h_d2.ext hx29).one) rfl) ?_
 rintro w296 ⟨hb298, hst297, hz299⟩
 obtain ⟨hx300, _⟩ := nb hx29 hst297
 replace hb4 := bb hb4 hst297
 clear hb11
 revert A; refine go ?_; intro A H
 refine ret_ctt H rfl rfl U34 ti34 rfl hb298.cells rfl rfl ?_
 clear H A
 have hN : isK (gw words 0) = false := by unfold isK; rw [gw_eq hx36]; simp only [Bool.or_eq_false_iff, decide_eq_false_iff_not]; exact ⟨c48, c133, c181, c229, c277⟩
 exact ret_mk hx300 ⟨v_d0, v_d1, v_d2, (tup3_eq (by rfl) (int_eq (by unfold kdC; rw [hN]; rfl)) (congrArg Value.bool (by rw [hN]))), ((fi (h_d0.ext hx300)).cast (by unfold kdD; rw [hN]; rfl)), ((fi (h_d1.ext hx300)).cast (by unfold kdD; rw [hN]; rfl)), ((fi (h_d2.ext hx300)).cast (by unfold kdD; rw [hN]; rfl))⟩
 clear H A
 rintro A w30 ⟨e0, e1, e2, e3, H, hx31, hf32, hf33, hf34, hzl304, hE, hS, hI⟩
 have hzhx31 := hx31.size
 revert A; refine go ?_; intro A H
 refine fl 2 H U34 ti32 U32 hf32.cells ?_
 clear H A; intro A H
 refine wv H (ls H U69 ti69 hf34.cells) ?_
 clear H A; intro A H
 refine wc H cb112 (c_spec_AddEntry _ v_d2 d.2.2 ((e0, e1, e2, e3)) ((h_d2.ext hx31).rds pos_shEnt) ge ge ge ge ge) ?_
 clear H A; rintro v308 w309 he310 ⟨v311, rfl, ho312⟩ A H
 obtain ⟨hx314, _⟩ := nx hx31 he310
 replace hf32 := hf32.ext he310
 replace hf33 := hf33.ext he310
 replace hf34 := hf34.ext he310
 clear hf34
 revert A; refine go ?_; intro A H
 by_cases c322 : (addC d.2.2 ((e0, e1, e2, e3)) : Int) = (0 : Int)
 rw [decide_eq_true c322] at H
 revert A; refine go ?_; intro A H
 refine wv H (fa H U34 ti32) ?_
 clear H A; intro A H
 refine ws H (op_store' (off := 2) H rfl ti32 rfl rfl hf32 ho312.cells1 rfl (o1 ho312.one o0) (Nat.le_of_ble_eq_true rfl)) ?_
 rintro w325 ⟨hb327, hst326, hz328⟩
 obtain ⟨hx329, _⟩ := nb hx314 hst326
 replace hf33 := bb hf33 hst326
 replace ho312 := ho312.stp hst326 (by intro q hq; cases hq; omega)
 clear hf32
 revert A; refine go ?_; intro A H
 refine wv H (ls H U34 ti34 hb327.cells) ?_
 clear H A; intro A H
 refine wv H (op_move H rfl rfl) ?_
 clear H A; intro A H
 refine ws H (op_storeAll' H rfl ti34 rfl rfl hf33 rfl rfl (by intro u hu; have hu : u ∈ ([v_d0, v_d1, v311] : List Value) := hu; simp only [List.mem_cons, List.mem_nil_iff, or_false] at hu; rcases hu with rfl | rfl | rfl <;> first | exact (h_d0.ext hx329).one | exact (h_d1.ext hx329).one | exact ho312.one) rfl) ?_
 rintro w332 ⟨hb334, hst333, hz335⟩
 obtain ⟨hx336, _⟩ := nb hx329 hst333
 replace ho312 := ho312.stp hst333 (by intro q hq; cases hq; omega)
 replace hb327 := bb hb327 hst333
 clear hf33
 revert A; refine go ?_; intro A H
 refine ret_ctt H rfl rfl U34 ti34 rfl hb334.cells rfl rfl ?_
 clear H A
 exact ret_mk hx336 ⟨v_d0, v_d1, v311, (tup3_eq (by rfl) (int_eq (by unfold kdC; rw [if_pos hS, hE, bkR_c])) (congrArg Value.bool (by rw [hS]))), ((fi (h_d0.ext hx336)).cast (by unfold kdD; rw [if_pos hS, hE, bkR, if_pos c322])), ((fi (h_d1.ext hx336)).cast (by unfold kdD; rw [if_pos hS, hE, bkR, if_pos c322])), ((fi ho312).cast (by unfold kdD; rw [if_pos hS, hE, bkR, if_pos c322]))⟩
 rw [decide_eq_false c322] at H
 clear ho312
 revert A; refine go ?_; intro A H
 refine wv H (ls H U34 ti34 hf32.cells) ?_
 clear H A; intro A H
 refine wv H (op_move H rfl rfl) ?_
 clear H A; intro A H
 refine ws H (op_storeAll' H rfl ti34 rfl rfl hf33 rfl rfl (by intro u hu; have hu : u ∈ ([v_d0, v_d1, v_d2] : List Value) := hu; simp only [List.mem_cons, List.mem_nil_iff, or_false] at hu; rcases hu with rfl | rfl | rfl <;> first | exact (h_d0.ext hx314).one | exact (h_d1.ext hx314).one | exact (h_d2.ext hx314).one) rfl) ?_
 rintro w341 ⟨hb343, hst342, hz344⟩
 obtain ⟨hx345, _⟩ := nb hx314 hst342
 replace hf32 := bb hf32 hst342
 clear hf33
 revert A; refine go ?_; intro A H
 refine ret_ctt H rfl rfl U34 ti34 rfl hb343.cells rfl rfl ?_
 clear H A
 exact ret_mk hx345 ⟨v_d0, v_d1, v_d2, (tup3_eq (by rfl) (int_eq (by unfold kdC; rw [if_pos hS, hE, bkR_c])) (congrArg Value.bool (by rw [hS]))), ((fi (h_d0.ext hx345)).cast (by unfold kdD; rw [if_pos hS, hE, bkR, if_neg c322])), ((fi (h_d1.ext hx345)).cast (by unfold kdD; rw [if_pos hS, hE, bkR, if_neg c322])), ((fi (h_d2.ext hx345)).cast (by unfold kdD; rw [if_pos hS, hE, bkR, if_neg c322]))⟩



theorem c_spec_l34Ask (w0 : World) (v_d0 : Value) (v_d1 : Value) (v_d2 : Value) (d : List (Str × Int × Int × Int × Int) × List (Str × Int × Int) × List (Int × Int × Str × Int)) {S_d0 : Nat → Prop} {S_d1 : Nat → Prop} {S_d2 : Nat → Prop} (v_words : Value) (words : List Str) {S_words : Nat → Prop} (v_n : Value) (n : List Int) {S_n : Nat → Prop} (h_d0 : Rds shBin S_d0 w0 v_d0 d.1) (h_d1 : Rds shProm S_d1 w0 v_d1 d.2.1) (h_d2 : Rds shEnt S_d2 w0 v_d2 d.2.2) (h_words : Rds shStr S_words w0 v_words words) (h_n : Rds shI64 S_n w0 v_n n) (g0 : deskB d = true) (g1 : cmOK words n) (g2 : isS (gw words 0) = false) (g3 : isK (gw words 0) = false) :
    Calls Tryz.prog 111 #[.agg #[v_d0, v_d1, v_d2], v_words, v_n] w0 (Ret w0 (fun v _ => v = .tuple #[St ((exM d words n).2.1), .int .i64 ((exM d words n).2.2)])) := by
 refine enter (N := 100) Tryz.func111 rfl rfl rfl ?_
 intro A H
 have hx0 := Ext.rfl' w0
 have hl_d0 := h_d0.length_le
 have hl_d1 := h_d1.length_le
 have hl_d2 := h_d2.length_le
 have hl_words := h_words.length_le
 have hl_n := h_n.length_le
 obtain ⟨hd1, hd2, hd3, hd4, hd5, hd6⟩ := desk_bd g0
 have hcp := cm_pos g1
 revert A; refine go ?_; intro A H
 refine we H (op_box' H rfl rfl rfl) ?_
 clear H A; rintro _ w2 ⟨rfl, he3, hb4, hz5⟩ A H
 obtain ⟨hx7, _⟩ := nx hx0 he3
 refine wv H (op_assign H rfl rfl) ?_
 clear H A; intro A H
 refine wv H (op_assign H rfl rfl) ?_
 clear H A; intro A H
 refine wpList_nil ?_
 refine then_n ?_
 refine wp_seq ?_
 refine wp_region_lit ?_
 refine wv H (op_assign H rfl rfl) ?_
 clear H A; intro A H
 refine wv H (op_assign H rfl rfl) ?_
 clear H A; intro A H
 refine wpList_nil ?_
 refine then_n ?_
 refine seq_mid (fun fr wl => ∃ (x : Int) (c : Int), Sl 100 fr [(8, .int .i64 x), (9, .int .i64 c)] ∧ Ext w0 wl ∧ w2.heap.size ≤ wl.heap.size ∧ (exM d words n = tdR d x c) ∧ (-9000000000 ≤ x ∧ x ≤ 9000000000)) ?_ ?_
 revert A; refine go ?_; intro A H
 obtain ⟨x15, hx15⟩ := get_ex (xs := words) (j := 0) (by omega)
 obtain ⟨p16, hi18, hc19, b22, hs21⟩ := at_shStr h_words hx15
 have hbx15 := cm_str g1 (List.mem_of_getElem? hx15)
 refine wv H (ix H U25 ti9 hi18) ?_
 clear H A; intro A H
 refine wv H (lh H U9 (hc19.ext hx7)) ?_
 clear H A; refine go ?_; intro A H
 by_cases c27 : x15 = ([111, 114, 100, 101, 114] : Str)
 rw [decide_eq_true c27] at H
 obtain ⟨hwlc27, hnlc27⟩ : words.length = 1 ∧ n.length = 0 := cm_len (l := []) g1 hx15 (by rw [c27]; decide)
 revert A; refine go ?_; intro A H
 refine wv H (ls H U34 ti34 hb4.cells) ?_
 clear H A; intro A H
 refine wc H cb133 (c_spec_l34Order _ v_d0 v_d1 v_d2 d (h_d0.ext pos_shBin hx7) (h_d1.ext pos_shProm hx7) (h_d2.ext pos_shEnt hx7) ge) ?_
 clear H A; rintro v29 w30 he31 rfl A H
 obtain ⟨hx33, _⟩ := nx hx7 he31
 replace hb4 := hb4.ext he31
 revert A; refine go ?_; intro A H
 refine ret2 H rfl rfl rfl ?_
 clear H A
 have hr := exM_order (d := d) (ns := n) hx15 c27
 exact ret_mk hx33 (tup2_eq (congrArg St (by rw [hr]; rfl)) (int_eq (by rw [hr]; rfl)))
 rw [decide_eq_false c27] at H
 revert A; refine go ?_; intro A H
 by_cases c38 : x15 = ([109, 109] : Str)
 rw [decide_eq_true c38] at H
 obtain ⟨hwlc38, hnlc38⟩ : words.length = 2 ∧ n.length = 1 := cm_len (l := [false]) g1 hx15 (by rw [c38]; decide)
 clear hb4
 revert A; refine go ?_; intro A H
 obtain ⟨x40, hx40⟩ := get_ex (xs := n) (j := 0) (by omega)
 obtain ⟨p41, hi43, hc44, b47, hs46⟩ := at_shI64 h_n hx40
 have hbx40 := cm_num g1 (List.mem_of_getElem? hx40)
 refine wv H (ix H U55 ti2 hi43) ?_
 clear H A; intro A H
 refine wv H (lh H U2 (hc44.ext hx7)) ?_
 clear H A; intro A H
 refine wc H cb134 (c_spec_MeasureText _ x40 ) ?_
 clear H A; rintro v50 w51 he52 rfl A H
 obtain ⟨hx54, _⟩ := nx hx7 he52
 revert A; refine go ?_; intro A H
 refine ret2 H rfl rfl rfl ?_
 clear H A
 have hr := exM_mm (d := d) (ns := n) hx15 c38 hx40
 exact ret_mk hx54 (tup2_eq (congrArg St (by rw [hr]; rfl)) (int_eq (by rw [hr]; rfl)))
 rw [decide_eq_false c38] at H
 revert A; refine go ?_; intro A H
 by_cases c61 : x15 = ([102, 114, 101, 101] : Str)
 rw [decide_eq_true c61] at H
 obtain ⟨hwlc61, hnlc61⟩ : words.length = 2 ∧ n.length = 0 := cm_len (l := [true]) g1 hx15 (by rw [c61]; decide)
 refine cond_t H rfl ?_
 refine dre Ext follows_mixed ?_
 intro w62 he63 hs65
 obtain ⟨hx64, _⟩ := nx hx7 he63
 replace hb4 := hb4.ext he63
 refine dw 0 H rfl hs65 (fa H U34 ti30) ?_
 clear H A; intro A H
 refine dv 1 H rfl hs65 (fun w' hw' => lf 0 H U30 (hb4.ext hw').cells) ?_
 clear H A; intro A H
 refine dw 2 H rfl hs65 (op_move H rfl rfl) ?_
 clear H A; intro A H
 obtain ⟨x69, hx69⟩ := get_ex (xs := words) (j := 1) (by omega)
 obtain ⟨p70, hi72, hc73, b76, hs75⟩ := at_shStr h_words hx69
 have hbx69 := cm_str g1 (List.mem_of_getElem? hx69)
 refine dw 3 H rfl hs65 (ix H U25 ti9 hi72) ?_
 clear H A; intro A H
 refine dv 4 H rfl hs65 (fun w' hw' => lh H U9 (hc73.ext (hx64.trans' hw'))) ?_
 clear H A; intro A H
 refine dr_one (i := 5) (by kernel_rfl) ?_
 refine pc H cb135 rfl (c_spec_FreePieces _ v_d0 d.1 x69 (h_d0.ext pos_shBin (hx64.trans' hs65))) ?_
 clear H A; rintro v79 w80 he81 rfl A H
 have hs83 := hs65.trans' he81
 obtain ⟨hx84, _⟩ := nx hx64 he81
 refine ⟨hs83, ?_⟩
 replace hb4 := hb4.ext hs83
 refine drn hs83 ?_
 intro hs85
 revert A; refine dgo [6, 7, 8, 9, 10] hs85 ?_; intro A H
 refine dr_end (by kernel_rfl) ?_
 revert A; refine go ?_; intro A H
 refine ⟨(if stC d.1 x69 1 = 0 then (bnO d.1 x69).2.1 - (bnO d.1 x69).2.2.1 else 0 : Int), (stC d.1 x69 1 : Int), (sl H), hx84, (by omega), (by exact exM_free (d := d) (ns := n) hx15 c61 hx69), ge⟩
 rw [decide_eq_false c61] at H
 revert A; refine go ?_; intro A H
 by_cases c93 : x15 = ([119, 104, 101, 110] : Str)
 rw [decide_eq_true c93] at H
 obtain ⟨hwlc93, hnlc93⟩ : words.length = 2 ∧ n.length = 1 := cm_len (l := [false]) g1 hx15 (by rw [c93]; decide)
 refine cond_t H rfl ?_
 refine dre Ext follows_mixed ?_
 intro w94 he95 hs97
 obtain ⟨hx96, _⟩ := nx hx7 he95
 replace hb4 := hb4.ext he95
 refine dw 0 H rfl hs97 (fa H U34 ti31) ?_
 clear H A; intro A H
 refine dv 1 H rfl hs97 (fun w' hw' => lf 1 H U31 (hb4.ext hw').cells) ?_
 clear H A; intro A H
 refine dw 2 H rfl hs97 (op_move H rfl rfl) ?_
 clear H A; intro A H
 obtain ⟨x101, hx101⟩ := get_ex (xs := n) (j := 0) (by omega)
 obtain ⟨p102, hi104, hc105, b108, hs107⟩ := at_shI64 h_n hx101
 have hbx101 := cm_num g1 (List.mem_of_getElem? hx101)
 refine dw 3 H rfl hs97 (ix H U55 ti2 hi104) ?_
 clear H A; intro A H
 refine dv 4 H rfl hs97 (fun w' hw' => lh H U2 (hc105.ext (hx96.trans' hw'))) ?_
 clear H A; intro A H
 refine dr_one (i := 5) (by kernel_rfl) ?_
 refine pc H cb136 rfl (c_spec_EarliestDay _ v_d1 d.2.1 x101 (h_d1.ext pos_shProm (hx96.trans' hs97))) ?_
 clear H A; rintro v111 w112 he113 rfl A H
 have hs115 := hs97.trans' he113
 obtain ⟨hx116, _⟩ := nx hx96 he113
 refine ⟨hs115, ?_⟩
 replace hb4 := hb4.ext hs115
 refine drn hs115 ?_
 intro hs117
 revert A; refine dgo [6, 7, 8, 9, 10] hs117 ?_; intro A H
 refine dr_end (by kernel_rfl) ?_
 revert A; refine go ?_; intro A H
 refine ⟨(if edC d.2.1 x101 = 0 then edS d.2.1 x101 else 0 : Int), (edC d.2.1 x101 : Int), (sl H), hx116, (by omega), (by exact exM_when (d := d) (ns := n) hx15 c93 hx101), ge⟩
 rw [decide_eq_false c93] at H
 revert A; refine go ?_; intro A H
 by_cases c125 : x15 = ([107, 101, 112, 116] : Str)
 rw [decide_eq_true c125] at H
 obtain ⟨hwlc125, hnlc125⟩ : words.length = 1 ∧ n.length = 0 := cm_len (l := []) g1 hx15 (by rw [c125]; decide)
 revert A; refine go ?_; intro A H
 refine fl 1 H U34 ti31 U31 hb4.cells ?_
 clear H A; intro A H
 refine wc H cb137 (c_spec_MostKept _ v_d1 d.2.1 (h_d1.ext pos_shProm hx7)) ?_
 clear H A; rintro v128 w129 he130 rfl A H
 obtain ⟨hx132, _⟩ := nx hx7 he130
 replace hb4 := hb4.ext he130
 revert A; refine go ?_; intro A H
 refine ⟨(if prsB d.2.1 then ((kpL d.2.1).length : Int) else 0 : Int), (if prsB d.2.1 then 0 else 1 : Int), (sl H), hx132, (by omega), (by exact exM_kept (d := d) (ns := n) hx15 c125), ge⟩
 rw [decide_eq_false c125] at H
 revert A; refine go ?_; intro A H
 by_cases c140 : x15 = ([99, 97, 115, 104] : Str)
 rw [decide_eq_true c140] at H
 obtain ⟨hwlc140, hnlc140⟩ : words.length = 2 ∧ n.length = 1 := cm_len (l := [false]) g1 hx15 (by rw [c140]; decide)
 refine cond_t H rfl ?_
 refine dre Ext follows_mixed ?_
 intro w141 he142 hs144
 obtain ⟨hx143, _⟩ := nx hx7 he142
 replace hb4 := hb4.ext he142
 refine dw 0 H rfl hs144 (fa H U34 ti32) ?_
 clear H A; intro A H
 refine dv 1 H rfl hs144 (fun w' hw' => lf 2 H U32 (hb4.ext hw').cells) ?_
 clear H A; intro A H
 refine dw 2 H rfl hs144 (op_move H rfl rfl) ?_
 clear H A; intro A H
 obtain ⟨x148, hx148⟩ := get_ex (xs := n) (j := 0) (by omega)
 obtain ⟨p149, hi151, hc152, b155, hs154⟩ := at_shI64 h_n hx148
 have hbx148 := cm_num g1 (List.mem_of_getElem? hx148)
 refine dw 3 H rfl hs144 (ix H U55 ti2 hi151) ?_
 clear H A; intro A H
 refine dv 4 H rfl hs144 (fun w' hw' => lh H U2 (hc152.ext (hx143.trans' hw'))) ?_
 clear H A; intro A H
 refine dr_one (i := 5) (by kernel_rfl) ?_
 refine pc H cb138 rfl (c_spec_CashOf _ v_d2 d.2.2 x148 (h_d2.ext pos_shEnt (hx143.trans' hs144)) ge) ?_
 clear H A; rintro v158 w159 he160 rfl A H
 have hs162 := hs144.trans' he160
 obtain ⟨hx163, _⟩ := nx hx143 he160
 refine ⟨hs162, ?_⟩
 replace hb4 := hb4.ext hs162
 refine drn hs162 ?_
 intro hs164
 revert A; refine dgo [6, 7, 8, 9, 10] hs164 ?_; intro A H
 refine dr_end (by kernel_rfl) ?_
 revert A; refine go ?_; intro A H
 refine ⟨(if codeD d.2.2 x148 = 0 then sumI (csE x148) d.2.2 else 0 : Int), (codeD d.2.2 x148 : Int), (sl H), hx163, (by omega), (by exact exM_cash (d := d) (ns := n) hx15 c140 hx148), ge⟩
 rw [decide_eq_false c140] at H
 revert A; refine go ?_; intro A H
 by_cases c172 : x15 = ([111, 119, 101, 115] : Str)
 rw [decide_eq_true c172] at H
 obtain ⟨hwlc172, hnlc172⟩ : words.length = 2 ∧ n.length = 0 := cm_len (l := [true]) g1 hx15 (by rw [c172]; decide)
 refine cond_t H rfl ?_
 refine dre Ext follows_mixed ?_
 intro w173 he174 hs176
 obtain ⟨hx175, _⟩ := nx hx7 he174
 replace hb4 := hb4.ext he174
 refine dw 0 H rfl hs176 (fa H U34 ti32) ?_
 clear H A; intro A H
 refine dv 1 H rfl hs176 (fun w' hw' => lf 2 H U32 (hb4.ext hw').cells) ?_
 clear H A; intro A H
 refine dw 2 H rfl hs176 (op_move H rfl rfl) ?_
 clear H A; intro A H
 obtain ⟨x180, hx180⟩ := get_ex (xs := words) (j := 1) (by omega)
 obtain ⟨p181, hi183, hc184, b187, hs186⟩ := at_shStr h_words hx180
 have hbx180 := cm_str g1 (List.mem_of_getElem? hx180)
 refine dw 3 H rfl hs176 (ix H U25 ti9 hi183) ?_
 clear H A; intro A H
 refine dv 4 H rfl hs176 (fun w' hw' => lh H U9 (hc184.ext (hx175.trans' hw'))) ?_
 clear H A; intro A H
 refine dr_one (i := 5) (by kernel_rfl) ?_
 refine pc H cb139 rfl (c_spec_OwesOf _ v_d2 d.2.2 x180 (h_d2.ext pos_shEnt (hx175.trans' hs176)) ge ge) ?_
 clear H A; rintro v190 w191 he192 rfl A H
 have hs194 := hs176.trans' he192
 obtain ⟨hx195, _⟩ := nx hx175 he192
 refine ⟨hs194, ?_⟩
 replace hb4 := hb4.ext hs194
 refine drn hs194 ?_
 intro hs196
 revert A; refine dgo [6, 7, 8, 9, 10] hs196 ?_; intro A H
 refine dr_end (by kernel_rfl) ?_
 revert A; refine go ?_; intro A H
 refine ⟨(if dbB d.2.2 && wordB x180 then owS x180 d.2.2 else 0 : Int), (if dbB d.2.2 && wordB x180 then 0 else 1 : Int), (sl H), hx195, (by omega), (by exact exM_owes (d := d) (ns := n) hx15 c172 hx180), ge⟩
 rw [decide_eq_false c172] at H
 clear hb4
 have hsn := isS_no g2
 rw [gw_eq hx15] at hsn
 have hkn := isK_no g3
 rw [gw_eq hx15] at hkn
 have hmm := cm_gear g1 hx15 hsn.1 hsn.2.1 hsn.2.2.1 hsn.2.2.2.1 hsn.2.2.2.2 c61 c27 hkn.1 c93 c125 hkn.2.1 hkn.2.2.1 hkn.2.2.2.1 hkn.2.2.2.2 c140 c172 c38
 obtain ⟨hwlm, hnlm⟩ : words.length = 3 ∧ n.length = 2 := cm_len (l := [false, false]) g1 hx15 (by rw [hmm]; decide)
 revert A; refine go ?_; intro A H
 obtain ⟨x203, hx203⟩ := get_ex (xs := n) (j := 0) (by omega)
 obtain ⟨p204, hi206, hc207, b210, hs209⟩ := at_shI64 h_n hx203
 have hbx203 := cm_num g1 (List.mem_of_getElem? hx203)
 refine wv H (ix H U55 ti2 hi206) ?_
 clear H A; intro A H
 refine wv H (lh H U2 (hc207.ext hx7)) ?_
 clear H A; intro A H
 refine wc H cb87 (c_spec_l01In _ x203 (1 : Int) (100 : Int) ) ?_
 clear H A; rintro v213 w214 he215 rfl A H
 obtain ⟨hx217, _⟩ := nx hx7 he215
 revert A; refine go ?_; intro A H
 rcases Bool.eq_false_or_eq_true (decide ((1 : Int) ≤ x203) && decide (x203 ≤ (100 : Int))) with c220 | c220
 rw [c220] at H
 have hmc220 : (1 ≤ x203 ∧ x203 ≤ 100) := by simpa using c220
 refine wv H (op_move H rfl rfl) ?_
 clear H A; intro A H
 obtain ⟨x222, hx222⟩ := get_ex (xs := n) (j := 1) (by omega)
 obtain ⟨p223, hi225, hc226, b229, hs228⟩ := at_shI64 h_n hx222
 have hbx222 := cm_num g1 (List.mem_of_getElem? hx222)
 refine wv H (ix H U55 ti2 hi225) ?_
 clear H A; intro A H
 refine wv H (lh H U2 (hc226.ext hx217)) ?_
 clear H A; intro A H
 refine wc H cb87 (c_spec_l01In _ x222 (1 : Int) (100 : Int) ) ?_
 clear H A; rintro v232 w233 he234 rfl A H
 obtain ⟨hx236, _⟩ := nx hx217 he234
 revert A; refine go ?_; intro A H
 rcases Bool.eq_false_or_eq_true (decide ((1 : Int) ≤ x222) && decide (x222 ≤ (100 : Int))) with c239 | c239
 rw [c239] at H
 have hmc239 : (1 ≤ x222 ∧ x222 ≤ 100) := by simpa using c239
 revert A; refine go ?_; intro A H
 refine dre Ext follows_mixed ?_
 intro w240 he241 hs243
 obtain ⟨hx242, _⟩ := nx hx236 he241
 refine dw 0 H rfl hs243 (op_move H rfl rfl) ?_
 clear H A; intro A H
 refine dw 1 H rfl hs243 (ix H U55 ti2 hi206) ?_
 clear H A; intro A H
 refine dv 2 H rfl hs243 (fun w' hw' => lh H U2 (hc207.ext (hx242.trans' hw'))) ?_
 clear H A; intro A H
 refine dw 3 H rfl hs243 ((op_mul H rfl rfl rfl).int (IntWalk.i64_in _ (by omega))) ?_
 clear H A; intro A H
 refine dw 4 H rfl hs243 (op_move H rfl rfl) ?_
 clear H A; intro A H
 refine dw 5 H rfl hs243 (ix H U55 ti2 hi225) ?_
 clear H A; intro A H
 refine dv 6 H rfl hs243 (fun w' hw' => lh H U2 (hc226.ext (hx242.trans' hw'))) ?_
 clear H A; intro A H
 refine dr_one (i := 7) (by kernel_rfl) ?_
 refine pc H cb140 rfl (c_spec_l01Nearest _ ((1000 : Int) * x203) x222 ge ge) ?_
 clear H A; rintro v251 w252 he253 rfl A H
 have hs255 := hs243.trans' he253
 obtain ⟨hx256, _⟩ := nx hx242 he253
 refine ⟨hs255, ?_⟩
 refine drn hs255 ?_
 intro hs257
 refine dw 8 H rfl hs257 (op_assign H rfl rfl) ?_
 clear H A; intro A H
 refine dr_end (by kernel_rfl) ?_
 revert A; refine go ?_; intro A H
 refine ⟨(neI ((1000 : Int) * x203) x222 : Int), (0 : Int), (sl H), hx256, (by omega), (by rw [exM_gear (d := d) (ns := n) hx15 hmm hx203 hx222, grR, if_pos ⟨by assumption, by assumption⟩]), ge⟩
 rw [c239] at H
 have hmc239 : ¬ (1 ≤ x222 ∧ x222 ≤ 100) := by simpa using c239
 revert A; refine go ?_; intro A H
 refine ret2 H rfl rfl rfl ?_
 clear H A
 have hr := exM_gear (d := d) (ns := n) hx15 hmm hx203 hx222
 rw [grR, if_neg (by omega)] at hr
 exact ret_mk hx236 (tup2_eq (congrArg St (by rw [hr]; rfl)) (int_eq (by rw [hr]; rfl)))
 rw [c220] at H
 have hmc220 : ¬ (1 ≤ x203 ∧ x203 ≤ 100) := by simpa using c220
 revert A; refine go ?_; intro A H
 refine ret2 H rfl rfl rfl ?_
 clear H A
 obtain ⟨y9, hy9⟩ := get_ex (xs := n) (j := 1) (by omega)
 have hr := exM_gear (d := d) (ns := n) hx15 hmm hx203 hy9
 rw [grR, if_neg (by omega)] at hr
 exact ret_mk hx217 (tup2_eq (congrArg St (by rw [hr]; rfl)) (int_eq (by rw [hr]; rfl)))
 clear H A
 rintro A w12 ⟨x, c, H, hx13, hzl270, hE, hx9⟩
 have hzhx13 := hx13.size
 revert A; refine go ?_; intro A H
 refine wc H cb141 (c_spec_l01Number _ x ge ge) ?_
 clear H A; rintro v272 w273 he274 rfl A H
 obtain ⟨hx276, _⟩ := nx hx13 he274
 revert A; refine go ?_; intro A H
 refine ret2 H rfl rfl rfl ?_
 clear H A
 exact ret_mk hx276 (tup2_eq (congrArg St (by rw [hE]; rfl)) (int_eq (by rw [hE]; rfl)))




end Go.Proofs.YthbehhhblchhhaaGreat
