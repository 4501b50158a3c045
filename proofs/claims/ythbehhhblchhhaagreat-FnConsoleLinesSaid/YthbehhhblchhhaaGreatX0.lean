/- What commands do, said in lists and numbers. -/
import Derived.Test.YthbehhhblchhhaaGreatK2
import Derived.Test.YthbehhhblchhhaaGreatS5
import Derived.Test.YthbehhhblchhhaaGreatS6
import Derived.Test.YthbehhhblchhhaaGreatP4
import Derived.Test.YthbehhhblchhhaaGreatB1
namespace Go.Proofs.YthbehhhblchhhaaGreat
open Go Go.RowKit
set_option maxHeartbeats 16000000

abbrev Dsk : Type := List Bin × List Prom × List Ent
def frI (xs : List Bin) (s : Str) : Int := if stC xs s 1 = 0 then (bnO xs s).2.1 - (bnO xs s).2.2.1 else 0
def wnI (xs : List Prom) (a : Int) : Int := if edC xs a = 0 then edS xs a else 0
def ktI (xs : List Prom) : Int := if prsB xs then ((kpL xs).length : Int) else 0
def csI (xs : List Ent) (a : Int) : Int := if codeD xs a = 0 then sumI (csE a) xs else 0
def owI (xs : List Ent) (s : Str) : Int := if dbB xs && wordB s then owS s xs else 0
/-- What a command gives: the desk, the output, a code. -/
def stR (d : Dsk) (xs : List Bin) (c : Int) : Dsk × Str × Int := if c = 0 then ((xs, d.2), [111, 107], 0) else (d, [], c)
def prR (d : Dsk) (xs : List Prom) (c : Int) : Dsk × Str × Int := if c = 0 then ((d.1, xs, d.2.2), [111, 107], 0) else (d, [], c)
def bkR (d : Dsk) (e : Ent) : Dsk × Str × Int := if addC d.2.2 e = 0 then ((d.1, d.2.1, addL d.2.2 e), [111, 107], 0) else (d, [], addC d.2.2 e)
def txR (d : Dsk) (t : Str) (c : Int) : Dsk × Str × Int := (d, t, c)
def tdR (d : Dsk) (x c : Int) : Dsk × Str × Int := (d, decS x, c)
def grR (d : Dsk) (a b : Int) : Dsk × Str × Int := if (1 ≤ a ∧ a ≤ 100) ∧ (1 ≤ b ∧ b ≤ 100) then tdR d (neI (1000 * a) b) 0 else txR d [] 2
def exW (w s : Str) (a b : Int) (d : Dsk) : Dsk × Str × Int :=
  if w = [98, 105, 110] then stR d (adL d.1 (s, 0, 0, a, b)) (adC d.1 (s, 0, 0, a, b)) else
  if w = [102, 105, 108, 108] then stR d (opL d.1 s (flC d.1 s a) a 0) (flC d.1 s a) else
  if w = [114, 101, 115, 101, 114, 118, 101] then stR d (opL d.1 s (rsC d.1 s a) 0 a) (rsC d.1 s a) else
  if w = [114, 101, 108, 101, 97, 115, 101] then stR d (opL d.1 s (rlC d.1 s a) 0 (0 - a)) (rlC d.1 s a) else
  if w = [117, 115, 101] then stR d (opL d.1 s (rlC d.1 s a) (0 - a) (0 - a)) (rlC d.1 s a) else
  if w = [102, 114, 101, 101] then tdR d (frI d.1 s) (stC d.1 s 1) else
  if w = [111, 114, 100, 101, 114] then txR d (orT d.1) 0 else
  if w = [112, 114, 111, 109, 105, 115, 101] then prR d (mkPL d.2.1 (s, a, b)) (mkPC d.2.1 (s, a, b)) else
  if w = [119, 104, 101, 110] then tdR d (wnI d.2.1 a) (edC d.2.1 a) else
  if w = [107, 101, 112, 116] then tdR d (ktI d.2.1) (if prsB d.2.1 then 0 else 1) else
  if w = [115, 97, 108, 101] then bkR d (a, 0, s, b) else
  if w = [112, 97, 121] then bkR d (a, 1, s, b) else
  if w = [98, 117, 121] then bkR d (a, 2, s, b) else
  if w = [99, 108, 111, 115, 101] then bkR d (a, 3, [], 0) else
  if w = [99, 97, 115, 104] then tdR d (csI d.2.2 a) (codeD d.2.2 a) else
  if w = [111, 119, 101, 115] then tdR d (owI d.2.2 s) (if dbB d.2.2 && wordB s then 0 else 1) else
  if w = [103, 101, 97, 114] then grR d a b else
  txR d (if isV a then meS a else []) (if isV a then 0 else 2)
def gw (ws : List Str) (k : Nat) : Str := (ws[k]?).getD []
def gn (ns : List Int) (k : Nat) : Int := (ns[k]?).getD 0
theorem gw_eq {ws : List Str} {k : Nat} {w : Str} (h : ws[k]? = some w) : gw ws k = w := by unfold gw; rw [h]; rfl
theorem gn_eq {ns : List Int} {k : Nat} {n : Int} (h : ns[k]? = some n) : gn ns k = n := by unfold gn; rw [h]; rfl
def exM (d : Dsk) (ws : List Str) (ns : List Int) : Dsk × Str × Int := exW (gw ws 0) (gw ws 1) (gn ns 0) (gn ns 1) d
theorem exM_bin {d : Dsk} {ws : List Str} {ns : List Int} {w s : Str} {a : Int} {b : Int} (h0 : ws[0]? = some w) (hc : w = [98, 105, 110]) (h1 : ws[1]? = some s) (ha : ns[0]? = some a) (hb : ns[1]? = some b) : exM d ws ns = stR d (adL d.1 (s, 0, 0, a, b)) (adC d.1 (s, 0, 0, a, b)) := by
  subst hc; unfold exM; rw [gw_eq h0, gw_eq h1, gn_eq ha, gn_eq hb]; unfold exW; rw [if_pos rfl]
theorem exM_fill {d : Dsk} {ws : List Str} {ns : List Int} {w s : Str} {a : Int} (h0 : ws[0]? = some w) (hc : w = [102, 105, 108, 108]) (h1 : ws[1]? = some s) (ha : ns[0]? = some a) : exM d ws ns = stR d (opL d.1 s (flC d.1 s a) a 0) (flC d.1 s a) := by
  subst hc; unfold exM; rw [gw_eq h0, gw_eq h1, gn_eq ha]; unfold exW; rw [if_neg (by decide), if_pos rfl]
theorem exM_reserve {d : Dsk} {ws : List Str} {ns : List Int} {w s : Str} {a : Int} (h0 : ws[0]? = some w) (hc : w = [114, 101, 115, 101, 114, 118, 101]) (h1 : ws[1]? = some s) (ha : ns[0]? = some a) : exM d ws ns = stR d (opL d.1 s (rsC d.1 s a) 0 a) (rsC d.1 s a) := by
  subst hc; unfold exM; rw [gw_eq h0, gw_eq h1, gn_eq ha]; unfold exW; rw [if_neg (by decide), if_neg (by decide), if_pos rfl]
theorem exM_release {d : Dsk} {ws : List Str} {ns : List Int} {w s : Str} {a : Int} (h0 : ws[0]? = some w) (hc : w = [114, 101, 108, 101, 97, 115, 101]) (h1 : ws[1]? = some s) (ha : ns[0]? = some a) : exM d ws ns = stR d (opL d.1 s (rlC d.1 s a) 0 (0 - a)) (rlC d.1 s a) := by
  subst hc; unfold exM; rw [gw_eq h0, gw_eq h1, gn_eq ha]; unfold exW; rw [if_neg (by decide), if_neg (by decide), if_neg (by decide), if_pos rfl]
theorem exM_use {d : Dsk} {ws : List Str} {ns : List Int} {w s : Str} {a : Int} (h0 : ws[0]? = some w) (hc : w = [117, 115, 101]) (h1 : ws[1]? = some s) (ha : ns[0]? = some a) : exM d ws ns = stR d (opL d.1 s (rlC d.1 s a) (0 - a) (0 - a)) (rlC d.1 s a) := by
  subst hc; unfold exM; rw [gw_eq h0, gw_eq h1, gn_eq ha]; unfold exW; rw [if_neg (by decide), if_neg (by decide), if_neg (by decide), if_neg (by decide), if_pos rfl]
theorem exM_free {d : Dsk} {ws : List Str} {ns : List Int} {w s : Str} (h0 : ws[0]? = some w) (hc : w = [102, 114, 101, 101]) (h1 : ws[1]? = some s) : exM d ws ns = tdR d (frI d.1 s) (stC d.1 s 1) := by
  subst hc; unfold exM; rw [gw_eq h0, gw_eq h1]; unfold exW; rw [if_neg (by decide), if_neg (by decide), if_neg (by decide), if_neg (by decide), if_neg (by decide), if_pos rfl]
theorem exM_order {d : Dsk} {ws : List Str} {ns : List Int} {w : Str} (h0 : ws[0]? = some w) (hc : w = [111, 114, 100, 101, 114]) : exM d ws ns = txR d (orT d.1) 0 := by
  subst hc; unfold exM; rw [gw_eq h0]; unfold exW; rw [if_neg (by decide), if_neg (by decide), if_neg (by decide), if_neg (by decide), if_neg (by decide), if_neg (by decide), if_pos rfl]
theorem exM_promise {d : Dsk} {ws : List Str} {ns : List Int} {w s : Str} {a : Int} {b : Int} (h0 : ws[0]? = some w) (hc : w = [112, 114, 111, 109, 105, 115, 101]) (h1 : ws[1]? = some s) (ha : ns[0]? = some a) (hb : ns[1]? = some b) : exM d ws ns = prR d (mkPL d.2.1 (s, a, b)) (mkPC d.2.1 (s, a, b)) := by
  subst hc; unfold exM; rw [gw_eq h0, gw_eq h1, gn_eq ha, gn_eq hb]; unfold exW; rw [if_neg (by decide), if_neg (by decide), if_neg (by decide), if_neg (by decide), if_neg (by decide), if_neg (by decide), if_neg (by decide), if_pos rfl]
theorem exM_when {d : Dsk} {ws : List Str} {ns : List Int} {w : Str} {a : Int} (h0 : ws[0]? = some w) (hc : w = [119, 104, 101, 110]) (ha : ns[0]? = some a) : exM d ws ns = tdR d (wnI d.2.1 a) (edC d.2.1 a) := by
  subst hc; unfold exM; rw [gw_eq h0, gn_eq ha]; unfold exW; rw [if_neg (by decide), if_neg (by decide), if_neg (by decide), if_neg (by decide), if_neg (by decide), if_neg (by decide), if_neg (by decide), if_neg (by decide), if_pos rfl]
theorem exM_kept {d : Dsk} {ws : List Str} {ns : List Int} {w : Str} (h0 : ws[0]? = some w) (hc : w = [107, 101, 112, 116]) : exM d ws ns = tdR d (ktI d.2.1) (if prsB d.2.1 then 0 else 1) := by
  subst hc; unfold exM; rw [gw_eq h0]; unfold exW; rw [if_neg (by decide), if_neg (by decide), if_neg (by decide), if_neg (by decide), if_neg (by decide), if_neg (by decide), if_neg (by decide), if_neg (by decide), if_neg (by decide), if_pos rfl]
theorem exM_sale {d : Dsk} {ws : List Str} {ns : List Int} {w s : Str} {a : Int} {b : Int} (h0 : ws[0]? = some w) (hc : w = [115, 97, 108, 101]) (h1 : ws[1]? = some s) (ha : ns[0]? = some a) (hb : ns[1]? = some b) : exM d ws ns = bkR d (a, 0, s, b) := by
  subst hc; unfold exM; rw [gw_eq h0, gw_eq h1, gn_eq ha, gn_eq hb]; unfold exW; rw [if_neg (by decide), if_neg (by decide), if_neg (by decide), if_neg (by decide), if_neg (by decide), if_neg (by decide), if_neg (by decide), if_neg (by decide), if_neg (by decide), if_neg (by decide), if_pos rfl]
theorem exM_pay {d : Dsk} {ws : List Str} {ns : List Int} {w s : Str} {a : Int} {b : Int} (h0 : ws[0]? = some w) (hc : w = [112, 97, 121]) (h1 : ws[1]? = some s) (ha : ns[0]? = some a) (hb : ns[1]? = some b) : exM d ws ns = bkR d (a, 1, s, b) := by
  subst hc; unfold exM; rw [gw_eq h0, gw_eq h1, gn_eq ha, gn_eq hb]; unfold exW; rw [if_neg (by decide), if_neg (by decide), if_neg (by decide), if_neg (by decide), if_neg (by decide), if_neg (by decide), if_neg (by decide), if_neg (by decide), if_neg (by decide), if_neg (by decide), if_neg (by decide), if_pos rfl]
theorem exM_buy {d : Dsk} {ws : List Str} {ns : List Int} {w s : Str} {a : Int} {b : Int} (h0 : ws[0]? = some w) (hc : w = [98, 117, 121]) (h1 : ws[1]? = some s) (ha : ns[0]? = some a) (hb : ns[1]? = some b) : exM d ws ns = bkR d (a, 2, s, b) := by
  subst hc; unfold exM; rw [gw_eq h0, gw_eq h1, gn_eq ha, gn_eq hb]; unfold exW; rw [if_neg (by decide), if_neg (by decide), if_neg (by decide), if_neg (by decide), if_neg (by decide), if_neg (by decide), if_neg (by decide), if_neg (by decide), if_neg (by decide), if_neg (by decide), if_neg (by decide), if_neg (by decide), if_pos rfl]
theorem exM_close {d : Dsk} {ws : List Str} {ns : List Int} {w : Str} {a : Int} (h0 : ws[0]? = some w) (hc : w = [99, 108, 111, 115, 101]) (ha : ns[0]? = some a) : exM d ws ns = bkR d (a, 3, [], 0) := by
  subst hc; unfold exM; rw [gw_eq h0, gn_eq ha]; unfold exW; rw [if_neg (by decide), if_neg (by decide), if_neg (by decide), if_neg (by decide), if_neg (by decide), if_neg (by decide), if_neg (by decide), if_neg (by decide), if_neg (by decide), if_neg (by decide), if_neg (by decide), if_neg (by decide), if_neg (by decide), if_pos rfl]
theorem exM_cash {d : Dsk} {ws : List Str} {ns : List Int} {w : Str} {a : Int} (h0 : ws[0]? = some w) (hc : w = [99, 97, 115, 104]) (ha : ns[0]? = some a) : exM d ws ns = tdR d (csI d.2.2 a) (codeD d.2.2 a) := by
  subst hc; unfold exM; rw [gw_eq h0, gn_eq ha]; unfold exW; rw [if_neg (by decide), if_neg (by decide), if_neg (by decide), if_neg (by decide), if_neg (by decide), if_neg (by decide), if_neg (by decide), if_neg (by decide), if_neg (by decide), if_neg (by decide), if_neg (by decide), if_neg (by decide), if_neg (by decide), if_neg (by decide), if_pos rfl]
theorem exM_owes {d : Dsk} {ws : List Str} {ns : List Int} {w s : Str} (h0 : ws[0]? = some w) (hc : w = [111, 119, 101, 115]) (h1 : ws[1]? = some s) : exM d ws ns = tdR d (owI d.2.2 s) (if dbB d.2.2 && wordB s then 0 else 1) := by
  subst hc; unfold exM; rw [gw_eq h0, gw_eq h1]; unfold exW; rw [if_neg (by decide), if_neg (by decide), if_neg (by decide), if_neg (by decide), if_neg (by decide), if_neg (by decide), if_neg (by decide), if_neg (by decide), if_neg (by decide), if_neg (by decide), if_neg (by decide), if_neg (by decide), if_neg (by decide), if_neg (by decide), if_neg (by decide), if_pos rfl]
theorem exM_gear {d : Dsk} {ws : List Str} {ns : List Int} {w : Str} {a : Int} {b : Int} (h0 : ws[0]? = some w) (hc : w = [103, 101, 97, 114]) (ha : ns[0]? = some a) (hb : ns[1]? = some b) : exM d ws ns = grR d a b := by
  subst hc; unfold exM; rw [gw_eq h0, gn_eq ha, gn_eq hb]; unfold exW; rw [if_neg (by decide), if_neg (by decide), if_neg (by decide), if_neg (by decide), if_neg (by decide), if_neg (by decide), if_neg (by decide), if_neg (by decide), if_neg (by decide), if_neg (by decide), if_neg (by decide), if_neg (by decide), if_neg (by decide), if_neg (by decide), if_neg (by decide), if_neg (by decide), if_pos rfl]
theorem exM_mm {d : Dsk} {ws : List Str} {ns : List Int} {w : Str} {a : Int} (h0 : ws[0]? = some w) (hc : w = [109, 109]) (ha : ns[0]? = some a) : exM d ws ns = txR d (if isV a then meS a else []) (if isV a then 0 else 2) := by
  subst hc; unfold exM; rw [gw_eq h0, gn_eq ha]; unfold exW; rw [if_neg (by decide), if_neg (by decide), if_neg (by decide), if_neg (by decide), if_neg (by decide), if_neg (by decide), if_neg (by decide), if_neg (by decide), if_neg (by decide), if_neg (by decide), if_neg (by decide), if_neg (by decide), if_neg (by decide), if_neg (by decide), if_neg (by decide), if_neg (by decide), if_neg (by decide)]
/-- Words and numbers of a command. -/
def cmOK (ws : List Str) (ns : List Int) : Prop := ∃ w l, ws[0]? = some w ∧ kdO w = some l ∧ ws.length = l.length + 1 ∧ ns.length = (l.filter fun b => !b).length ∧ (∀ x ∈ ns, 0 ≤ x ∧ x ≤ 10000000000000) ∧ ∀ s ∈ ws, s.length ≤ 1048576
theorem cm_pos {ws : List Str} {ns : List Int} (h : cmOK ws ns) : 1 ≤ ws.length := by obtain ⟨w, l, h1, h2, h3, _⟩ := h; omega
theorem cm_len {ws : List Str} {ns : List Int} {w : Str} {l : List Bool} (h : cmOK ws ns) (hw : ws[0]? = some w) (hl : kdO w = some l) : ws.length = l.length + 1 ∧ ns.length = (l.filter fun b => !b).length := by
  obtain ⟨w', l', h1, h2, h3, h4, _⟩ := h
  rw [hw] at h1; cases h1; rw [hl] at h2; cases h2; exact ⟨h3, h4⟩
theorem cm_some {ws : List Str} {ns : List Int} {w : Str} (h : cmOK ws ns) (hw : ws[0]? = some w) : (kdO w).isSome = true := by
  obtain ⟨w', l', h1, h2, _⟩ := h
  rw [hw] at h1; cases h1; rw [h2]; rfl
theorem cm_num {ws : List Str} {ns : List Int} (h : cmOK ws ns) {x : Int} (hx : x ∈ ns) : 0 ≤ x ∧ x ≤ 10000000000000 := by obtain ⟨_, _, _, _, _, _, h1, _⟩ := h; exact h1 x hx
theorem cm_str {ws : List Str} {ns : List Int} (h : cmOK ws ns) {x : Str} (hx : x ∈ ws) : x.length ≤ 1048576 := by obtain ⟨_, _, _, _, _, _, _, h1⟩ := h; exact h1 x hx
theorem nmO_all : ∀ {l : List Bool} {ws : List Str} {ns : List Int}, nmO l ws = some ns → ns.length = (l.filter fun b => !b).length ∧ ∀ x ∈ ns, 0 ≤ x ∧ x ≤ 10000000000000
  | [], _, ns, h => by
    rw [nmO] at h; cases h; exact ⟨rfl, fun x hx => by simp at hx⟩
  | _ :: _, [], _, h => by simp [nmO] at h
  | true :: l, _ :: ws, ns, h => by rw [nmO] at h; have := nmO_all h; simpa using this
  | false :: l, w :: ws, ns, h => by
    rw [nmO] at h; split at h
    · cases e : nmO l ws with
      | none => rw [e] at h; cases h
      | some ms =>
        rw [e] at h; cases h
        obtain ⟨h1, h2⟩ := nmO_all e
        refine ⟨by simp [h1], fun x hx => ?_⟩
        rcases List.mem_cons.1 hx with q | q
        · subst q; exact l01V_bd w
        · exact h2 x q
    · cases h
theorem spl_mem {b : UInt8} : ∀ {s cur x : Str}, x ∈ spl b cur s → x.length ≤ cur.length + s.length
  | [], cur, x, h => by simp [spl] at h; subst h; simp
  | c :: s, cur, x, h => by
    rw [spl] at h; split at h
    · rcases List.mem_cons.1 h with q | q
      · subst q; simp
      · have := spl_mem q; simp only [List.length_nil, List.length_cons] at this ⊢; omega
    · have := spl_mem h; simp only [List.length_append, List.length_cons, List.length_nil] at this ⊢; omega
theorem cm_of {line : Str} (h : (pcO line).isSome = true) (hl : line.length ≤ 1048576) : cmOK (pcW line) (pcN line) := by
  cases e : pcO line with
  | none => rw [e] at h; cases h
  | some ns =>
    obtain ⟨h1, h2⟩ := pcO_sm e
    rw [h1, h2]
    unfold pcO at e; split at e
    · cases e
    · rename_i w hw
      split at e
      · rename_i hk
        obtain ⟨h3, h4⟩ := nmO_all e
        cases ek : kdO w with
        | none => rw [ek] at hk; exact absurd hk.1 (by decide)
        | some l =>
          have hkl : kdL w = l := by unfold kdL; rw [ek]; rfl
          rw [hkl] at h3; rw [hkl] at hk
          exact ⟨w, l, hw, ek, hk.2, h3, h4, fun s hs => by have := spl_mem hs; simp only [List.length_nil] at this; omega⟩
      · cases e
/-- Small numbers. -/
theorem bd_fr {xs : List Bin} (h : stB xs = true) (s : Str) : -9000000000 ≤ frI xs s ∧ frI xs s ≤ 9000000000 := by
  unfold frI; split
  · rename_i h0
    obtain ⟨_, _, h3⟩ := stC_0 h0
    obtain ⟨b, hb, _⟩ := fnB_at h3
    have := stB_bd h hb; rw [bnO_eq hb]; omega
  · omega
theorem edG_bd {xs : List Prom} {m : Int} : ∀ {n : Nat} {d : Int}, d ≤ edG xs m n d ∧ edG xs m n d ≤ d + n
  | 0, d => by rw [edG]; omega
  | n + 1, d => by
    rw [edG]; split
    · have := edG_bd (xs := xs) (m := m) (n := n) (d := d + 1); omega
    · omega
theorem bd_wn (xs : List Prom) (a : Int) : -9000000000 ≤ wnI xs a ∧ wnI xs a ≤ 9000000000 := by
  unfold wnI edS; have := edG_bd (xs := xs) (m := a) (n := 1000) (d := 1); split <;> omega
theorem bd_kt {xs : List Prom} (h : xs.length ≤ 40) : -9000000000 ≤ ktI xs ∧ ktI xs ≤ 9000000000 := by
  unfold ktI; have := kpL_len xs; split <;> omega
theorem csE_bd {a : Int} {e : Ent} (h : entB e = true) : -10000000 ≤ csE a e ∧ csE a e ≤ 10000000 := by
  have := cashE_bd h; unfold csE; split <;> omega
theorem bd_cs {xs : List Ent} (h : dbB xs = true) (a : Int) : -9000000000 ≤ csI xs a ∧ csI xs a ≤ 9000000000 := by
  unfold csI; have h1 := dbB_len h; have h2 := sumI_bd (f := csE a) fun e he => csE_bd (a := a) (dbB_ent h e he); split <;> omega
theorem bd_ow {xs : List Ent} (h : dbB xs = true) (s : Str) : -9000000000 ≤ owI xs s ∧ owI xs s ≤ 9000000000 := by
  unfold owI; have h1 := dbB_len h; have h2 := owS_bd (n := s) (dbB_ent h); split <;> omega
theorem bd_gr {a b : Int} (ha : 1 ≤ a ∧ a ≤ 100) (hb : 1 ≤ b ∧ b ≤ 100) : -9000000000 ≤ neI (1000 * a) b ∧ neI (1000 * a) b ≤ 9000000000 := by
  unfold neI; have := ediv_bd (2 * (1000 * a) + b) (b := 2 * b) (by omega); omega
/-- What is known of a desk. -/
theorem desk_bd {d : Dsk} (h : deskB d = true) : stB d.1 = true ∧ prsB d.2.1 = true ∧ dbB d.2.2 = true ∧ d.1.length ≤ 20 ∧ d.2.1.length ≤ 40 ∧ d.2.2.length ≤ 60 := by
  unfold deskB at h; simp only [Bool.and_eq_true] at h
  exact ⟨h.1.1, h.1.2, h.2, stB_len h.1.1, prsB_len h.1.2, dbB_len h.2⟩
theorem desk_mk {d : Dsk} (h1 : stB d.1 = true) (h2 : prsB d.2.1 = true) (h3 : dbB d.2.2 = true) : deskB d = true := by unfold deskB; rw [h1, h2, h3]; rfl


end Go.Proofs.YthbehhhblchhhaaGreat
