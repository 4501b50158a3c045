/- From a walk to a given statement: what the row's reading of an argument says in the words of our shapes. -/
import Derived.Test.YthbehhhblchhhaaGreatMem
import Derived.Test.YthbehhhblchhhaaGreatRows
import Derived.ProofKit
import Derived.OpenShut
import Derived.ShutString
import Derived.ChangeOld
import Derived.Deep.Slices
namespace Go.Proofs.YthbehhhblchhhaaGreat
open Go Go.RowKit Go.ChangeShapes Go.WideShapes Go.ChangeAt Go.Deep

section
variable {P : Program} {α : Type}

/-- Whatever reads at type T reads in the shape s. -/
def Fit (P : Program) (T : TypeId) (s : Shp α) : Prop :=
  ∀ (H : Type) (enc : TypeId × Value → H) (w : World) (base : Nat) (spare : Nat → Bool) (held : Bool) (fuel : Nat) (cs : List Value) (x : DataW H × List MemPlace), DataW.trod enc P w base spare held fuel T cs = some x → ∃ d, s.rep w (fun _ => True) cs d

theorem fit_i64 {T : TypeId} (hT : P.underlying T = some (.int .i64)) : Fit P T shI64 := by
  intro H enc w base spare held fuel cs x h
  obtain ⟨n, rfl, _, hw⟩ := DataW.trod_int hT h
  refine ⟨n, rfl, ?_⟩
  have h1 : IntKind.i64.min = -9223372036854775808 := rfl
  have h2 : IntKind.i64.max = 9223372036854775807 := rfl
  simp only [Lit.wf, Bool.and_eq_true, decide_eq_true_eq] at hw
  unfold I64
  omega
theorem fit_u8 {T : TypeId} (hT : P.underlying T = some (.int .u8)) : Fit P T shU8 := by
  intro H enc w base spare held fuel cs x h
  obtain ⟨n, rfl, _, hw⟩ := DataW.trod_int hT h
  have h1 : IntKind.u8.min = 0 := rfl
  have h2 : IntKind.u8.max = 255 := rfl
  simp only [Lit.wf, Bool.and_eq_true, decide_eq_true_eq] at hw
  refine ⟨UInt8.ofNat n.toNat, ?_⟩
  show [Value.int .u8 n] = [Value.int .u8 ((UInt8.ofNat n.toNat).toNat : Int)]
  have : ((UInt8.ofNat n.toNat).toNat : Int) = n := by
    rw [UInt8.toNat_ofNat']; omega
  rw [this]
theorem fit_bool {T : TypeId} (hT : P.underlying T = some .bool) : Fit P T shBool := by
  intro H enc w base spare held fuel cs x h
  obtain ⟨b, rfl, _⟩ := DataW.trod_bool hT h
  exact ⟨b, rfl⟩
theorem fit_str {T : TypeId} (hT : P.underlying T = some .string) : Fit P T shStr := by
  intro H enc w base spare held fuel cs x h
  obtain ⟨s, rfl, _, hw⟩ := DataW.trod_string hT h
  obtain ⟨⟨l⟩⟩ := s
  refine ⟨l, rfl, ?_⟩
  unfold maxLen at hw
  have : (ByteArray.mk ⟨l⟩).size = l.length := sizeSt l
  omega

theorem els_range {s : Shp α} {w : World} {S : Nat → Prop} {a : Addr} : ∀ n : Nat, (∀ i, i < n → ∃ cs d, CellsAt w (a.add (i * s.sz)) cs ∧ s.rep w S cs d) →
    ∃ cs xs, xs.length = n ∧ cs.length = n * s.sz ∧ CellsAt w a cs ∧ Els s w S cs xs
  | 0, _ => ⟨[], [], rfl, by simp, fun j u h => by simp at h, rfl⟩
  | n + 1, h => by
    obtain ⟨cs, xs, h1, h2, h3, h4⟩ := els_range n fun i hi => h i (by omega)
    obtain ⟨c, d, h5, h6⟩ := h n (by omega)
    have hl := s.len h6
    refine ⟨cs ++ c, xs ++ [d], by simp [h1], by rw [List.length_append, h2, hl, Nat.add_mul, Nat.one_mul], fun j u hu => ?_, h4.append (Els.single h6)⟩
    rw [List.getElem?_append] at hu
    split at hu
    · exact h3 j u hu
    · rename_i hj
      have := h5 _ u hu
      rw [add_add] at this
      have e : n * s.sz + (j - cs.length) = j := by rw [← h2]; omega
      rwa [e] at this
theorem cellsAt_of_cells? {w : World} {base n : Nat} {p : Addr} {cs : List Value} (h : w.cells? base p n = some cs) : CellsAt w p cs ∧ cs.length = n := by
  obtain ⟨_, hl, hat⟩ := World.cells?_some h
  refine ⟨fun j u hu => ?_, hl⟩
  have hj : j < cs.length := (List.getElem?_eq_some_iff.1 hu).1
  exact (hat j (by omega)).trans hu
theorem fit_slice {T e : TypeId} {s : Shp α} (hp : 0 < s.sz) (hT : P.underlying T = some (.slice e)) (hC : P.cellsOf e = s.sz) (hE : Fit P e s) : Fit P T (shSl s hp) := by
  intro H enc w base spare held fuel cs x h
  rcases open_slice hT h with ⟨rfl, _⟩ | ⟨a, len, cap, m, n, D, Pl, rfl, _, hl, hm, hmm, _, hi⟩
  · exact ⟨[], _, rfl, Rds.nil _ _ _⟩
  · have hlm : len ≤ m := by rw [hmm]; split <;> omega
    obtain ⟨cl, xs, h1, h2, h3, h4⟩ := els_range (s := s) (w := w) (S := fun _ => True) (a := a) len fun i hil => by
      obtain ⟨c, hc, ht⟩ := hi i (by omega)
      rw [hC] at hc
      obtain ⟨d, hd⟩ := hE _ _ _ _ _ _ _ _ _ ht
      exact ⟨c, d, (cellsAt_of_cells? hc).1, hd⟩
    refine ⟨xs, _, rfl, cl, ⟨by rw [h2, h1], some a, cap, by rw [h1], by omega, hm, fun _ => ⟨a, rfl, trivial, h3⟩⟩, h4⟩

theorem fit_field {fs : Array Field} {s : Shp α} {H : Type} {enc : TypeId × Value → H} {w : World} {base : Nat} {spare : Nat → Bool} {held : Bool} {cs : List Value} {xs : List (DataW H × List MemPlace)} {n i : Nat} {f : Field}
    (hl : xs.length = fs.size) (hf : ∀ (i : Nat) (f : Field), fs[i]? = some f → DataW.trod enc P w base spare held n f.type ((cs.drop f.offset).take (P.cellsOf f.type)) = xs[i]?)
    (hi : fs[i]? = some f) (hC : P.cellsOf f.type = s.sz) (hE : Fit P f.type s) : ∃ d, s.rep w (fun _ => True) ((cs.drop f.offset).take s.sz) d := by
  have h := hf i f hi
  have hlt : i < xs.length := by rw [hl]; exact (Array.getElem?_eq_some_iff.1 hi).1
  rw [List.getElem?_eq_getElem hlt, hC] at h
  exact hE _ _ _ _ _ _ _ _ _ h
variable {β γ δ ε : Type}
theorem fit_struct2 {T : TypeId} {f0 f1 : Field} {s0 : Shp α} {s1 : Shp β} (hT : P.underlying T = some (.struct #[f0, f1])) (hC : P.cellsOf T = s0.sz + s1.sz) (o0 : f0.offset = 0) (o1 : f1.offset = s0.sz)
    (c0 : P.cellsOf f0.type = s0.sz) (c1 : P.cellsOf f1.type = s1.sz) (h0 : Fit P f0.type s0) (h1 : Fit P f1.type s1) : Fit P T (shPair s0 s1) := by
  intro H enc w base spare held fuel cs x h
  obtain ⟨xs, n, _, _, hcl, hl, hf⟩ := DataW.trod_struct hT h
  obtain ⟨d0, r0⟩ := fit_field (i := 0) (f := f0) hl hf rfl c0 h0
  obtain ⟨d1, r1⟩ := fit_field (i := 1) (f := f1) hl hf rfl c1 h1
  rw [o0, List.drop_zero] at r0
  rw [o1, List.take_of_length_le (by rw [List.length_drop]; omega)] at r1
  exact ⟨(d0, d1), _, _, (List.take_append_drop s0.sz cs).symm, r0, r1⟩
theorem fit_struct3 {T : TypeId} {f0 f1 f2 : Field} {s0 : Shp α} {s1 : Shp β} {s2 : Shp γ} (hT : P.underlying T = some (.struct #[f0, f1, f2])) (hC : P.cellsOf T = s0.sz + (s1.sz + s2.sz)) (o0 : f0.offset = 0) (o1 : f1.offset = s0.sz) (o2 : f2.offset = s0.sz + s1.sz)
    (c0 : P.cellsOf f0.type = s0.sz) (c1 : P.cellsOf f1.type = s1.sz) (c2 : P.cellsOf f2.type = s2.sz) (h0 : Fit P f0.type s0) (h1 : Fit P f1.type s1) (h2 : Fit P f2.type s2) : Fit P T (shPair s0 (shPair s1 s2)) := by
  intro H enc w base spare held fuel cs x h
  obtain ⟨xs, n, _, _, hcl, hl, hf⟩ := DataW.trod_struct hT h
  obtain ⟨d0, r0⟩ := fit_field (i := 0) (f := f0) hl hf rfl c0 h0
  obtain ⟨d1, r1⟩ := fit_field (i := 1) (f := f1) hl hf rfl c1 h1
  obtain ⟨d2, r2⟩ := fit_field (i := 2) (f := f2) hl hf rfl c2 h2
  rw [o0, List.drop_zero] at r0
  rw [o1] at r1
  rw [o2, List.take_of_length_le (by rw [List.length_drop]; omega), ← List.drop_drop] at r2
  exact ⟨(d0, d1, d2), _, _, (List.take_append_drop s0.sz cs).symm, r0, _, _, (List.take_append_drop s1.sz (cs.drop s0.sz)).symm, r1, r2⟩
theorem fit_struct4 {T : TypeId} {f0 f1 f2 f3 : Field} {s0 : Shp α} {s1 : Shp β} {s2 : Shp γ} {s3 : Shp δ} (hT : P.underlying T = some (.struct #[f0, f1, f2, f3])) (hC : P.cellsOf T = s0.sz + (s1.sz + (s2.sz + s3.sz))) (o0 : f0.offset = 0) (o1 : f1.offset = s0.sz) (o2 : f2.offset = s0.sz + s1.sz) (o3 : f3.offset = s0.sz + s1.sz + s2.sz)
    (c0 : P.cellsOf f0.type = s0.sz) (c1 : P.cellsOf f1.type = s1.sz) (c2 : P.cellsOf f2.type = s2.sz) (c3 : P.cellsOf f3.type = s3.sz) (h0 : Fit P f0.type s0) (h1 : Fit P f1.type s1) (h2 : Fit P f2.type s2) (h3 : Fit P f3.type s3) :
    Fit P T (shPair s0 (shPair s1 (shPair s2 s3))) := by
  intro H enc w base spare held fuel cs x h
  obtain ⟨xs, n, _, _, hcl, hl, hf⟩ := DataW.trod_struct hT h
  obtain ⟨d0, r0⟩ := fit_field (i := 0) (f := f0) hl hf rfl c0 h0
  obtain ⟨d1, r1⟩ := fit_field (i := 1) (f := f1) hl hf rfl c1 h1
  obtain ⟨d2, r2⟩ := fit_field (i := 2) (f := f2) hl hf rfl c2 h2
  obtain ⟨d3, r3⟩ := fit_field (i := 3) (f := f3) hl hf rfl c3 h3
  rw [o0, List.drop_zero] at r0
  rw [o1] at r1
  rw [o2, ← List.drop_drop] at r2
  rw [o3, List.take_of_length_le (by rw [List.length_drop]; omega), ← List.drop_drop, ← List.drop_drop] at r3
  exact ⟨(d0, d1, d2, d3), _, _, (List.take_append_drop s0.sz cs).symm, r0, _, _, (List.take_append_drop s1.sz (cs.drop s0.sz)).symm, r1, _, _, (List.take_append_drop s2.sz _).symm, r2, r3⟩
theorem fit_struct5 {T : TypeId} {f0 f1 f2 f3 f4 : Field} {s0 : Shp α} {s1 : Shp β} {s2 : Shp γ} {s3 : Shp δ} {s4 : Shp ε} (hT : P.underlying T = some (.struct #[f0, f1, f2, f3, f4])) (hC : P.cellsOf T = s0.sz + (s1.sz + (s2.sz + (s3.sz + s4.sz)))) (o0 : f0.offset = 0) (o1 : f1.offset = s0.sz) (o2 : f2.offset = s0.sz + s1.sz) (o3 : f3.offset = s0.sz + s1.sz + s2.sz) (o4 : f4.offset = s0.sz + s1.sz + s2.sz + s3.sz)
    (c0 : P.cellsOf f0.type = s0.sz) (c1 : P.cellsOf f1.type = s1.sz) (c2 : P.cellsOf f2.type = s2.sz) (c3 : P.cellsOf f3.type = s3.sz) (c4 : P.cellsOf f4.type = s4.sz) (h0 : Fit P f0.type s0) (h1 : Fit P f1.type s1) (h2 : Fit P f2.type s2) (h3 : Fit P f3.type s3) (h4 : Fit P f4.type s4) :
    Fit P T (shPair s0 (shPair s1 (shPair s2 (shPair s3 s4)))) := by
  intro H enc w base spare held fuel cs x h
  obtain ⟨xs, n, _, _, hcl, hl, hf⟩ := DataW.trod_struct hT h
  obtain ⟨d0, r0⟩ := fit_field (i := 0) (f := f0) hl hf rfl c0 h0
  obtain ⟨d1, r1⟩ := fit_field (i := 1) (f := f1) hl hf rfl c1 h1
  obtain ⟨d2, r2⟩ := fit_field (i := 2) (f := f2) hl hf rfl c2 h2
  obtain ⟨d3, r3⟩ := fit_field (i := 3) (f := f3) hl hf rfl c3 h3
  obtain ⟨d4, r4⟩ := fit_field (i := 4) (f := f4) hl hf rfl c4 h4
  rw [o0, List.drop_zero] at r0
  rw [o1] at r1
  rw [o2, ← List.drop_drop] at r2
  rw [o3, ← List.drop_drop, ← List.drop_drop] at r3
  rw [o4, List.take_of_length_le (by rw [List.length_drop]; omega), ← List.drop_drop, ← List.drop_drop, ← List.drop_drop] at r4
  exact ⟨(d0, d1, d2, d3, d4), _, _, (List.take_append_drop s0.sz cs).symm, r0, _, _, (List.take_append_drop s1.sz (cs.drop s0.sz)).symm, r1, _, _, (List.take_append_drop s2.sz _).symm, r2, _, _, (List.take_append_drop s3.sz _).symm, r3, r4⟩

/-- A slice that came in. -/
theorem rds_of_trod {T e : TypeId} {s : Shp α} (hp : 0 < s.sz) (hT : P.underlying T = some (.slice e)) (hF : Fit P T (shSl s hp)) {r : Reach} {b0 : Nat} {H : Type} {enc : TypeId × Value → H} {w : World} {base : Nat} {spare : Nat → Bool} {held : Bool} {v : Value} {d : DataW H} {p : List MemPlace}
    (hv : Value.okWide P w r b0 T v) (h : DataW.Trod enc P w base spare held T v d p) : ∃ xs, Rds s (fun _ => True) w v xs := by
  obtain ⟨A, n, c, rfl⟩ := okWide_slice hT hv
  obtain ⟨fuel, hf⟩ := h
  obtain ⟨xs, v', e1, h1⟩ := hF _ _ _ _ _ _ _ _ _ hf
  simp [Value.cells] at e1
  subst e1
  exact ⟨xs, h1⟩
/-- A struct that came in. -/
theorem agg_of_trod {T : TypeId} {fs : Array Field} {s : Shp α} (hT : P.underlying T = some (.struct fs)) (hF : Fit P T s) {r : Reach} {b0 : Nat} {H : Type} {enc : TypeId × Value → H} {w : World} {base : Nat} {spare : Nat → Bool} {held : Bool} {v : Value} {d : DataW H} {p : List MemPlace}
    (hv : Value.okWide P w r b0 T v) (h : DataW.Trod enc P w base spare held T v d p) : ∃ cs x, v = .agg (List.toArray cs) ∧ s.rep w (fun _ => True) cs x := by
  obtain ⟨cs, rfl, _⟩ := okWide_struct hT hv
  obtain ⟨fuel, hf⟩ := h
  obtain ⟨x, h1⟩ := hF _ _ _ _ _ _ _ _ _ hf
  exact ⟨cs.toList, x, by simp, h1⟩
theorem str_of_trod {T : TypeId} (hT : P.underlying T = some .string) {r : Reach} {b0 : Nat} {H : Type} {enc : TypeId × Value → H} {w : World} {base : Nat} {spare : Nat → Bool} {held : Bool} {v : Value} {d : DataW H} {p : List MemPlace}
    (hv : Value.okWide P w r b0 T v) (h : DataW.Trod enc P w base spare held T v d p) : ∃ s : Str, v = St s ∧ s.length ≤ 9223372036854775807 := by
  obtain ⟨s, rfl⟩ := okWide_string hT hv
  obtain ⟨fuel, hf⟩ := h
  obtain ⟨x, h1, h2⟩ := fit_str hT _ _ _ _ _ _ _ _ _ hf
  simp [Value.cells] at h1
  exact ⟨x, by rw [h1], h2⟩
theorem int_of_trod {T : TypeId} (hT : P.underlying T = some (.int .i64)) {r : Reach} {b0 : Nat} {H : Type} {enc : TypeId × Value → H} {w : World} {base : Nat} {spare : Nat → Bool} {held : Bool} {v : Value} {d : DataW H} {p : List MemPlace}
    (hv : Value.okWide P w r b0 T v) (h : DataW.Trod enc P w base spare held T v d p) : ∃ n : Int, v = .int .i64 n ∧ I64 n := by
  obtain ⟨n, rfl⟩ := okWide_int hT hv
  obtain ⟨fuel, hf⟩ := h
  obtain ⟨x, h1, h2⟩ := fit_i64 hT _ _ _ _ _ _ _ _ _ hf
  simp [Value.cells] at h1
  subst h1
  exact ⟨n, rfl, h2⟩
end
end Go.Proofs.YthbehhhblchhhaaGreat
