/- The shapes of this seat's data. Printed by a program of our own. -/
import Derived.Test.YtllpdkidaldkiaaTypes
import Derived.Test.YtllpdkidaldkiaaEq
import Derived.Test.YtllpdkidaldkiaaDraw
namespace Go.Proofs.Ytllpdkidaldkiaa
open Go Go.RowKit
def shLine : Shp (Str × Int) := shPair shStr shI64
theorem pos_shLine : 0 < shLine.sz := by decide
theorem flat_shLine : Flat shLine := fun _ _ _ _ _ _ h => h
theorem inv_shLine {w : World} {S : Nat → Prop} {c : List Value} {x : Str × Int} (h : shLine.rep w S c x) : c = [St x.1, .int .i64 x.2] ∧ x.1.length ≤ 9223372036854775807 ∧ I64 x.2 := by
  obtain ⟨_, _, rfl, ⟨rfl, h0⟩, ⟨rfl, h1⟩⟩ := h
  exact ⟨rfl, h0, h1⟩
theorem mk_shLine {w : World} {S : Nat → Prop} (x : Str × Int) (h0 : x.1.length ≤ 9223372036854775807) (h1 : I64 x.2) : shLine.rep w S [St x.1, .int .i64 x.2] x := ⟨_, _, rfl, ⟨rfl, h0⟩, ⟨rfl, h1⟩⟩
theorem zero_shLine (w : World) : shLine.rep w (fun _ => False) (Value.agg #[St [], .int .i64 0]).cells.toList (([], 0) : Str × Int) := mk_shLine (([], 0) : Str × Int) (by decide) (by decide)
def shVer : Shp (Int × List (Str × Int)) := shPair shI64 (shSl shLine pos_shLine)
theorem pos_shVer : 0 < shVer.sz := by decide
theorem inv_shVer {w : World} {S : Nat → Prop} {c : List Value} {x : Int × List (Str × Int)} (h : shVer.rep w S c x) : ∃ v1, c = [.int .i64 x.1, v1] ∧ I64 x.1 ∧ Rds shLine S w v1 x.2 := by
  obtain ⟨_, _, rfl, ⟨rfl, h0⟩, ⟨v1, rfl, h1⟩⟩ := h
  exact ⟨v1, rfl, h0, h1⟩
theorem mk_shVer {w : World} {S : Nat → Prop} {v1 : Value} (x : Int × List (Str × Int)) (h0 : I64 x.1) (h1 : Rds shLine S w v1 x.2) : shVer.rep w S [.int .i64 x.1, v1] x := ⟨_, _, rfl, ⟨rfl, h0⟩, ⟨v1, rfl, h1⟩⟩
theorem zero_shVer (w : World) : shVer.rep w (fun _ => False) (Value.agg #[.int .i64 0, .slice none 0 0]).cells.toList ((0, []) : Int × List (Str × Int)) := mk_shVer ((0, []) : Int × List (Str × Int)) (by decide) (Rds.nil _ _ _)
def shVerN : Shp ((Int × List (Str × Int)) × Value) where
  sz := 2
  rep _ _ c x := c = [.int .i64 x.1.1, x.2] ∧ I64 x.1.1 ∧ x.2.oneCell' = true
  len h := by rw [h.1]; rfl
  one := by rintro w S c x ⟨rfl, _, h⟩ u hu; simp only [List.mem_cons, List.mem_nil_iff, or_false] at hu; rcases hu with rfl | rfl <;> first | rfl | exact h
  keep h _ := h
theorem pos_shVerN : 0 < shVerN.sz := by decide
theorem flat_shVerN : Flat shVerN := fun _ _ _ _ _ _ h => h
theorem inv_shVerN {w : World} {S : Nat → Prop} {c : List Value} {x : (Int × List (Str × Int)) × Value} (h : shVerN.rep w S c x) : c = [.int .i64 x.1.1, x.2] ∧ I64 x.1.1 ∧ x.2.oneCell' = true := h
theorem mk_shVerN {w : World} {S : Nat → Prop} (x : (Int × List (Str × Int)) × Value) (h0 : I64 x.1.1) (h1 : x.2.oneCell' = true) : shVerN.rep w S [.int .i64 x.1.1, x.2] x := ⟨rfl, h0, h1⟩
theorem zero_shVerN (w : World) : shVerN.rep w (fun _ => False) (Value.agg #[.int .i64 0, .slice none 0 0]).cells.toList (((0, []) : Int × List (Str × Int)), (.slice none 0 0 : Value)) := ⟨rfl, (by decide), rfl⟩
theorem cv_shVerN {w : World} {S : Nat → Prop} {c : List Value} {x : (Int × List (Str × Int)) × Value} {lo hi : Nat} {et : TypeId} (h : shVerN.rep w S c x) (ho : Own shLine et lo lo hi w x.2 x.1.2) : shVer.rep w (Iv lo hi) c x.1 := by
  obtain ⟨rfl, h0, h1⟩ := h
  have hr := ho.rds pos_shLine
  rw [Nat.min_self] at hr
  exact mk_shVer x.1 h0 hr
theorem rds_shVerN {e et : TypeId} {lo hi : Nat} {w : World} {v : Value} {zs : List ((Int × List (Str × Int)) × Value)} (ho : Own shVerN e lo lo hi w v zs) (hn : Nst shLine et (fun x : Int × List (Str × Int) => x.2) lo hi w zs) : Rds shVer (Iv lo hi) w v (zs.map (·.1)) :=
  own_rds pos_shVerN rfl ho (fun _ h => h) fun S c z h hz => cv_shVerN h (hn.1 z hz)
def shLns : Shp (List (Str × Int)) := shSl shLine pos_shLine
theorem pos_shLns : 0 < shLns.sz := by decide
theorem inv_shLns {w : World} {S : Nat → Prop} {c : List Value} {x : List (Str × Int)} (h : shLns.rep w S c x) : ∃ v0, c = [v0] ∧ Rds shLine S w v0 x := h
def shLnsN : Shp ((List (Str × Int)) × Value) where
  sz := 1
  rep _ _ c x := c = [x.2] ∧ x.2.oneCell' = true
  len h := by rw [h.1]; rfl
  one := by rintro w S c x ⟨rfl, h⟩ u hu; simp only [List.mem_cons, List.mem_nil_iff, or_false] at hu; subst hu; exact h
  keep h _ := h
theorem pos_shLnsN : 0 < shLnsN.sz := by decide
theorem flat_shLnsN : Flat shLnsN := fun _ _ _ _ _ _ h => h
theorem inv_shLnsN {w : World} {S : Nat → Prop} {c : List Value} {x : (List (Str × Int)) × Value} (h : shLnsN.rep w S c x) : c = [x.2] ∧ x.2.oneCell' = true := h
theorem mk_shLnsN {w : World} {S : Nat → Prop} (x : (List (Str × Int)) × Value) (h0 : x.2.oneCell' = true) : shLnsN.rep w S [x.2] x := ⟨rfl, h0⟩
theorem zero_shLnsN (w : World) : shLnsN.rep w (fun _ => False) (Value.slice none 0 0).cells.toList ((([]) : List (Str × Int)), (.slice none 0 0 : Value)) := ⟨rfl, rfl⟩
theorem cv_shLnsN {w : World} {S : Nat → Prop} {c : List Value} {x : (List (Str × Int)) × Value} {lo hi : Nat} {et : TypeId} (h : shLnsN.rep w S c x) (ho : Own shLine et lo lo hi w x.2 x.1) : shLns.rep w (Iv lo hi) c x.1 := by
  obtain ⟨rfl, h0⟩ := h
  have hr := ho.rds pos_shLine
  rw [Nat.min_self] at hr
  exact ⟨_, rfl, hr⟩
theorem rds_shLnsN {e et : TypeId} {lo hi : Nat} {w : World} {v : Value} {zs : List ((List (Str × Int)) × Value)} (ho : Own shLnsN e lo lo hi w v zs) (hn : Nst shLine et (fun x : List (Str × Int) => x) lo hi w zs) : Rds shLns (Iv lo hi) w v (zs.map (·.1)) :=
  own_rds pos_shLnsN rfl ho (fun _ h => h) fun S c z h hz => cv_shLnsN h (hn.1 z hz)
theorem eg83 : Try.prog.eqGuardType Try.prog.depth 83 = false := by kernel_rfl
theorem fo83 : Try.prog.fieldsOf 83 = (#[{ name := "Key", type := 9, offset := 0, embedded := false, tag := "", pkgPath := "", byteOffset := 0 }, { name := "Value", type := 2, offset := 1, embedded := false, tag := "", pkgPath := "", byteOffset := 16 }] : Array Field) := by unfold Program.fieldsOf; rw [Try.underlying83]
theorem aeq83 (w : World) (x y : Str × Int) : (Op.equalIn 10000 83 (.agg #[St x.1, .int .i64 x.2]) (.agg #[St y.1, .int .i64 y.2])).run Try.prog w = .ok (decide (x = y)) w := by
  rw [run_equalIn_struct w 9999 83 _ _ (by rw [fo83]; exact Try.underlying83) (by kernel_rfl), fo83]
  refine Eq.trans (eqf_cons (d := 9999) (xs := #[St x.1, .int .i64 x.2]) (ys := #[St y.1, .int .i64 y.2]) (f := { name := "Key", type := 9, offset := 0, embedded := false, tag := "", pkgPath := "", byteOffset := 0 }) (fs := [{ name := "Value", type := 2, offset := 1, embedded := false, tag := "", pkgPath := "", byteOffset := 16 }]) (p := St x.1) (q := St y.1) (by decide) (part_str Try.underlying9 rfl) (part_str Try.underlying9 rfl) (eqi_str (d := 9998) Try.underlying9) (eqf_cons (d := 9999) (xs := #[St x.1, .int .i64 x.2]) (ys := #[St y.1, .int .i64 y.2]) (f := { name := "Value", type := 2, offset := 1, embedded := false, tag := "", pkgPath := "", byteOffset := 16 }) (fs := []) (p := .int .i64 x.2) (q := .int .i64 y.2) (by decide) (part_int Try.underlying2 rfl) (part_int Try.underlying2 rfl) (eqi_int (d := 9998) Try.underlying2) eqf_nil)) ?_
  congr 1; rw [Bool.eq_iff_iff]; simp [Prod.ext_iff]
end Go.Proofs.Ytllpdkidaldkiaa
