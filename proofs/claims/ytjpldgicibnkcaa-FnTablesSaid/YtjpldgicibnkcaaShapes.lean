/- The shapes of this seat's data. Printed by a program of our own. -/
import Derived.Test.YtjpldgicibnkcaaTypes
import Derived.Test.YtjpldgicibnkcaaDraw
namespace Go.Proofs.Ytjpldgicibnkcaa
open Go Go.RowKit
def shRow : Shp (List Int) := shSl shI64 pos_shI64
theorem pos_shRow : 0 < shRow.sz := by decide
theorem inv_shRow {w : World} {S : Nat → Prop} {c : List Value} {x : List Int} (h : shRow.rep w S c x) : ∃ v0, c = [v0] ∧ Rds shI64 S w v0 x := h
def shRowN : Shp ((List Int) × Value) where
  sz := 1
  rep _ _ c x := c = [x.2] ∧ x.2.oneCell' = true
  len h := by rw [h.1]; rfl
  one := by rintro w S c x ⟨rfl, h⟩ u hu; simp only [List.mem_cons, List.mem_nil_iff, or_false] at hu; subst hu; exact h
  keep h _ := h
theorem pos_shRowN : 0 < shRowN.sz := by decide
theorem flat_shRowN : Flat shRowN := fun _ _ _ _ _ _ h => h
theorem inv_shRowN {w : World} {S : Nat → Prop} {c : List Value} {x : (List Int) × Value} (h : shRowN.rep w S c x) : c = [x.2] ∧ x.2.oneCell' = true := h
theorem mk_shRowN {w : World} {S : Nat → Prop} (x : (List Int) × Value) (h0 : x.2.oneCell' = true) : shRowN.rep w S [x.2] x := ⟨rfl, h0⟩
theorem zero_shRowN (w : World) : shRowN.rep w (fun _ => False) (Value.slice none 0 0).cells.toList ((([]) : List Int), (.slice none 0 0 : Value)) := ⟨rfl, rfl⟩
theorem cv_shRowN {w : World} {S : Nat → Prop} {c : List Value} {x : (List Int) × Value} {lo hi : Nat} {et : TypeId} (h : shRowN.rep w S c x) (ho : Own shI64 et lo lo hi w x.2 x.1) : shRow.rep w (Iv lo hi) c x.1 := by
  obtain ⟨rfl, h0⟩ := h
  have hr := ho.rds pos_shI64
  rw [Nat.min_self] at hr
  exact ⟨_, rfl, hr⟩
theorem rds_shRowN {e et : TypeId} {lo hi : Nat} {w : World} {v : Value} {zs : List ((List Int) × Value)} (ho : Own shRowN e lo lo hi w v zs) (hn : Nst shI64 et (fun x : List Int => x) lo hi w zs) : Rds shRow (Iv lo hi) w v (zs.map (·.1)) :=
  own_rds pos_shRowN rfl ho (fun _ h => h) fun S c z h hz => cv_shRowN h (hn.1 z hz)
def shTab : Shp (List Str × List (List Int)) := shPair (shSl shStr pos_shStr) (shSl shRow pos_shRow)
theorem pos_shTab : 0 < shTab.sz := by decide
theorem inv_shTab {w : World} {S : Nat → Prop} {c : List Value} {x : List Str × List (List Int)} (h : shTab.rep w S c x) : ∃ v0 v1, c = [v0, v1] ∧ Rds shStr S w v0 x.1 ∧ Rds shRow S w v1 x.2 := by
  obtain ⟨_, _, rfl, ⟨v0, rfl, h0⟩, ⟨v1, rfl, h1⟩⟩ := h
  exact ⟨v0, v1, rfl, h0, h1⟩
theorem mk_shTab {w : World} {S : Nat → Prop} {v0 v1 : Value} (x : List Str × List (List Int)) (h0 : Rds shStr S w v0 x.1) (h1 : Rds shRow S w v1 x.2) : shTab.rep w S [v0, v1] x := ⟨_, _, rfl, ⟨v0, rfl, h0⟩, ⟨v1, rfl, h1⟩⟩
theorem zero_shTab (w : World) : shTab.rep w (fun _ => False) (Value.agg #[.slice none 0 0, .slice none 0 0]).cells.toList (([], []) : List Str × List (List Int)) := mk_shTab (([], []) : List Str × List (List Int)) (Rds.nil _ _ _) (Rds.nil _ _ _)
end Go.Proofs.Ytjpldgicibnkcaa
