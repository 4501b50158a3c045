/- The shapes of this seat's data. Printed by a program of our own. -/
import Derived.Test.YtocedhbefdaefaaTypes
namespace Go.Proofs.Ytocedhbefdaefaa
open Go Go.RowKit
def shEnt : Shp (Int × Int × Str × Int) := shPair shI64 (shPair shI64 (shPair shStr shI64))
theorem pos_shEnt : 0 < shEnt.sz := by decide
theorem flat_shEnt : Flat shEnt := fun _ _ _ _ _ _ h => h
theorem inv_shEnt {w : World} {S : Nat → Prop} {c : List Value} {x : Int × Int × Str × Int} (h : shEnt.rep w S c x) : c = [.int .i64 x.1, .int .i64 x.2.1, St x.2.2.1, .int .i64 x.2.2.2] ∧ I64 x.1 ∧ I64 x.2.1 ∧ x.2.2.1.length ≤ 9223372036854775807 ∧ I64 x.2.2.2 := by
  obtain ⟨_, _, rfl, ⟨rfl, h0⟩, ⟨_, _, rfl, ⟨rfl, h1⟩, ⟨_, _, rfl, ⟨rfl, h2⟩, ⟨rfl, h3⟩⟩⟩⟩ := h
  exact ⟨rfl, h0, h1, h2, h3⟩
theorem mk_shEnt {w : World} {S : Nat → Prop} (x : Int × Int × Str × Int) (h0 : I64 x.1) (h1 : I64 x.2.1) (h2 : x.2.2.1.length ≤ 9223372036854775807) (h3 : I64 x.2.2.2) : shEnt.rep w S [.int .i64 x.1, .int .i64 x.2.1, St x.2.2.1, .int .i64 x.2.2.2] x := ⟨_, _, rfl, ⟨rfl, h0⟩, ⟨_, _, rfl, ⟨rfl, h1⟩, ⟨_, _, rfl, ⟨rfl, h2⟩, ⟨rfl, h3⟩⟩⟩⟩
theorem zero_shEnt (w : World) : shEnt.rep w (fun _ => False) (Value.agg #[.int .i64 0, .int .i64 0, St [], .int .i64 0]).cells.toList ((0, 0, [], 0) : Int × Int × Str × Int) := mk_shEnt ((0, 0, [], 0) : Int × Int × Str × Int) (by decide) (by decide) (by decide) (by decide)
end Go.Proofs.Ytocedhbefdaefaa
