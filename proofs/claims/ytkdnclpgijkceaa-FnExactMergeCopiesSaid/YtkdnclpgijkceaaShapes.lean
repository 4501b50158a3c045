/- The shapes of this seat's data. Printed by a program of our own. -/
import Derived.Test.YtkdnclpgijkceaaTypes
namespace Go.Proofs.Ytkdnclpgijkceaa
open Go Go.RowKit
def shRec : Shp (Int × Str) := shPair shI64 shStr
theorem pos_shRec : 0 < shRec.sz := by decide
theorem flat_shRec : Flat shRec := fun _ _ _ _ _ _ h => h
theorem inv_shRec {w : World} {S : Nat → Prop} {c : List Value} {x : Int × Str} (h : shRec.rep w S c x) : c = [.int .i64 x.1, St x.2] ∧ I64 x.1 ∧ x.2.length ≤ 9223372036854775807 := by
  obtain ⟨_, _, rfl, ⟨rfl, h0⟩, ⟨rfl, h1⟩⟩ := h
  exact ⟨rfl, h0, h1⟩
theorem mk_shRec {w : World} {S : Nat → Prop} (x : Int × Str) (h0 : I64 x.1) (h1 : x.2.length ≤ 9223372036854775807) : shRec.rep w S [.int .i64 x.1, St x.2] x := ⟨_, _, rfl, ⟨rfl, h0⟩, ⟨rfl, h1⟩⟩
theorem zero_shRec (w : World) : shRec.rep w (fun _ => False) (Value.agg #[.int .i64 0, St []]).cells.toList ((0, []) : Int × Str) := mk_shRec ((0, []) : Int × Str) (by decide) (by decide)
end Go.Proofs.Ytkdnclpgijkceaa
