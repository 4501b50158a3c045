/- The shapes of this seat's data. Printed by a program of our own. -/
import Derived.Test.YtocedhbefdaefaaTypes
import Derived.Test.YtocedhbefdaefaaEq
import Derived.Test.YtocedhbefdaefaaDraw
namespace Go.Proofs.Ytocedhbefdaefaa
open Go Go.RowKit
def shEnt : Shp (Int × Int × Str × Int) := shPair shI64 (shPair shI64 (shPair shStr shI64))
theorem pos_shEnt : 0 < shEnt.sz := by decide
theorem flat_shEnt : Flat shEnt := fun _ _ _ _ _ _ h => h
theorem inv_shEnt {w : World} {S : Nat → Prop} {c : List Value} {x : Int × Int × Str × Int} (h : shEnt.rep w S c x) : c = [.int .i64 x.1, .int .i64 x.2.1, St x.2.2.1, .int .i64 x.2.2.2] ∧ I64 x.1 ∧ I64 x.2.1 ∧ x.2.2.1.length ≤ 9223372036854775807 ∧ I64 x.2.2.2 := by
  obtain ⟨_, _, rfl, ⟨rfl, h0⟩, ⟨_, _, rfl, ⟨rfl, h1⟩, ⟨_, _, rfl, ⟨rfl, h2⟩, ⟨rfl, h3⟩⟩⟩⟩ := h
  exact ⟨rfl, h0, h1, h2, h3⟩
theorem mk_shEnt {w : World} {S : Nat → Prop} (x : Int × Int × Str × Int) (h0 : I64 x.1) (h1 : I64 x.2.1) (h2 : x.2.2.1.length ≤ 9223372036854775807) (h3 : I64 x.2.2.2) : shEnt.rep w S [.int .i64 x.1, .int .i64 x.2.1, St x.2.2.1, .int .i64 x.2.2.2] x := ⟨_, _, rfl, ⟨rfl, h0⟩, ⟨_, _, rfl, ⟨rfl, h1⟩, ⟨_, _, rfl, ⟨rfl, h2⟩, ⟨rfl, h3⟩⟩⟩⟩
theorem zero_shEnt (w : World) : shEnt.rep w (fun _ => False) (Value.agg #[.int .i64 0, .int .i64 0, St [], .int .i64 0]).cells.toList ((0, 0, [], 0) : Int × Int × Str × Int) := mk_shEnt ((0, 0, [], 0) : Int × Int × Str × Int) (by decide) (by decide) (by decide) (by decide)
theorem eg41 : Try.prog.eqGuardType Try.prog.depth 41 = false := by kernel_rfl
theorem fo41 : Try.prog.fieldsOf 41 = (#[{ name := "Day", type := 2, offset := 0, embedded := false, tag := "", pkgPath := "", byteOffset := 0 }, { name := "Kind", type := 2, offset := 1, embedded := false, tag := "", pkgPath := "", byteOffset := 8 }, { name := "Name", type := 9, offset := 2, embedded := false, tag := "", pkgPath := "", byteOffset := 16 }, { name := "Cents", type := 2, offset := 3, embedded := false, tag := "", pkgPath := "", byteOffset := 32 }] : Array Field) := by unfold Program.fieldsOf; rw [Try.underlying41]
theorem aeq41 (w : World) (x y : Int × Int × Str × Int) : (Op.equalIn 10000 41 (.agg #[.int .i64 x.1, .int .i64 x.2.1, St x.2.2.1, .int .i64 x.2.2.2]) (.agg #[.int .i64 y.1, .int .i64 y.2.1, St y.2.2.1, .int .i64 y.2.2.2])).run Try.prog w = .ok (decide (x = y)) w := by
  rw [run_equalIn_struct w 9999 41 _ _ (by rw [fo41]; exact Try.underlying41) (by kernel_rfl), fo41]
  refine (eqf_cons (by decide) (part_int Try.underlying2 rfl) (part_int Try.underlying2 rfl) (eqi_int Try.underlying2) (eqf_cons (by decide) (part_int Try.underlying2 rfl) (part_int Try.underlying2 rfl) (eqi_int Try.underlying2) (eqf_cons (by decide) (part_str Try.underlying9 rfl) (part_str Try.underlying9 rfl) (eqi_str Try.underlying9) (eqf_cons (by decide) (part_int Try.underlying2 rfl) (part_int Try.underlying2 rfl) (eqi_int Try.underlying2) eqf_nil)))).trans ?_
  congr 1; rw [Bool.eq_iff_iff]; simp [Prod.ext_iff]
end Go.Proofs.Ytocedhbefdaefaa
