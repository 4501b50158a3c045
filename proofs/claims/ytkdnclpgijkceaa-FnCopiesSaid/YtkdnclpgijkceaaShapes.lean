/- The shapes of this seat's data. Printed by a program of our own. -/
import Derived.Test.YtkdnclpgijkceaaTypes
import Derived.Test.YtkdnclpgijkceaaEq
import Derived.Test.YtkdnclpgijkceaaDraw
namespace Go.Proofs.Ytkdnclpgijkceaa
open Go Go.RowKit
def shRec : Shp (Int × Str) := shPair shI64 shStr
theorem pos_shRec : 0 < shRec.sz := by decide
theorem flat_shRec : Flat shRec := fun _ _ _ _ _ _ h => h
theorem inv_shRec {w : World} {S : Nat → Prop} {c : List Value} {x : Int × Str} (h : shRec.rep w S c x) : c = [.int .i64 x.1, St x.2] ∧ I64 x.1 ∧ x.2.length ≤ 9223372036854775807 := by
  obtain ⟨_, _, rfl, ⟨rfl, h0⟩, ⟨rfl, h1⟩⟩ := h
  exact ⟨rfl, h0, h1⟩
theorem mk_shRec {w : World} {S : Nat → Prop} (x : Int × Str) (h0 : I64 x.1) (h1 : x.2.length ≤ 9223372036854775807) : shRec.rep w S [.int .i64 x.1, St x.2] x := ⟨_, _, rfl, ⟨rfl, h0⟩, ⟨rfl, h1⟩⟩
theorem zero_shRec (w : World) : shRec.rep w (fun _ => False) (Value.agg #[.int .i64 0, St []]).cells.toList ((0, []) : Int × Str) := mk_shRec ((0, []) : Int × Str) (by decide) (by decide)
theorem eg36 : Try.prog.eqGuardType Try.prog.depth 36 = false := by kernel_rfl
theorem fo36 : Try.prog.fieldsOf 36 = (#[{ name := "Number", type := 2, offset := 0, embedded := false, tag := "", pkgPath := "", byteOffset := 0 }, { name := "Text", type := 9, offset := 1, embedded := false, tag := "", pkgPath := "", byteOffset := 8 }] : Array Field) := by unfold Program.fieldsOf; rw [Try.underlying36]
theorem aeq36 (w : World) (x y : Int × Str) : (Op.equalIn 10000 36 (.agg #[.int .i64 x.1, St x.2]) (.agg #[.int .i64 y.1, St y.2])).run Try.prog w = .ok (decide (x = y)) w := by
  rw [run_equalIn_struct w 9999 36 _ _ (by rw [fo36]; exact Try.underlying36) (by kernel_rfl), fo36]
  refine Eq.trans (eqf_cons (d := 9999) (xs := #[.int .i64 x.1, St x.2]) (ys := #[.int .i64 y.1, St y.2]) (f := { name := "Number", type := 2, offset := 0, embedded := false, tag := "", pkgPath := "", byteOffset := 0 }) (fs := [{ name := "Text", type := 9, offset := 1, embedded := false, tag := "", pkgPath := "", byteOffset := 8 }]) (p := .int .i64 x.1) (q := .int .i64 y.1) (by decide) (part_int Try.underlying2 rfl) (part_int Try.underlying2 rfl) (eqi_int (d := 9998) Try.underlying2) (eqf_cons (d := 9999) (xs := #[.int .i64 x.1, St x.2]) (ys := #[.int .i64 y.1, St y.2]) (f := { name := "Text", type := 9, offset := 1, embedded := false, tag := "", pkgPath := "", byteOffset := 8 }) (fs := []) (p := St x.2) (q := St y.2) (by decide) (part_str Try.underlying9 rfl) (part_str Try.underlying9 rfl) (eqi_str (d := 9998) Try.underlying9) eqf_nil)) ?_
  congr 1; rw [Bool.eq_iff_iff]; simp [Prod.ext_iff]
end Go.Proofs.Ytkdnclpgijkceaa
