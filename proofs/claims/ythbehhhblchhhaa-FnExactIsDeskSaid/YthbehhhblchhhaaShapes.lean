/- The shapes of this seat's data. Printed by a program of our own. -/
import Derived.Test.YthbehhhblchhhaaTypes
import Derived.Test.YthbehhhblchhhaaNest
namespace Go.Proofs.Ythbehhhblchhhaa
open Go Go.RowKit
def shEnt : Shp (Int × Int × Str × Int) := shPair shI64 (shPair shI64 (shPair shStr shI64))
theorem pos_shEnt : 0 < shEnt.sz := by decide
theorem flat_shEnt : Flat shEnt := fun _ _ _ _ _ _ h => h
theorem inv_shEnt {w : World} {S : Nat → Prop} {c : List Value} {x : Int × Int × Str × Int} (h : shEnt.rep w S c x) : c = [.int .i64 x.1, .int .i64 x.2.1, St x.2.2.1, .int .i64 x.2.2.2] ∧ I64 x.1 ∧ I64 x.2.1 ∧ x.2.2.1.length ≤ 9223372036854775807 ∧ I64 x.2.2.2 := by
  obtain ⟨_, _, rfl, ⟨rfl, h0⟩, ⟨_, _, rfl, ⟨rfl, h1⟩, ⟨_, _, rfl, ⟨rfl, h2⟩, ⟨rfl, h3⟩⟩⟩⟩ := h
  exact ⟨rfl, h0, h1, h2, h3⟩
theorem mk_shEnt {w : World} {S : Nat → Prop} (x : Int × Int × Str × Int) (h0 : I64 x.1) (h1 : I64 x.2.1) (h2 : x.2.2.1.length ≤ 9223372036854775807) (h3 : I64 x.2.2.2) : shEnt.rep w S [.int .i64 x.1, .int .i64 x.2.1, St x.2.2.1, .int .i64 x.2.2.2] x := ⟨_, _, rfl, ⟨rfl, h0⟩, ⟨_, _, rfl, ⟨rfl, h1⟩, ⟨_, _, rfl, ⟨rfl, h2⟩, ⟨rfl, h3⟩⟩⟩⟩
theorem zero_shEnt (w : World) : shEnt.rep w (fun _ => False) (Value.agg #[.int .i64 0, .int .i64 0, St [], .int .i64 0]).cells.toList ((0, 0, [], 0) : Int × Int × Str × Int) := mk_shEnt ((0, 0, [], 0) : Int × Int × Str × Int) (by decide) (by decide) (by decide) (by decide)
def shBin : Shp (Str × Int × Int × Int × Int) := shPair shStr (shPair shI64 (shPair shI64 (shPair shI64 shI64)))
theorem pos_shBin : 0 < shBin.sz := by decide
theorem flat_shBin : Flat shBin := fun _ _ _ _ _ _ h => h
theorem inv_shBin {w : World} {S : Nat → Prop} {c : List Value} {x : Str × Int × Int × Int × Int} (h : shBin.rep w S c x) : c = [St x.1, .int .i64 x.2.1, .int .i64 x.2.2.1, .int .i64 x.2.2.2.1, .int .i64 x.2.2.2.2] ∧ x.1.length ≤ 9223372036854775807 ∧ I64 x.2.1 ∧ I64 x.2.2.1 ∧ I64 x.2.2.2.1 ∧ I64 x.2.2.2.2 := by
  obtain ⟨_, _, rfl, ⟨rfl, h0⟩, ⟨_, _, rfl, ⟨rfl, h1⟩, ⟨_, _, rfl, ⟨rfl, h2⟩, ⟨_, _, rfl, ⟨rfl, h3⟩, ⟨rfl, h4⟩⟩⟩⟩⟩ := h
  exact ⟨rfl, h0, h1, h2, h3, h4⟩
theorem mk_shBin {w : World} {S : Nat → Prop} (x : Str × Int × Int × Int × Int) (h0 : x.1.length ≤ 9223372036854775807) (h1 : I64 x.2.1) (h2 : I64 x.2.2.1) (h3 : I64 x.2.2.2.1) (h4 : I64 x.2.2.2.2) : shBin.rep w S [St x.1, .int .i64 x.2.1, .int .i64 x.2.2.1, .int .i64 x.2.2.2.1, .int .i64 x.2.2.2.2] x := ⟨_, _, rfl, ⟨rfl, h0⟩, ⟨_, _, rfl, ⟨rfl, h1⟩, ⟨_, _, rfl, ⟨rfl, h2⟩, ⟨_, _, rfl, ⟨rfl, h3⟩, ⟨rfl, h4⟩⟩⟩⟩⟩
theorem zero_shBin (w : World) : shBin.rep w (fun _ => False) (Value.agg #[St [], .int .i64 0, .int .i64 0, .int .i64 0, .int .i64 0]).cells.toList (([], 0, 0, 0, 0) : Str × Int × Int × Int × Int) := mk_shBin (([], 0, 0, 0, 0) : Str × Int × Int × Int × Int) (by decide) (by decide) (by decide) (by decide) (by decide)
def shProm : Shp (Str × Int × Int) := shPair shStr (shPair shI64 shI64)
theorem pos_shProm : 0 < shProm.sz := by decide
theorem flat_shProm : Flat shProm := fun _ _ _ _ _ _ h => h
theorem inv_shProm {w : World} {S : Nat → Prop} {c : List Value} {x : Str × Int × Int} (h : shProm.rep w S c x) : c = [St x.1, .int .i64 x.2.1, .int .i64 x.2.2] ∧ x.1.length ≤ 9223372036854775807 ∧ I64 x.2.1 ∧ I64 x.2.2 := by
  obtain ⟨_, _, rfl, ⟨rfl, h0⟩, ⟨_, _, rfl, ⟨rfl, h1⟩, ⟨rfl, h2⟩⟩⟩ := h
  exact ⟨rfl, h0, h1, h2⟩
theorem mk_shProm {w : World} {S : Nat → Prop} (x : Str × Int × Int) (h0 : x.1.length ≤ 9223372036854775807) (h1 : I64 x.2.1) (h2 : I64 x.2.2) : shProm.rep w S [St x.1, .int .i64 x.2.1, .int .i64 x.2.2] x := ⟨_, _, rfl, ⟨rfl, h0⟩, ⟨_, _, rfl, ⟨rfl, h1⟩, ⟨rfl, h2⟩⟩⟩
theorem zero_shProm (w : World) : shProm.rep w (fun _ => False) (Value.agg #[St [], .int .i64 0, .int .i64 0]).cells.toList (([], 0, 0) : Str × Int × Int) := mk_shProm (([], 0, 0) : Str × Int × Int) (by decide) (by decide) (by decide)
def shDesk : Shp (List (Str × Int × Int × Int × Int) × List (Str × Int × Int) × List (Int × Int × Str × Int)) := shPair (shSl shBin pos_shBin) (shPair (shSl shProm pos_shProm) (shSl shEnt pos_shEnt))
theorem pos_shDesk : 0 < shDesk.sz := by decide
theorem inv_shDesk {w : World} {S : Nat → Prop} {c : List Value} {x : List (Str × Int × Int × Int × Int) × List (Str × Int × Int) × List (Int × Int × Str × Int)} (h : shDesk.rep w S c x) : ∃ v0 v1 v2, c = [v0, v1, v2] ∧ Rds shBin S w v0 x.1 ∧ Rds shProm S w v1 x.2.1 ∧ Rds shEnt S w v2 x.2.2 := by
  obtain ⟨_, _, rfl, ⟨v0, rfl, h0⟩, ⟨_, _, rfl, ⟨v1, rfl, h1⟩, ⟨v2, rfl, h2⟩⟩⟩ := h
  exact ⟨v0, v1, v2, rfl, h0, h1, h2⟩
theorem mk_shDesk {w : World} {S : Nat → Prop} {v0 v1 v2 : Value} (x : List (Str × Int × Int × Int × Int) × List (Str × Int × Int) × List (Int × Int × Str × Int)) (h0 : Rds shBin S w v0 x.1) (h1 : Rds shProm S w v1 x.2.1) (h2 : Rds shEnt S w v2 x.2.2) : shDesk.rep w S [v0, v1, v2] x := ⟨_, _, rfl, ⟨v0, rfl, h0⟩, ⟨_, _, rfl, ⟨v1, rfl, h1⟩, ⟨v2, rfl, h2⟩⟩⟩
theorem zero_shDesk (w : World) : shDesk.rep w (fun _ => False) (Value.agg #[.slice none 0 0, .slice none 0 0, .slice none 0 0]).cells.toList (([], [], []) : List (Str × Int × Int × Int × Int) × List (Str × Int × Int) × List (Int × Int × Str × Int)) := mk_shDesk (([], [], []) : List (Str × Int × Int × Int × Int) × List (Str × Int × Int) × List (Int × Int × Str × Int)) (Rds.nil _ _ _) (Rds.nil _ _ _) (Rds.nil _ _ _)
end Go.Proofs.Ythbehhhblchhhaa
