/- The shapes of this seat's data. Printed by a program of our own. -/
import Derived.Test.YthbkedflhmeohaaTypes
import Derived.Test.YthbkedflhmeohaaDraw
namespace Go.Proofs.Ythbkedflhmeohaa
open Go Go.RowKit
def shCust : Shp (Str × Int × List Str) := shPair shStr (shPair shI64 (shSl shStr pos_shStr))
theorem pos_shCust : 0 < shCust.sz := by decide
theorem inv_shCust {w : World} {S : Nat → Prop} {c : List Value} {x : Str × Int × List Str} (h : shCust.rep w S c x) : ∃ v2, c = [St x.1, .int .i64 x.2.1, v2] ∧ x.1.length ≤ 9223372036854775807 ∧ I64 x.2.1 ∧ Rds shStr S w v2 x.2.2 := by
  obtain ⟨_, _, rfl, ⟨rfl, h0⟩, ⟨_, _, rfl, ⟨rfl, h1⟩, ⟨v2, rfl, h2⟩⟩⟩ := h
  exact ⟨v2, rfl, h0, h1, h2⟩
theorem mk_shCust {w : World} {S : Nat → Prop} {v2 : Value} (x : Str × Int × List Str) (h0 : x.1.length ≤ 9223372036854775807) (h1 : I64 x.2.1) (h2 : Rds shStr S w v2 x.2.2) : shCust.rep w S [St x.1, .int .i64 x.2.1, v2] x := ⟨_, _, rfl, ⟨rfl, h0⟩, ⟨_, _, rfl, ⟨rfl, h1⟩, ⟨v2, rfl, h2⟩⟩⟩
theorem zero_shCust (w : World) : shCust.rep w (fun _ => False) (Value.agg #[St [], .int .i64 0, .slice none 0 0]).cells.toList (([], 0, []) : Str × Int × List Str) := mk_shCust (([], 0, []) : Str × Int × List Str) (by decide) (by decide) (Rds.nil _ _ _)
def shCustN : Shp ((Str × Int × List Str) × Value) where
  sz := 3
  rep _ _ c x := c = [St x.1.1, .int .i64 x.1.2.1, x.2] ∧ x.1.1.length ≤ 9223372036854775807 ∧ I64 x.1.2.1 ∧ x.2.oneCell' = true
  len h := by rw [h.1]; rfl
  one := by rintro w S c x ⟨rfl, _, _, h⟩ u hu; simp only [List.mem_cons, List.mem_nil_iff, or_false] at hu; rcases hu with rfl | rfl | rfl <;> first | rfl | exact h
  keep h _ := h
theorem pos_shCustN : 0 < shCustN.sz := by decide
theorem flat_shCustN : Flat shCustN := fun _ _ _ _ _ _ h => h
theorem inv_shCustN {w : World} {S : Nat → Prop} {c : List Value} {x : (Str × Int × List Str) × Value} (h : shCustN.rep w S c x) : c = [St x.1.1, .int .i64 x.1.2.1, x.2] ∧ x.1.1.length ≤ 9223372036854775807 ∧ I64 x.1.2.1 ∧ x.2.oneCell' = true := h
theorem mk_shCustN {w : World} {S : Nat → Prop} (x : (Str × Int × List Str) × Value) (h0 : x.1.1.length ≤ 9223372036854775807) (h1 : I64 x.1.2.1) (h2 : x.2.oneCell' = true) : shCustN.rep w S [St x.1.1, .int .i64 x.1.2.1, x.2] x := ⟨rfl, h0, h1, h2⟩
theorem zero_shCustN (w : World) : shCustN.rep w (fun _ => False) (Value.agg #[St [], .int .i64 0, .slice none 0 0]).cells.toList ((([], 0, []) : Str × Int × List Str), (.slice none 0 0 : Value)) := ⟨rfl, (by decide), (by decide), rfl⟩
theorem cv_shCustN {w : World} {S : Nat → Prop} {c : List Value} {x : (Str × Int × List Str) × Value} {lo hi : Nat} {et : TypeId} (h : shCustN.rep w S c x) (ho : Own shStr et lo lo hi w x.2 x.1.2.2) : shCust.rep w (Iv lo hi) c x.1 := by
  obtain ⟨rfl, h0, h1, h2⟩ := h
  have hr := ho.rds pos_shStr
  rw [Nat.min_self] at hr
  exact mk_shCust x.1 h0 h1 hr
theorem rds_shCustN {e et : TypeId} {lo hi : Nat} {w : World} {v : Value} {zs : List ((Str × Int × List Str) × Value)} (ho : Own shCustN e lo lo hi w v zs) (hn : Nst shStr et (fun x : Str × Int × List Str => x.2.2) lo hi w zs) : Rds shCust (Iv lo hi) w v (zs.map (·.1)) :=
  own_rds pos_shCustN rfl ho (fun _ h => h) fun S c z h hz => cv_shCustN h (hn.1 z hz)
end Go.Proofs.Ythbkedflhmeohaa
