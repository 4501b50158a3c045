/- Two structs compared: the operation yields whether all their fields are equal. By-name template: seat-independent. -/
import Derived.Test.YthbehhhblchhhaaGreatMem
import Derived.Laws.StructEq
namespace Go.Proofs.YthbehhhblchhhaaGreat
open Go Go.RowKit
section
variable {P : Program} {a : Act} {o : Oper} {w : World} {N : Nat} {l : List (Nat × Value)} {x y : Operand} {T T' : TypeId} {xs ys : Array Value} {r s : Bool} {d : Nat}
theorem eqf_nil : (Op.eqFields d xs ys []).run P w = .ok true w := by simp [Op.eqFields]
theorem eqf_cons {f : Field} {fs : List Field} {p q : Value} (hn : f.name ≠ "_") (hp : (part f.type xs f.offset).run P w = .ok p w) (hq : (part f.type ys f.offset).run P w = .ok q w)
    (he : (Op.equalIn d f.type p q).run P w = .ok r w) (hr : (Op.eqFields d xs ys fs).run P w = .ok s w) : (Op.eqFields d xs ys (f :: fs)).run P w = .ok (r && s) w := by
  simp only [Op.eqFields, if_pos hn, Sem.run_bind, hp, hq, he, Result.andThen_ok]
  cases r
  · simp
  · simpa using hr
theorem eqi_int {k : IntKind} {m n : Int} (h : P.underlying T = some (.int k)) : (Op.equalIn (d + 1) T (.int k m) (.int k n)).run P w = .ok (decide (m = n)) w := by
  rw [run_equalIn_int w d T k k m n h]; congr 1
theorem eqi_str {m n : Str} (h : P.underlying T = some .string) : (Op.equalIn (d + 1) T (St m) (St n)).run P w = .ok (decide (m = n)) w := by
  rw [run_equalIn_string w d T _ _ h]; simp only [ByteArray.toList_mk, beqd]
theorem eqi_bool {m n : Bool} (h : P.underlying T = some .bool) : (Op.equalIn (d + 1) T (.bool m) (.bool n)).run P w = .ok (decide (m = n)) w := by
  rw [run_equalIn_bool' w d T m n h]; cases m <;> cases n <;> rfl
theorem part_int {k : IntKind} {off : Nat} {v : Value} (h : P.underlying T = some (.int k)) (hx : xs[off]? = some v) : (part T xs off).run P w = .ok v w := by simp [part, isAgg, run_underlying h, hx]
theorem part_str {off : Nat} {v : Value} (h : P.underlying T = some .string) (hx : xs[off]? = some v) : (part T xs off).run P w = .ok v w := by simp [part, isAgg, run_underlying h, hx]
theorem part_bool {off : Nat} {v : Value} (h : P.underlying T = some .bool) (hx : xs[off]? = some v) : (part T xs off).run P w = .ok v w := by simp [part, isAgg, run_underlying h, hx]
theorem op_aeql (ha : Sl N a l) (ho : o.op = .binOp .eql T x y T') (hg : P.eqGuardType P.depth T = false) (he : (Op.equalIn 10000 T (.agg xs) (.agg ys)).run P w = .ok r w) (hx : ev l x = some (.agg xs)) (hy : ev l y = some (.agg ys)) : OpVal P a o w (.bool r) := by
  unfold OpVal execOp
  simp only [ho, ha.ev hx, ha.ev hy]
  simp [run_eqGuard_agg w .eql T x y xs ys hg, run_eql_struct, he]
theorem op_aneq (ha : Sl N a l) (ho : o.op = .binOp .neq T x y T') (hg : P.eqGuardType P.depth T = false) (he : (Op.equalIn 10000 T (.agg xs) (.agg ys)).run P w = .ok r w) (hx : ev l x = some (.agg xs)) (hy : ev l y = some (.agg ys)) : OpVal P a o w (.bool !r) := by
  unfold OpVal execOp
  simp only [ho, ha.ev hx, ha.ev hy]
  simp [run_eqGuard_agg w .neq T x y xs ys hg, run_neq_struct, he]
end
end Go.Proofs.YthbehhhblchhhaaGreat
