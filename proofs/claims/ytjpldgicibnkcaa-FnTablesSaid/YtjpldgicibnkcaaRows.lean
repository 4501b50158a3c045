/-
  No cell of these rows narrows 'for every input' (looked for: loops, veiled, ifaces, maps, wideKeys, modest, calm, conditions, laid).
  DERIVED. THE GIVEN ROWS OF THIS SEAT. 13 by the template 'for every input the law returns true; each argument reads behind the call as it read before'; 0 by the template 'total and deterministic' (their statements: YtjpldgicibnkcaaTotals.lean).
  GIVEN WITH THE SEED: the statements are not yours to turn. If you find one false, say at which input.
  Laid BY PROGRAM, IN A SANDBOX (cutbox-rows.mjs): the forced cells as the released guide's own fill.sh prints them over the translation fd6b88d6aa6de534… (all of the seat's roots in one cut). By AI agents, Wed Nov 11 2026. No macro, syntax, notation, axiom, sorry.
-/
import Derived.Test.YtjpldgicibnkcaaChecked
import GoSem.Claim
import GoSem.ClaimJoined
import GoSem.ClaimMapViews
import Derived.JoinedTies
import Derived.KernelRfl
namespace Go.Proofs.Ytjpldgicibnkcaa
/- THE CELL 'sum', in the pinned program and in every row, IS THE sha256 OF THE DUMP (.gsa) THAT YtjpldgicibnkcaaProg.lean LOADS. Nothing in Lean hashes anything: it is a label: what it is worth is what the hold of that sum in a sandbox is worth. -/
noncomputable def Try.pinned : Pinned := { name := "ytjpldgicibnkcaa", sum := "fd6b88d6aa6de534eee14995b758708894e0cd2043f5c22ac8bd304eed9142bc", checked := Try.checked }
namespace Rows
def none {H : Type} : Left H := { results := [], args := [] }

/-- 'laws.FnExactIsTable': WHATEVER THE INPUT: true; the input reads as it did. -/
def fnExactIsTableSpec : ChangeSpec := { name := "fnExactIsTable", fn := fun _ => fun
  | [d] => { results := [.lit (.bool true)], args := [d] }
  | _ => none }
def fnExactIsTableRow : OpenClaim := { program := "ytjpldgicibnkcaa", sum := "fd6b88d6aa6de534eee14995b758708894e0cd2043f5c22ac8bd304eed9142bc", func := "loop.example/g01050/laws.FnExactIsTable", spec := "fnExactIsTable", apart := false }
def FnExactIsTableSaid : Prop := fnExactIsTableRow.holds Try.pinned (OpenSpec.ofChange fnExactIsTableSpec)

/-- ITS FALSE NEIGHBOUR: 'it returns false'. Refute it at one input. -/
def fnExactIsTableWrong : ChangeSpec := { name := "fnExactIsTable", fn := fun _ => fun
  | [d] => { results := [.lit (.bool false)], args := [d] }
  | _ => none }
def FnExactIsTableWrongFalsely : Prop := fnExactIsTableRow.holds Try.pinned (OpenSpec.ofChange fnExactIsTableWrong)

/-- 'laws.FnExactSumColumn': WHATEVER THE INPUT: true; the input reads as it did. -/
def fnExactSumColumnSpec : ChangeSpec := { name := "fnExactSumColumn", fn := fun _ => fun
  | [d1, d2] => { results := [.lit (.bool true)], args := [d1, d2] }
  | _ => none }
def fnExactSumColumnRow : OpenClaim := { program := "ytjpldgicibnkcaa", sum := "fd6b88d6aa6de534eee14995b758708894e0cd2043f5c22ac8bd304eed9142bc", func := "loop.example/g01050/laws.FnExactSumColumn", spec := "fnExactSumColumn", apart := false }
def FnExactSumColumnSaid : Prop := fnExactSumColumnRow.holds Try.pinned (OpenSpec.ofChange fnExactSumColumnSpec)

/-- ITS FALSE NEIGHBOUR: 'it returns false'. Refute it at one input. -/
def fnExactSumColumnWrong : ChangeSpec := { name := "fnExactSumColumn", fn := fun _ => fun
  | [d1, d2] => { results := [.lit (.bool false)], args := [d1, d2] }
  | _ => none }
def FnExactSumColumnWrongFalsely : Prop := fnExactSumColumnRow.holds Try.pinned (OpenSpec.ofChange fnExactSumColumnWrong)

/-- 'laws.FnExactGroupRows': WHATEVER THE INPUT: true; the input reads as it did. -/
def fnExactGroupRowsSpec : ChangeSpec := { name := "fnExactGroupRows", fn := fun _ => fun
  | [d1, d2, d3] => { results := [.lit (.bool true)], args := [d1, d2, d3] }
  | _ => none }
def fnExactGroupRowsRow : OpenClaim := { program := "ytjpldgicibnkcaa", sum := "fd6b88d6aa6de534eee14995b758708894e0cd2043f5c22ac8bd304eed9142bc", func := "loop.example/g01050/laws.FnExactGroupRows", spec := "fnExactGroupRows", apart := false }
def FnExactGroupRowsSaid : Prop := fnExactGroupRowsRow.holds Try.pinned (OpenSpec.ofChange fnExactGroupRowsSpec)

/-- ITS FALSE NEIGHBOUR: 'it returns false'. Refute it at one input. -/
def fnExactGroupRowsWrong : ChangeSpec := { name := "fnExactGroupRows", fn := fun _ => fun
  | [d1, d2, d3] => { results := [.lit (.bool false)], args := [d1, d2, d3] }
  | _ => none }
def FnExactGroupRowsWrongFalsely : Prop := fnExactGroupRowsRow.holds Try.pinned (OpenSpec.ofChange fnExactGroupRowsWrong)

/-- 'laws.FnExactWidthsOf': WHATEVER THE INPUT: true; the input reads as it did. -/
def fnExactWidthsOfSpec : ChangeSpec := { name := "fnExactWidthsOf", fn := fun _ => fun
  | [d] => { results := [.lit (.bool true)], args := [d] }
  | _ => none }
def fnExactWidthsOfRow : OpenClaim := { program := "ytjpldgicibnkcaa", sum := "fd6b88d6aa6de534eee14995b758708894e0cd2043f5c22ac8bd304eed9142bc", func := "loop.example/g01050/laws.FnExactWidthsOf", spec := "fnExactWidthsOf", recurses := true, apart := false }
def FnExactWidthsOfSaid : Prop := fnExactWidthsOfRow.holds Try.pinned (OpenSpec.ofChange fnExactWidthsOfSpec)

/-- ITS FALSE NEIGHBOUR: 'it returns false'. Refute it at one input. -/
def fnExactWidthsOfWrong : ChangeSpec := { name := "fnExactWidthsOf", fn := fun _ => fun
  | [d] => { results := [.lit (.bool false)], args := [d] }
  | _ => none }
def FnExactWidthsOfWrongFalsely : Prop := fnExactWidthsOfRow.holds Try.pinned (OpenSpec.ofChange fnExactWidthsOfWrong)

/-- 'laws.FnExactSortRows': WHATEVER THE INPUT: true; the input reads as it did. -/
def fnExactSortRowsSpec : ChangeSpec := { name := "fnExactSortRows", fn := fun _ => fun
  | [d1, d2] => { results := [.lit (.bool true)], args := [d1, d2] }
  | _ => none }
def fnExactSortRowsRow : OpenClaim := { program := "ytjpldgicibnkcaa", sum := "fd6b88d6aa6de534eee14995b758708894e0cd2043f5c22ac8bd304eed9142bc", func := "loop.example/g01050/laws.FnExactSortRows", spec := "fnExactSortRows", apart := false }
def FnExactSortRowsSaid : Prop := fnExactSortRowsRow.holds Try.pinned (OpenSpec.ofChange fnExactSortRowsSpec)

/-- ITS FALSE NEIGHBOUR: 'it returns false'. Refute it at one input. -/
def fnExactSortRowsWrong : ChangeSpec := { name := "fnExactSortRows", fn := fun _ => fun
  | [d1, d2] => { results := [.lit (.bool false)], args := [d1, d2] }
  | _ => none }
def FnExactSortRowsWrongFalsely : Prop := fnExactSortRowsRow.holds Try.pinned (OpenSpec.ofChange fnExactSortRowsWrong)

/-- 'laws.FnExactFilterRows': WHATEVER THE INPUT: true; the input reads as it did. -/
def fnExactFilterRowsSpec : ChangeSpec := { name := "fnExactFilterRows", fn := fun _ => fun
  | [d1, d2, d3, d4] => { results := [.lit (.bool true)], args := [d1, d2, d3, d4] }
  | _ => none }
def fnExactFilterRowsRow : OpenClaim := { program := "ytjpldgicibnkcaa", sum := "fd6b88d6aa6de534eee14995b758708894e0cd2043f5c22ac8bd304eed9142bc", func := "loop.example/g01050/laws.FnExactFilterRows", spec := "fnExactFilterRows", apart := false }
def FnExactFilterRowsSaid : Prop := fnExactFilterRowsRow.holds Try.pinned (OpenSpec.ofChange fnExactFilterRowsSpec)

/-- ITS FALSE NEIGHBOUR: 'it returns false'. Refute it at one input. -/
def fnExactFilterRowsWrong : ChangeSpec := { name := "fnExactFilterRows", fn := fun _ => fun
  | [d1, d2, d3, d4] => { results := [.lit (.bool false)], args := [d1, d2, d3, d4] }
  | _ => none }
def FnExactFilterRowsWrongFalsely : Prop := fnExactFilterRowsRow.holds Try.pinned (OpenSpec.ofChange fnExactFilterRowsWrong)

/-- 'laws.FnGroups': WHATEVER THE INPUT: true; the input reads as it did. -/
def fnGroupsSpec : ChangeSpec := { name := "fnGroups", fn := fun _ => fun
  | [d] => { results := [.lit (.bool true)], args := [d] }
  | _ => none }
def fnGroupsRow : OpenClaim := { program := "ytjpldgicibnkcaa", sum := "fd6b88d6aa6de534eee14995b758708894e0cd2043f5c22ac8bd304eed9142bc", func := "loop.example/g01050/laws.FnGroups", spec := "fnGroups", apart := false }
def FnGroupsSaid : Prop := fnGroupsRow.holds Try.pinned (OpenSpec.ofChange fnGroupsSpec)

/-- ITS FALSE NEIGHBOUR: 'it returns false'. Refute it at one input. -/
def fnGroupsWrong : ChangeSpec := { name := "fnGroups", fn := fun _ => fun
  | [d] => { results := [.lit (.bool false)], args := [d] }
  | _ => none }
def FnGroupsWrongFalsely : Prop := fnGroupsRow.holds Try.pinned (OpenSpec.ofChange fnGroupsWrong)

/-- 'laws.FnExactJoinTables': WHATEVER THE INPUT: true; the input reads as it did. -/
def fnExactJoinTablesSpec : ChangeSpec := { name := "fnExactJoinTables", fn := fun _ => fun
  | [d1, d2] => { results := [.lit (.bool true)], args := [d1, d2] }
  | _ => none }
def fnExactJoinTablesRow : OpenClaim := { program := "ytjpldgicibnkcaa", sum := "fd6b88d6aa6de534eee14995b758708894e0cd2043f5c22ac8bd304eed9142bc", func := "loop.example/g01050/laws.FnExactJoinTables", spec := "fnExactJoinTables", apart := false }
def FnExactJoinTablesSaid : Prop := fnExactJoinTablesRow.holds Try.pinned (OpenSpec.ofChange fnExactJoinTablesSpec)

/-- ITS FALSE NEIGHBOUR: 'it returns false'. Refute it at one input. -/
def fnExactJoinTablesWrong : ChangeSpec := { name := "fnExactJoinTables", fn := fun _ => fun
  | [d1, d2] => { results := [.lit (.bool false)], args := [d1, d2] }
  | _ => none }
def FnExactJoinTablesWrongFalsely : Prop := fnExactJoinTablesRow.holds Try.pinned (OpenSpec.ofChange fnExactJoinTablesWrong)

/-- 'laws.FnExactTableText': WHATEVER THE INPUT: true; the input reads as it did. -/
def fnExactTableTextSpec : ChangeSpec := { name := "fnExactTableText", fn := fun _ => fun
  | [d] => { results := [.lit (.bool true)], args := [d] }
  | _ => none }
def fnExactTableTextRow : OpenClaim := { program := "ytjpldgicibnkcaa", sum := "fd6b88d6aa6de534eee14995b758708894e0cd2043f5c22ac8bd304eed9142bc", func := "loop.example/g01050/laws.FnExactTableText", spec := "fnExactTableText", recurses := true, apart := false }
def FnExactTableTextSaid : Prop := fnExactTableTextRow.holds Try.pinned (OpenSpec.ofChange fnExactTableTextSpec)

/-- ITS FALSE NEIGHBOUR: 'it returns false'. Refute it at one input. -/
def fnExactTableTextWrong : ChangeSpec := { name := "fnExactTableText", fn := fun _ => fun
  | [d] => { results := [.lit (.bool false)], args := [d] }
  | _ => none }
def FnExactTableTextWrongFalsely : Prop := fnExactTableTextRow.holds Try.pinned (OpenSpec.ofChange fnExactTableTextWrong)

/-- 'laws.FnExactAddColumn': WHATEVER THE INPUT: true; the input reads as it did. -/
def fnExactAddColumnSpec : ChangeSpec := { name := "fnExactAddColumn", fn := fun _ => fun
  | [d1, d2, d3, d4, d5] => { results := [.lit (.bool true)], args := [d1, d2, d3, d4, d5] }
  | _ => none }
def fnExactAddColumnRow : OpenClaim := { program := "ytjpldgicibnkcaa", sum := "fd6b88d6aa6de534eee14995b758708894e0cd2043f5c22ac8bd304eed9142bc", func := "loop.example/g01050/laws.FnExactAddColumn", spec := "fnExactAddColumn", apart := false }
def FnExactAddColumnSaid : Prop := fnExactAddColumnRow.holds Try.pinned (OpenSpec.ofChange fnExactAddColumnSpec)

/-- ITS FALSE NEIGHBOUR: 'it returns false'. Refute it at one input. -/
def fnExactAddColumnWrong : ChangeSpec := { name := "fnExactAddColumn", fn := fun _ => fun
  | [d1, d2, d3, d4, d5] => { results := [.lit (.bool false)], args := [d1, d2, d3, d4, d5] }
  | _ => none }
def FnExactAddColumnWrongFalsely : Prop := fnExactAddColumnRow.holds Try.pinned (OpenSpec.ofChange fnExactAddColumnWrong)

/-- 'laws.FnTables': WHATEVER THE INPUT: true; the input reads as it did. -/
def fnTablesSpec : ChangeSpec := { name := "fnTables", fn := fun _ => fun
  | [d] => { results := [.lit (.bool true)], args := [d] }
  | _ => none }
def fnTablesRow : OpenClaim := { program := "ytjpldgicibnkcaa", sum := "fd6b88d6aa6de534eee14995b758708894e0cd2043f5c22ac8bd304eed9142bc", func := "loop.example/g01050/laws.FnTables", spec := "fnTables", recurses := true, apart := false }
def FnTablesSaid : Prop := fnTablesRow.holds Try.pinned (OpenSpec.ofChange fnTablesSpec)

/-- ITS FALSE NEIGHBOUR: 'it returns false'. Refute it at one input. -/
def fnTablesWrong : ChangeSpec := { name := "fnTables", fn := fun _ => fun
  | [d] => { results := [.lit (.bool false)], args := [d] }
  | _ => none }
def FnTablesWrongFalsely : Prop := fnTablesRow.holds Try.pinned (OpenSpec.ofChange fnTablesWrong)

/-- 'laws.FnExactReadTable': WHATEVER THE INPUT: true; the input reads as it did. -/
def fnExactReadTableSpec : ChangeSpec := { name := "fnExactReadTable", fn := fun _ => fun
  | [d] => { results := [.lit (.bool true)], args := [d] }
  | _ => none }
def fnExactReadTableRow : OpenClaim := { program := "ytjpldgicibnkcaa", sum := "fd6b88d6aa6de534eee14995b758708894e0cd2043f5c22ac8bd304eed9142bc", func := "loop.example/g01050/laws.FnExactReadTable", spec := "fnExactReadTable", recurses := true, apart := false }
def FnExactReadTableSaid : Prop := fnExactReadTableRow.holds Try.pinned (OpenSpec.ofChange fnExactReadTableSpec)

/-- ITS FALSE NEIGHBOUR: 'it returns false'. Refute it at one input. -/
def fnExactReadTableWrong : ChangeSpec := { name := "fnExactReadTable", fn := fun _ => fun
  | [d] => { results := [.lit (.bool false)], args := [d] }
  | _ => none }
def FnExactReadTableWrongFalsely : Prop := fnExactReadTableRow.holds Try.pinned (OpenSpec.ofChange fnExactReadTableWrong)

/-- 'laws.FnTableTexts': WHATEVER THE INPUT: true; the input reads as it did. -/
def fnTableTextsSpec : ChangeSpec := { name := "fnTableTexts", fn := fun _ => fun
  | [d] => { results := [.lit (.bool true)], args := [d] }
  | _ => none }
def fnTableTextsRow : OpenClaim := { program := "ytjpldgicibnkcaa", sum := "fd6b88d6aa6de534eee14995b758708894e0cd2043f5c22ac8bd304eed9142bc", func := "loop.example/g01050/laws.FnTableTexts", spec := "fnTableTexts", recurses := true, apart := false }
def FnTableTextsSaid : Prop := fnTableTextsRow.holds Try.pinned (OpenSpec.ofChange fnTableTextsSpec)

/-- ITS FALSE NEIGHBOUR: 'it returns false'. Refute it at one input. -/
def fnTableTextsWrong : ChangeSpec := { name := "fnTableTexts", fn := fun _ => fun
  | [d] => { results := [.lit (.bool false)], args := [d] }
  | _ => none }
def FnTableTextsWrongFalsely : Prop := fnTableTextsRow.holds Try.pinned (OpenSpec.ofChange fnTableTextsWrong)

/- THE SECOND FORM. 'bulk': how many values and letters a reading holds, each counted each time it is reached (what is shared counts as often as it is met; a slice's spare places count too). A statement '..UptoSaid' is the law's where the arguments, and the package variables that the reading takes, are together of bulk at most 1048576: NARROWER than '..Said'. Prove '..Said' where nothing that the law and all that it calls make is longer than what came in: it says more and counts as full. Else prove '..UptoSaid'. A law counts once. -/
mutual
def uptoBulk {H : Type} : DataW H → Nat
  | .lit (.string bytes) => bytes.length + 1
  | .lit _ => 1
  | .nil => 1
  | .ptr d => uptoBulk d + 1
  | .slice elems spare => uptoBulkAll elems + uptoBulkAll spare + 1
  | .agg parts => uptoBulkAll parts + 1
  | .iface _ d => uptoBulk d + 1
  | .map entries => uptoBulkEntries entries + 1
  | .held _ => 1
def uptoBulkAll {H : Type} : List (DataW H) → Nat
  | [] => 0
  | d :: r => uptoBulk d + uptoBulkAll r
def uptoBulkEntries {H : Type} : List (Lit × DataW H) → Nat
  | [] => 0
  | x :: r => uptoBulkEntry x + uptoBulkEntries r
def uptoBulkEntry {H : Type} : Lit × DataW H → Nat
  | (.string bytes, d) => bytes.length + uptoBulk d + 1
  | (_, d) => uptoBulk d + 1
 end
def uptoSmall : (H : Type) → List (DataW H) → Bool := fun _ ds => decide (uptoBulkAll ds ≤ 1048576)
def OpenSpec.upto (s : _root_.Go.ChangeSpec) : _root_.Go.OpenSpec := { _root_.Go.OpenSpec.ofChange s with cond := some uptoSmall }

/-- 'laws.FnExactIsTable', WHERE WHAT IT READS IS OF BULK AT MOST 1048576: true; the input reads as it did. -/
def fnExactIsTableUptoRow : OpenClaim := { program := "ytjpldgicibnkcaa", sum := "fd6b88d6aa6de534eee14995b758708894e0cd2043f5c22ac8bd304eed9142bc", func := "loop.example/g01050/laws.FnExactIsTable", spec := "fnExactIsTable", apart := false, narrowed := true }
def FnExactIsTableUptoSaid : Prop := fnExactIsTableUptoRow.holds Try.pinned (OpenSpec.upto fnExactIsTableSpec)

/-- 'laws.FnExactSumColumn', WHERE WHAT IT READS IS OF BULK AT MOST 1048576: true; the input reads as it did. -/
def fnExactSumColumnUptoRow : OpenClaim := { program := "ytjpldgicibnkcaa", sum := "fd6b88d6aa6de534eee14995b758708894e0cd2043f5c22ac8bd304eed9142bc", func := "loop.example/g01050/laws.FnExactSumColumn", spec := "fnExactSumColumn", apart := false, narrowed := true }
def FnExactSumColumnUptoSaid : Prop := fnExactSumColumnUptoRow.holds Try.pinned (OpenSpec.upto fnExactSumColumnSpec)

/-- 'laws.FnExactGroupRows', WHERE WHAT IT READS IS OF BULK AT MOST 1048576: true; the input reads as it did. -/
def fnExactGroupRowsUptoRow : OpenClaim := { program := "ytjpldgicibnkcaa", sum := "fd6b88d6aa6de534eee14995b758708894e0cd2043f5c22ac8bd304eed9142bc", func := "loop.example/g01050/laws.FnExactGroupRows", spec := "fnExactGroupRows", apart := false, narrowed := true }
def FnExactGroupRowsUptoSaid : Prop := fnExactGroupRowsUptoRow.holds Try.pinned (OpenSpec.upto fnExactGroupRowsSpec)

/-- 'laws.FnExactWidthsOf', WHERE WHAT IT READS IS OF BULK AT MOST 1048576: true; the input reads as it did. -/
def fnExactWidthsOfUptoRow : OpenClaim := { program := "ytjpldgicibnkcaa", sum := "fd6b88d6aa6de534eee14995b758708894e0cd2043f5c22ac8bd304eed9142bc", func := "loop.example/g01050/laws.FnExactWidthsOf", spec := "fnExactWidthsOf", recurses := true, apart := false, narrowed := true }
def FnExactWidthsOfUptoSaid : Prop := fnExactWidthsOfUptoRow.holds Try.pinned (OpenSpec.upto fnExactWidthsOfSpec)

/-- 'laws.FnExactSortRows', WHERE WHAT IT READS IS OF BULK AT MOST 1048576: true; the input reads as it did. -/
def fnExactSortRowsUptoRow : OpenClaim := { program := "ytjpldgicibnkcaa", sum := "fd6b88d6aa6de534eee14995b758708894e0cd2043f5c22ac8bd304eed9142bc", func := "loop.example/g01050/laws.FnExactSortRows", spec := "fnExactSortRows", apart := false, narrowed := true }
def FnExactSortRowsUptoSaid : Prop := fnExactSortRowsUptoRow.holds Try.pinned (OpenSpec.upto fnExactSortRowsSpec)

/-- 'laws.FnExactFilterRows', WHERE WHAT IT READS IS OF BULK AT MOST 1048576: true; the input reads as it did. -/
def fnExactFilterRowsUptoRow : OpenClaim := { program := "ytjpldgicibnkcaa", sum := "fd6b88d6aa6de534eee14995b758708894e0cd2043f5c22ac8bd304eed9142bc", func := "loop.example/g01050/laws.FnExactFilterRows", spec := "fnExactFilterRows", apart := false, narrowed := true }
def FnExactFilterRowsUptoSaid : Prop := fnExactFilterRowsUptoRow.holds Try.pinned (OpenSpec.upto fnExactFilterRowsSpec)

/-- 'laws.FnGroups', WHERE WHAT IT READS IS OF BULK AT MOST 1048576: true; the input reads as it did. -/
def fnGroupsUptoRow : OpenClaim := { program := "ytjpldgicibnkcaa", sum := "fd6b88d6aa6de534eee14995b758708894e0cd2043f5c22ac8bd304eed9142bc", func := "loop.example/g01050/laws.FnGroups", spec := "fnGroups", apart := false, narrowed := true }
def FnGroupsUptoSaid : Prop := fnGroupsUptoRow.holds Try.pinned (OpenSpec.upto fnGroupsSpec)

/-- 'laws.FnExactJoinTables', WHERE WHAT IT READS IS OF BULK AT MOST 1048576: true; the input reads as it did. -/
def fnExactJoinTablesUptoRow : OpenClaim := { program := "ytjpldgicibnkcaa", sum := "fd6b88d6aa6de534eee14995b758708894e0cd2043f5c22ac8bd304eed9142bc", func := "loop.example/g01050/laws.FnExactJoinTables", spec := "fnExactJoinTables", apart := false, narrowed := true }
def FnExactJoinTablesUptoSaid : Prop := fnExactJoinTablesUptoRow.holds Try.pinned (OpenSpec.upto fnExactJoinTablesSpec)

/-- 'laws.FnExactTableText', WHERE WHAT IT READS IS OF BULK AT MOST 1048576: true; the input reads as it did. -/
def fnExactTableTextUptoRow : OpenClaim := { program := "ytjpldgicibnkcaa", sum := "fd6b88d6aa6de534eee14995b758708894e0cd2043f5c22ac8bd304eed9142bc", func := "loop.example/g01050/laws.FnExactTableText", spec := "fnExactTableText", recurses := true, apart := false, narrowed := true }
def FnExactTableTextUptoSaid : Prop := fnExactTableTextUptoRow.holds Try.pinned (OpenSpec.upto fnExactTableTextSpec)

/-- 'laws.FnExactAddColumn', WHERE WHAT IT READS IS OF BULK AT MOST 1048576: true; the input reads as it did. -/
def fnExactAddColumnUptoRow : OpenClaim := { program := "ytjpldgicibnkcaa", sum := "fd6b88d6aa6de534eee14995b758708894e0cd2043f5c22ac8bd304eed9142bc", func := "loop.example/g01050/laws.FnExactAddColumn", spec := "fnExactAddColumn", apart := false, narrowed := true }
def FnExactAddColumnUptoSaid : Prop := fnExactAddColumnUptoRow.holds Try.pinned (OpenSpec.upto fnExactAddColumnSpec)

/-- 'laws.FnTables', WHERE WHAT IT READS IS OF BULK AT MOST 1048576: true; the input reads as it did. -/
def fnTablesUptoRow : OpenClaim := { program := "ytjpldgicibnkcaa", sum := "fd6b88d6aa6de534eee14995b758708894e0cd2043f5c22ac8bd304eed9142bc", func := "loop.example/g01050/laws.FnTables", spec := "fnTables", recurses := true, apart := false, narrowed := true }
def FnTablesUptoSaid : Prop := fnTablesUptoRow.holds Try.pinned (OpenSpec.upto fnTablesSpec)

/-- 'laws.FnExactReadTable', WHERE WHAT IT READS IS OF BULK AT MOST 1048576: true; the input reads as it did. -/
def fnExactReadTableUptoRow : OpenClaim := { program := "ytjpldgicibnkcaa", sum := "fd6b88d6aa6de534eee14995b758708894e0cd2043f5c22ac8bd304eed9142bc", func := "loop.example/g01050/laws.FnExactReadTable", spec := "fnExactReadTable", recurses := true, apart := false, narrowed := true }
def FnExactReadTableUptoSaid : Prop := fnExactReadTableUptoRow.holds Try.pinned (OpenSpec.upto fnExactReadTableSpec)

/-- 'laws.FnTableTexts', WHERE WHAT IT READS IS OF BULK AT MOST 1048576: true; the input reads as it did. -/
def fnTableTextsUptoRow : OpenClaim := { program := "ytjpldgicibnkcaa", sum := "fd6b88d6aa6de534eee14995b758708894e0cd2043f5c22ac8bd304eed9142bc", func := "loop.example/g01050/laws.FnTableTexts", spec := "fnTableTexts", recurses := true, apart := false, narrowed := true }
def FnTableTextsUptoSaid : Prop := fnTableTextsUptoRow.holds Try.pinned (OpenSpec.upto fnTableTextsSpec)

end Rows
end Go.Proofs.Ytjpldgicibnkcaa
