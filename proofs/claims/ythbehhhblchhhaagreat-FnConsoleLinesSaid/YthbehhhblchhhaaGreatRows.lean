/-
  No cell of these rows narrows 'for every input' (looked for: loops, veiled, ifaces, maps, wideKeys, modest, calm, conditions, laid).
  DERIVED. THE GIVEN ROWS OF THIS SEAT. 4 by the template 'for every input the law returns true; each argument reads behind the call as it read before'; 0 by the template 'total and deterministic' (their statements: YthbehhhblchhhaaGreatTotals.lean).
  GIVEN WITH THE SEED: the statements are not yours to turn. If you find one false, say at which input.
  Laid BY PROGRAM, IN A SANDBOX (cutbox-rows.mjs): the forced cells as the released guide's own fill.sh prints them over the translation 779b39f7b3839a2a… (all of the seat's roots in one cut). By AI agents, Wed Nov 11 2026. No macro, syntax, notation, axiom, sorry.
-/
import Derived.Test.YthbehhhblchhhaaGreatChecked
import GoSem.Claim
import GoSem.ClaimJoined
import GoSem.ClaimMapViews
import Derived.JoinedTies
import Derived.KernelRfl
namespace Go.Proofs.YthbehhhblchhhaaGreat
/- THE CELL 'sum', in the pinned program and in every row, IS THE sha256 OF THE DUMP (.gsa) THAT YthbehhhblchhhaaGreatProg.lean LOADS. Nothing in Lean hashes anything: it is a label: what it is worth is what the hold of that sum in a sandbox is worth. -/
noncomputable def Tryz.pinned : Pinned := { name := "ythbehhhblchhhaagreat", sum := "779b39f7b3839a2ae1763565ffbb61cd754b34a783a315f62867c66dcdcf3cc4", checked := Tryz.checked }
namespace Rows
def none {H : Type} : Left H := { results := [], args := [] }

/-- 'laws.FnConsoleLines': WHATEVER THE INPUT: true; the input reads as it did. -/
def fnConsoleLinesSpec : ChangeSpec := { name := "fnConsoleLines", fn := fun _ => fun
  | [d] => { results := [.lit (.bool true)], args := [d] }
  | _ => none }
def fnConsoleLinesRow : OpenClaim := { program := "ythbehhhblchhhaagreat", sum := "779b39f7b3839a2ae1763565ffbb61cd754b34a783a315f62867c66dcdcf3cc4", func := "loop.example/g01050/laws.FnConsoleLines", spec := "fnConsoleLines", recurses := true, apart := false }
def FnConsoleLinesSaid : Prop := fnConsoleLinesRow.holds Tryz.pinned (OpenSpec.ofChange fnConsoleLinesSpec)

/-- ITS FALSE NEIGHBOUR: 'it returns false'. Refute it at one input. -/
def fnConsoleLinesWrong : ChangeSpec := { name := "fnConsoleLines", fn := fun _ => fun
  | [d] => { results := [.lit (.bool false)], args := [d] }
  | _ => none }
def FnConsoleLinesWrongFalsely : Prop := fnConsoleLinesRow.holds Tryz.pinned (OpenSpec.ofChange fnConsoleLinesWrong)

/-- 'laws.FnExactDeskAfter': WHATEVER THE INPUT: true; the input reads as it did. -/
def fnExactDeskAfterSpec : ChangeSpec := { name := "fnExactDeskAfter", fn := fun _ => fun
  | [d] => { results := [.lit (.bool true)], args := [d] }
  | _ => none }
def fnExactDeskAfterRow : OpenClaim := { program := "ythbehhhblchhhaagreat", sum := "779b39f7b3839a2ae1763565ffbb61cd754b34a783a315f62867c66dcdcf3cc4", func := "loop.example/g01050/laws.FnExactDeskAfter", spec := "fnExactDeskAfter", recurses := true, apart := false }
def FnExactDeskAfterSaid : Prop := fnExactDeskAfterRow.holds Tryz.pinned (OpenSpec.ofChange fnExactDeskAfterSpec)

/-- ITS FALSE NEIGHBOUR: 'it returns false'. Refute it at one input. -/
def fnExactDeskAfterWrong : ChangeSpec := { name := "fnExactDeskAfter", fn := fun _ => fun
  | [d] => { results := [.lit (.bool false)], args := [d] }
  | _ => none }
def FnExactDeskAfterWrongFalsely : Prop := fnExactDeskAfterRow.holds Tryz.pinned (OpenSpec.ofChange fnExactDeskAfterWrong)

/-- 'laws.FnDesks': WHATEVER THE INPUT: true; the input reads as it did. -/
def fnDesksSpec : ChangeSpec := { name := "fnDesks", fn := fun _ => fun
  | [d] => { results := [.lit (.bool true)], args := [d] }
  | _ => none }
def fnDesksRow : OpenClaim := { program := "ythbehhhblchhhaagreat", sum := "779b39f7b3839a2ae1763565ffbb61cd754b34a783a315f62867c66dcdcf3cc4", func := "loop.example/g01050/laws.FnDesks", spec := "fnDesks", recurses := true, apart := false }
def FnDesksSaid : Prop := fnDesksRow.holds Tryz.pinned (OpenSpec.ofChange fnDesksSpec)

/-- ITS FALSE NEIGHBOUR: 'it returns false'. Refute it at one input. -/
def fnDesksWrong : ChangeSpec := { name := "fnDesks", fn := fun _ => fun
  | [d] => { results := [.lit (.bool false)], args := [d] }
  | _ => none }
def FnDesksWrongFalsely : Prop := fnDesksRow.holds Tryz.pinned (OpenSpec.ofChange fnDesksWrong)

/-- 'laws.FnExactRunConsole': WHATEVER THE INPUT: true; the input reads as it did. -/
def fnExactRunConsoleSpec : ChangeSpec := { name := "fnExactRunConsole", fn := fun _ => fun
  | [d] => { results := [.lit (.bool true)], args := [d] }
  | _ => none }
def fnExactRunConsoleRow : OpenClaim := { program := "ythbehhhblchhhaagreat", sum := "779b39f7b3839a2ae1763565ffbb61cd754b34a783a315f62867c66dcdcf3cc4", func := "loop.example/g01050/laws.FnExactRunConsole", spec := "fnExactRunConsole", recurses := true, apart := false }
def FnExactRunConsoleSaid : Prop := fnExactRunConsoleRow.holds Tryz.pinned (OpenSpec.ofChange fnExactRunConsoleSpec)

/-- ITS FALSE NEIGHBOUR: 'it returns false'. Refute it at one input. -/
def fnExactRunConsoleWrong : ChangeSpec := { name := "fnExactRunConsole", fn := fun _ => fun
  | [d] => { results := [.lit (.bool false)], args := [d] }
  | _ => none }
def FnExactRunConsoleWrongFalsely : Prop := fnExactRunConsoleRow.holds Tryz.pinned (OpenSpec.ofChange fnExactRunConsoleWrong)

/- THE SECOND FORM. 'bulk': how many values and letters a reading holds, each counted each time it is reached (what is shared counts as often as it is met; a slice's spare places count too). A statement '..UptoSaid' is the law's where the arguments, and the package variables that the reading takes, are together of bulk at most 1048576: NARROWER than '..Said'. Prove '..Said' where nothing that the law and all that it calls make is longer than what came in: it says more and counts as full. Else prove '..UptoSaid'. A law counts once. -/
mutual
def uptoBulk {H : Type} : DataW H → Nat
  | .lit (.string bytes) => bytes.length + 1
  | .lit _ => 1
  | .nil => 1
  | .ptr d => uptoBulk d + 1
  | .slice elems spare => uptoBulkAll elems + uptoBulkAll spare + 1
  | .agg parts => uptoBulkAll parts + 1
  | .iface _ d => uptoBulk d + 1
  | .map entries => uptoBulkEntries entries + 1
  | .held _ => 1
def uptoBulkAll {H : Type} : List (DataW H) → Nat
  | [] => 0
  | d :: r => uptoBulk d + uptoBulkAll r
def uptoBulkEntries {H : Type} : List (Lit × DataW H) → Nat
  | [] => 0
  | x :: r => uptoBulkEntry x + uptoBulkEntries r
def uptoBulkEntry {H : Type} : Lit × DataW H → Nat
  | (.string bytes, d) => bytes.length + uptoBulk d + 1
  | (_, d) => uptoBulk d + 1
 end
def uptoSmall : (H : Type) → List (DataW H) → Bool := fun _ ds => decide (uptoBulkAll ds ≤ 1048576)
def OpenSpec.upto (s : _root_.Go.ChangeSpec) : _root_.Go.OpenSpec := { _root_.Go.OpenSpec.ofChange s with cond := some uptoSmall }

/-- 'laws.FnConsoleLines', WHERE WHAT IT READS IS OF BULK AT MOST 1048576: true; the input reads as it did. -/
def fnConsoleLinesUptoRow : OpenClaim := { program := "ythbehhhblchhhaagreat", sum := "779b39f7b3839a2ae1763565ffbb61cd754b34a783a315f62867c66dcdcf3cc4", func := "loop.example/g01050/laws.FnConsoleLines", spec := "fnConsoleLines", recurses := true, apart := false, narrowed := true }
def FnConsoleLinesUptoSaid : Prop := fnConsoleLinesUptoRow.holds Tryz.pinned (OpenSpec.upto fnConsoleLinesSpec)

/-- 'laws.FnExactDeskAfter', WHERE WHAT IT READS IS OF BULK AT MOST 1048576: true; the input reads as it did. -/
def fnExactDeskAfterUptoRow : OpenClaim := { program := "ythbehhhblchhhaagreat", sum := "779b39f7b3839a2ae1763565ffbb61cd754b34a783a315f62867c66dcdcf3cc4", func := "loop.example/g01050/laws.FnExactDeskAfter", spec := "fnExactDeskAfter", recurses := true, apart := false, narrowed := true }
def FnExactDeskAfterUptoSaid : Prop := fnExactDeskAfterUptoRow.holds Tryz.pinned (OpenSpec.upto fnExactDeskAfterSpec)

/-- 'laws.FnDesks', WHERE WHAT IT READS IS OF BULK AT MOST 1048576: true; the input reads as it did. -/
def fnDesksUptoRow : OpenClaim := { program := "ythbehhhblchhhaagreat", sum := "779b39f7b3839a2ae1763565ffbb61cd754b34a783a315f62867c66dcdcf3cc4", func := "loop.example/g01050/laws.FnDesks", spec := "fnDesks", recurses := true, apart := false, narrowed := true }
def FnDesksUptoSaid : Prop := fnDesksUptoRow.holds Tryz.pinned (OpenSpec.upto fnDesksSpec)

/-- 'laws.FnExactRunConsole', WHERE WHAT IT READS IS OF BULK AT MOST 1048576: true; the input reads as it did. -/
def fnExactRunConsoleUptoRow : OpenClaim := { program := "ythbehhhblchhhaagreat", sum := "779b39f7b3839a2ae1763565ffbb61cd754b34a783a315f62867c66dcdcf3cc4", func := "loop.example/g01050/laws.FnExactRunConsole", spec := "fnExactRunConsole", recurses := true, apart := false, narrowed := true }
def FnExactRunConsoleUptoSaid : Prop := fnExactRunConsoleUptoRow.holds Tryz.pinned (OpenSpec.upto fnExactRunConsoleSpec)

end Rows
end Go.Proofs.YthbehhhblchhhaaGreat
