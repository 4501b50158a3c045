/-
  No cell of these rows narrows 'for every input' (looked for: loops, veiled, ifaces, maps, wideKeys, modest, calm, conditions, laid).
  DERIVED. THE GIVEN ROWS OF THIS SEAT. 10 by the template 'for every input the law returns true; each argument reads behind the call as it read before'; 0 by the template 'total and deterministic' (their statements: YtkdnclpgijkceaaTotals.lean).
  GIVEN WITH THE SEED: the statements are not yours to turn. If you find one false, say at which input.
  Laid BY PROGRAM, IN A SANDBOX (cutbox-rows.mjs): the forced cells as the released guide's own fill.sh prints them over the translation 3def41f8dd19eada… (all of the seat's roots in one cut). By AI agents, Wed Nov 11 2026. No macro, syntax, notation, axiom, sorry.
-/
import Derived.Test.YtkdnclpgijkceaaChecked
import GoSem.Claim
import GoSem.ClaimJoined
import GoSem.ClaimMapViews
import Derived.JoinedTies
import Derived.KernelRfl
namespace Go.Proofs.Ytkdnclpgijkceaa
/- THE CELL 'sum', in the pinned program and in every row, IS THE sha256 OF THE DUMP (.gsa) THAT YtkdnclpgijkceaaProg.lean LOADS. Nothing in Lean hashes anything: it is a label: what it is worth is what the hold of that sum in a sandbox is worth. -/
noncomputable def Try.pinned : Pinned := { name := "ytkdnclpgijkceaa", sum := "3def41f8dd19eada191fe735b47319a8f65d396e9b8ffef44d0a3dbcb761ee5c", checked := Try.checked }
namespace Rows
def none {H : Type} : Left H := { results := [], args := [] }

/-- 'laws.FnExactAreRecords': WHATEVER THE INPUT: true; the input reads as it did. -/
def fnExactAreRecordsSpec : ChangeSpec := { name := "fnExactAreRecords", fn := fun _ => fun
  | [d] => { results := [.lit (.bool true)], args := [d] }
  | _ => none }
def fnExactAreRecordsRow : OpenClaim := { program := "ytkdnclpgijkceaa", sum := "3def41f8dd19eada191fe735b47319a8f65d396e9b8ffef44d0a3dbcb761ee5c", func := "loop.example/g01050/laws.FnExactAreRecords", spec := "fnExactAreRecords", apart := false }
def FnExactAreRecordsSaid : Prop := fnExactAreRecordsRow.holds Try.pinned (OpenSpec.ofChange fnExactAreRecordsSpec)

/-- ITS FALSE NEIGHBOUR: 'it returns false'. Refute it at one input. -/
def fnExactAreRecordsWrong : ChangeSpec := { name := "fnExactAreRecords", fn := fun _ => fun
  | [d] => { results := [.lit (.bool false)], args := [d] }
  | _ => none }
def FnExactAreRecordsWrongFalsely : Prop := fnExactAreRecordsRow.holds Try.pinned (OpenSpec.ofChange fnExactAreRecordsWrong)

/-- 'laws.FnExactFileText': WHATEVER THE INPUT: true; the input reads as it did. -/
def fnExactFileTextSpec : ChangeSpec := { name := "fnExactFileText", fn := fun _ => fun
  | [d] => { results := [.lit (.bool true)], args := [d] }
  | _ => none }
def fnExactFileTextRow : OpenClaim := { program := "ytkdnclpgijkceaa", sum := "3def41f8dd19eada191fe735b47319a8f65d396e9b8ffef44d0a3dbcb761ee5c", func := "loop.example/g01050/laws.FnExactFileText", spec := "fnExactFileText", recurses := true, apart := false }
def FnExactFileTextSaid : Prop := fnExactFileTextRow.holds Try.pinned (OpenSpec.ofChange fnExactFileTextSpec)

/-- ITS FALSE NEIGHBOUR: 'it returns false'. Refute it at one input. -/
def fnExactFileTextWrong : ChangeSpec := { name := "fnExactFileText", fn := fun _ => fun
  | [d] => { results := [.lit (.bool false)], args := [d] }
  | _ => none }
def FnExactFileTextWrongFalsely : Prop := fnExactFileTextRow.holds Try.pinned (OpenSpec.ofChange fnExactFileTextWrong)

/-- 'laws.FnExactReplaceRecord': WHATEVER THE INPUT: true; the input reads as it did. -/
def fnExactReplaceRecordSpec : ChangeSpec := { name := "fnExactReplaceRecord", fn := fun _ => fun
  | [d1, d2] => { results := [.lit (.bool true)], args := [d1, d2] }
  | _ => none }
def fnExactReplaceRecordRow : OpenClaim := { program := "ytkdnclpgijkceaa", sum := "3def41f8dd19eada191fe735b47319a8f65d396e9b8ffef44d0a3dbcb761ee5c", func := "loop.example/g01050/laws.FnExactReplaceRecord", spec := "fnExactReplaceRecord", apart := false }
def FnExactReplaceRecordSaid : Prop := fnExactReplaceRecordRow.holds Try.pinned (OpenSpec.ofChange fnExactReplaceRecordSpec)

/-- ITS FALSE NEIGHBOUR: 'it returns false'. Refute it at one input. -/
def fnExactReplaceRecordWrong : ChangeSpec := { name := "fnExactReplaceRecord", fn := fun _ => fun
  | [d1, d2] => { results := [.lit (.bool false)], args := [d1, d2] }
  | _ => none }
def FnExactReplaceRecordWrongFalsely : Prop := fnExactReplaceRecordRow.holds Try.pinned (OpenSpec.ofChange fnExactReplaceRecordWrong)

/-- 'laws.FnExactIsFile': WHATEVER THE INPUT: true; the input reads as it did. -/
def fnExactIsFileSpec : ChangeSpec := { name := "fnExactIsFile", fn := fun _ => fun
  | [d] => { results := [.lit (.bool true)], args := [d] }
  | _ => none }
def fnExactIsFileRow : OpenClaim := { program := "ytkdnclpgijkceaa", sum := "3def41f8dd19eada191fe735b47319a8f65d396e9b8ffef44d0a3dbcb761ee5c", func := "loop.example/g01050/laws.FnExactIsFile", spec := "fnExactIsFile", recurses := true, apart := false }
def FnExactIsFileSaid : Prop := fnExactIsFileRow.holds Try.pinned (OpenSpec.ofChange fnExactIsFileSpec)

/-- ITS FALSE NEIGHBOUR: 'it returns false'. Refute it at one input. -/
def fnExactIsFileWrong : ChangeSpec := { name := "fnExactIsFile", fn := fun _ => fun
  | [d] => { results := [.lit (.bool false)], args := [d] }
  | _ => none }
def FnExactIsFileWrongFalsely : Prop := fnExactIsFileRow.holds Try.pinned (OpenSpec.ofChange fnExactIsFileWrong)

/-- 'laws.FnExactFirstLost': WHATEVER THE INPUT: true; the input reads as it did. -/
def fnExactFirstLostSpec : ChangeSpec := { name := "fnExactFirstLost", fn := fun _ => fun
  | [d] => { results := [.lit (.bool true)], args := [d] }
  | _ => none }
def fnExactFirstLostRow : OpenClaim := { program := "ytkdnclpgijkceaa", sum := "3def41f8dd19eada191fe735b47319a8f65d396e9b8ffef44d0a3dbcb761ee5c", func := "loop.example/g01050/laws.FnExactFirstLost", spec := "fnExactFirstLost", recurses := true, apart := false }
def FnExactFirstLostSaid : Prop := fnExactFirstLostRow.holds Try.pinned (OpenSpec.ofChange fnExactFirstLostSpec)

/-- ITS FALSE NEIGHBOUR: 'it returns false'. Refute it at one input. -/
def fnExactFirstLostWrong : ChangeSpec := { name := "fnExactFirstLost", fn := fun _ => fun
  | [d] => { results := [.lit (.bool false)], args := [d] }
  | _ => none }
def FnExactFirstLostWrongFalsely : Prop := fnExactFirstLostRow.holds Try.pinned (OpenSpec.ofChange fnExactFirstLostWrong)

/-- 'laws.FnExactSalvageFile': WHATEVER THE INPUT: true; the input reads as it did. -/
def fnExactSalvageFileSpec : ChangeSpec := { name := "fnExactSalvageFile", fn := fun _ => fun
  | [d] => { results := [.lit (.bool true)], args := [d] }
  | _ => none }
def fnExactSalvageFileRow : OpenClaim := { program := "ytkdnclpgijkceaa", sum := "3def41f8dd19eada191fe735b47319a8f65d396e9b8ffef44d0a3dbcb761ee5c", func := "loop.example/g01050/laws.FnExactSalvageFile", spec := "fnExactSalvageFile", recurses := true, apart := false }
def FnExactSalvageFileSaid : Prop := fnExactSalvageFileRow.holds Try.pinned (OpenSpec.ofChange fnExactSalvageFileSpec)

/-- ITS FALSE NEIGHBOUR: 'it returns false'. Refute it at one input. -/
def fnExactSalvageFileWrong : ChangeSpec := { name := "fnExactSalvageFile", fn := fun _ => fun
  | [d] => { results := [.lit (.bool false)], args := [d] }
  | _ => none }
def FnExactSalvageFileWrongFalsely : Prop := fnExactSalvageFileRow.holds Try.pinned (OpenSpec.ofChange fnExactSalvageFileWrong)

/-- 'laws.FnExactMissingNumbers': WHATEVER THE INPUT: true; the input reads as it did. -/
def fnExactMissingNumbersSpec : ChangeSpec := { name := "fnExactMissingNumbers", fn := fun _ => fun
  | [d] => { results := [.lit (.bool true)], args := [d] }
  | _ => none }
def fnExactMissingNumbersRow : OpenClaim := { program := "ytkdnclpgijkceaa", sum := "3def41f8dd19eada191fe735b47319a8f65d396e9b8ffef44d0a3dbcb761ee5c", func := "loop.example/g01050/laws.FnExactMissingNumbers", spec := "fnExactMissingNumbers", recurses := true, apart := false }
def FnExactMissingNumbersSaid : Prop := fnExactMissingNumbersRow.holds Try.pinned (OpenSpec.ofChange fnExactMissingNumbersSpec)

/-- ITS FALSE NEIGHBOUR: 'it returns false'. Refute it at one input. -/
def fnExactMissingNumbersWrong : ChangeSpec := { name := "fnExactMissingNumbers", fn := fun _ => fun
  | [d] => { results := [.lit (.bool false)], args := [d] }
  | _ => none }
def FnExactMissingNumbersWrongFalsely : Prop := fnExactMissingNumbersRow.holds Try.pinned (OpenSpec.ofChange fnExactMissingNumbersWrong)

/-- 'laws.FnExactMergeCopies': WHATEVER THE INPUT: true; the input reads as it did. -/
def fnExactMergeCopiesSpec : ChangeSpec := { name := "fnExactMergeCopies", fn := fun _ => fun
  | [d1, d2] => { results := [.lit (.bool true)], args := [d1, d2] }
  | _ => none }
def fnExactMergeCopiesRow : OpenClaim := { program := "ytkdnclpgijkceaa", sum := "3def41f8dd19eada191fe735b47319a8f65d396e9b8ffef44d0a3dbcb761ee5c", func := "loop.example/g01050/laws.FnExactMergeCopies", spec := "fnExactMergeCopies", recurses := true, apart := false }
def FnExactMergeCopiesSaid : Prop := fnExactMergeCopiesRow.holds Try.pinned (OpenSpec.ofChange fnExactMergeCopiesSpec)

/-- ITS FALSE NEIGHBOUR: 'it returns false'. Refute it at one input. -/
def fnExactMergeCopiesWrong : ChangeSpec := { name := "fnExactMergeCopies", fn := fun _ => fun
  | [d1, d2] => { results := [.lit (.bool false)], args := [d1, d2] }
  | _ => none }
def FnExactMergeCopiesWrongFalsely : Prop := fnExactMergeCopiesRow.holds Try.pinned (OpenSpec.ofChange fnExactMergeCopiesWrong)

/-- 'laws.FnFiles': WHATEVER THE INPUT: true; the input reads as it did. -/
def fnFilesSpec : ChangeSpec := { name := "fnFiles", fn := fun _ => fun
  | [d] => { results := [.lit (.bool true)], args := [d] }
  | _ => none }
def fnFilesRow : OpenClaim := { program := "ytkdnclpgijkceaa", sum := "3def41f8dd19eada191fe735b47319a8f65d396e9b8ffef44d0a3dbcb761ee5c", func := "loop.example/g01050/laws.FnFiles", spec := "fnFiles", recurses := true, apart := false }
def FnFilesSaid : Prop := fnFilesRow.holds Try.pinned (OpenSpec.ofChange fnFilesSpec)

/-- ITS FALSE NEIGHBOUR: 'it returns false'. Refute it at one input. -/
def fnFilesWrong : ChangeSpec := { name := "fnFiles", fn := fun _ => fun
  | [d] => { results := [.lit (.bool false)], args := [d] }
  | _ => none }
def FnFilesWrongFalsely : Prop := fnFilesRow.holds Try.pinned (OpenSpec.ofChange fnFilesWrong)

/-- 'laws.FnCopies': WHATEVER THE INPUT: true; the input reads as it did. -/
def fnCopiesSpec : ChangeSpec := { name := "fnCopies", fn := fun _ => fun
  | [d] => { results := [.lit (.bool true)], args := [d] }
  | _ => none }
def fnCopiesRow : OpenClaim := { program := "ytkdnclpgijkceaa", sum := "3def41f8dd19eada191fe735b47319a8f65d396e9b8ffef44d0a3dbcb761ee5c", func := "loop.example/g01050/laws.FnCopies", spec := "fnCopies", recurses := true, apart := false }
def FnCopiesSaid : Prop := fnCopiesRow.holds Try.pinned (OpenSpec.ofChange fnCopiesSpec)

/-- ITS FALSE NEIGHBOUR: 'it returns false'. Refute it at one input. -/
def fnCopiesWrong : ChangeSpec := { name := "fnCopies", fn := fun _ => fun
  | [d] => { results := [.lit (.bool false)], args := [d] }
  | _ => none }
def FnCopiesWrongFalsely : Prop := fnCopiesRow.holds Try.pinned (OpenSpec.ofChange fnCopiesWrong)

/- THE SECOND FORM. 'bulk': how many values and letters a reading holds, each counted each time it is reached (what is shared counts as often as it is met; a slice's spare places count too). A statement '..UptoSaid' is the law's where the arguments, and the package variables that the reading takes, are together of bulk at most 1048576: NARROWER than '..Said'. Prove '..Said' where nothing that the law and all that it calls make is longer than what came in: it says more and counts as full. Else prove '..UptoSaid'. A law counts once. -/
mutual
def uptoBulk {H : Type} : DataW H → Nat
  | .lit (.string bytes) => bytes.length + 1
  | .lit _ => 1
  | .nil => 1
  | .ptr d => uptoBulk d + 1
  | .slice elems spare => uptoBulkAll elems + uptoBulkAll spare + 1
  | .agg parts => uptoBulkAll parts + 1
  | .iface _ d => uptoBulk d + 1
  | .map entries => uptoBulkEntries entries + 1
  | .held _ => 1
def uptoBulkAll {H : Type} : List (DataW H) → Nat
  | [] => 0
  | d :: r => uptoBulk d + uptoBulkAll r
def uptoBulkEntries {H : Type} : List (Lit × DataW H) → Nat
  | [] => 0
  | x :: r => uptoBulkEntry x + uptoBulkEntries r
def uptoBulkEntry {H : Type} : Lit × DataW H → Nat
  | (.string bytes, d) => bytes.length + uptoBulk d + 1
  | (_, d) => uptoBulk d + 1
 end
def uptoSmall : (H : Type) → List (DataW H) → Bool := fun _ ds => decide (uptoBulkAll ds ≤ 1048576)
def OpenSpec.upto (s : _root_.Go.ChangeSpec) : _root_.Go.OpenSpec := { _root_.Go.OpenSpec.ofChange s with cond := some uptoSmall }

/-- 'laws.FnExactAreRecords', WHERE WHAT IT READS IS OF BULK AT MOST 1048576: true; the input reads as it did. -/
def fnExactAreRecordsUptoRow : OpenClaim := { program := "ytkdnclpgijkceaa", sum := "3def41f8dd19eada191fe735b47319a8f65d396e9b8ffef44d0a3dbcb761ee5c", func := "loop.example/g01050/laws.FnExactAreRecords", spec := "fnExactAreRecords", apart := false, narrowed := true }
def FnExactAreRecordsUptoSaid : Prop := fnExactAreRecordsUptoRow.holds Try.pinned (OpenSpec.upto fnExactAreRecordsSpec)

/-- 'laws.FnExactFileText', WHERE WHAT IT READS IS OF BULK AT MOST 1048576: true; the input reads as it did. -/
def fnExactFileTextUptoRow : OpenClaim := { program := "ytkdnclpgijkceaa", sum := "3def41f8dd19eada191fe735b47319a8f65d396e9b8ffef44d0a3dbcb761ee5c", func := "loop.example/g01050/laws.FnExactFileText", spec := "fnExactFileText", recurses := true, apart := false, narrowed := true }
def FnExactFileTextUptoSaid : Prop := fnExactFileTextUptoRow.holds Try.pinned (OpenSpec.upto fnExactFileTextSpec)

/-- 'laws.FnExactReplaceRecord', WHERE WHAT IT READS IS OF BULK AT MOST 1048576: true; the input reads as it did. -/
def fnExactReplaceRecordUptoRow : OpenClaim := { program := "ytkdnclpgijkceaa", sum := "3def41f8dd19eada191fe735b47319a8f65d396e9b8ffef44d0a3dbcb761ee5c", func := "loop.example/g01050/laws.FnExactReplaceRecord", spec := "fnExactReplaceRecord", apart := false, narrowed := true }
def FnExactReplaceRecordUptoSaid : Prop := fnExactReplaceRecordUptoRow.holds Try.pinned (OpenSpec.upto fnExactReplaceRecordSpec)

/-- 'laws.FnExactIsFile', WHERE WHAT IT READS IS OF BULK AT MOST 1048576: true; the input reads as it did. -/
def fnExactIsFileUptoRow : OpenClaim := { program := "ytkdnclpgijkceaa", sum := "3def41f8dd19eada191fe735b47319a8f65d396e9b8ffef44d0a3dbcb761ee5c", func := "loop.example/g01050/laws.FnExactIsFile", spec := "fnExactIsFile", recurses := true, apart := false, narrowed := true }
def FnExactIsFileUptoSaid : Prop := fnExactIsFileUptoRow.holds Try.pinned (OpenSpec.upto fnExactIsFileSpec)

/-- 'laws.FnExactFirstLost', WHERE WHAT IT READS IS OF BULK AT MOST 1048576: true; the input reads as it did. -/
def fnExactFirstLostUptoRow : OpenClaim := { program := "ytkdnclpgijkceaa", sum := "3def41f8dd19eada191fe735b47319a8f65d396e9b8ffef44d0a3dbcb761ee5c", func := "loop.example/g01050/laws.FnExactFirstLost", spec := "fnExactFirstLost", recurses := true, apart := false, narrowed := true }
def FnExactFirstLostUptoSaid : Prop := fnExactFirstLostUptoRow.holds Try.pinned (OpenSpec.upto fnExactFirstLostSpec)

/-- 'laws.FnExactSalvageFile', WHERE WHAT IT READS IS OF BULK AT MOST 1048576: true; the input reads as it did. -/
def fnExactSalvageFileUptoRow : OpenClaim := { program := "ytkdnclpgijkceaa", sum := "3def41f8dd19eada191fe735b47319a8f65d396e9b8ffef44d0a3dbcb761ee5c", func := "loop.example/g01050/laws.FnExactSalvageFile", spec := "fnExactSalvageFile", recurses := true, apart := false, narrowed := true }
def FnExactSalvageFileUptoSaid : Prop := fnExactSalvageFileUptoRow.holds Try.pinned (OpenSpec.upto fnExactSalvageFileSpec)

/-- 'laws.FnExactMissingNumbers', WHERE WHAT IT READS IS OF BULK AT MOST 1048576: true; the input reads as it did. -/
def fnExactMissingNumbersUptoRow : OpenClaim := { program := "ytkdnclpgijkceaa", sum := "3def41f8dd19eada191fe735b47319a8f65d396e9b8ffef44d0a3dbcb761ee5c", func := "loop.example/g01050/laws.FnExactMissingNumbers", spec := "fnExactMissingNumbers", recurses := true, apart := false, narrowed := true }
def FnExactMissingNumbersUptoSaid : Prop := fnExactMissingNumbersUptoRow.holds Try.pinned (OpenSpec.upto fnExactMissingNumbersSpec)

/-- 'laws.FnExactMergeCopies', WHERE WHAT IT READS IS OF BULK AT MOST 1048576: true; the input reads as it did. -/
def fnExactMergeCopiesUptoRow : OpenClaim := { program := "ytkdnclpgijkceaa", sum := "3def41f8dd19eada191fe735b47319a8f65d396e9b8ffef44d0a3dbcb761ee5c", func := "loop.example/g01050/laws.FnExactMergeCopies", spec := "fnExactMergeCopies", recurses := true, apart := false, narrowed := true }
def FnExactMergeCopiesUptoSaid : Prop := fnExactMergeCopiesUptoRow.holds Try.pinned (OpenSpec.upto fnExactMergeCopiesSpec)

/-- 'laws.FnFiles', WHERE WHAT IT READS IS OF BULK AT MOST 1048576: true; the input reads as it did. -/
def fnFilesUptoRow : OpenClaim := { program := "ytkdnclpgijkceaa", sum := "3def41f8dd19eada191fe735b47319a8f65d396e9b8ffef44d0a3dbcb761ee5c", func := "loop.example/g01050/laws.FnFiles", spec := "fnFiles", recurses := true, apart := false, narrowed := true }
def FnFilesUptoSaid : Prop := fnFilesUptoRow.holds Try.pinned (OpenSpec.upto fnFilesSpec)

/-- 'laws.FnCopies', WHERE WHAT IT READS IS OF BULK AT MOST 1048576: true; the input reads as it did. -/
def fnCopiesUptoRow : OpenClaim := { program := "ytkdnclpgijkceaa", sum := "3def41f8dd19eada191fe735b47319a8f65d396e9b8ffef44d0a3dbcb761ee5c", func := "loop.example/g01050/laws.FnCopies", spec := "fnCopies", recurses := true, apart := false, narrowed := true }
def FnCopiesUptoSaid : Prop := fnCopiesUptoRow.holds Try.pinned (OpenSpec.upto fnCopiesSpec)

end Rows
end Go.Proofs.Ytkdnclpgijkceaa
