/-
  No cell of these rows narrows 'for every input' (looked for: loops, veiled, ifaces, maps, wideKeys, modest, calm, conditions, laid).
  DERIVED. THE GIVEN ROWS OF THIS SEAT. 12 by the template 'for every input the law returns true; each argument reads behind the call as it read before'; 0 by the template 'total and deterministic' (their statements: YtocedhbefdaefaaTotals.lean).
  GIVEN WITH THE SEED: the statements are not yours to turn. If you find one false, say at which input.
  Laid BY PROGRAM, IN A SANDBOX (cutbox-rows.mjs): the forced cells as the released guide's own fill.sh prints them over the translation a4fa0b57a84d52ba… (all of the seat's roots in one cut). By AI agents, Wed Nov 11 2026. No macro, syntax, notation, axiom, sorry.
-/
import Derived.Test.YtocedhbefdaefaaChecked
import GoSem.Claim
import GoSem.ClaimJoined
import GoSem.ClaimMapViews
import Derived.JoinedTies
import Derived.KernelRfl
namespace Go.Proofs.Ytocedhbefdaefaa
/- THE CELL 'sum', in the pinned program and in every row, IS THE sha256 OF THE DUMP (.gsa) THAT YtocedhbefdaefaaProg.lean LOADS. Nothing in Lean hashes anything: it is a label: what it is worth is what the hold of that sum in a sandbox is worth. -/
noncomputable def Try.pinned : Pinned := { name := "ytocedhbefdaefaa", sum := "a4fa0b57a84d52ba512a65007a819d400fde3f55faa7998d57bc48e7269bd4a8", checked := Try.checked }
namespace Rows
def none {H : Type} : Left H := { results := [], args := [] }

/-- 'laws.FnExactIsDayBook': WHATEVER THE INPUT: true; the input reads as it did. -/
def fnExactIsDayBookSpec : ChangeSpec := { name := "fnExactIsDayBook", fn := fun _ => fun
  | [d] => { results := [.lit (.bool true)], args := [d] }
  | _ => none }
def fnExactIsDayBookRow : OpenClaim := { program := "ytocedhbefdaefaa", sum := "a4fa0b57a84d52ba512a65007a819d400fde3f55faa7998d57bc48e7269bd4a8", func := "loop.example/g01050/laws.FnExactIsDayBook", spec := "fnExactIsDayBook", apart := false }
def FnExactIsDayBookSaid : Prop := fnExactIsDayBookRow.holds Try.pinned (OpenSpec.ofChange fnExactIsDayBookSpec)

/-- ITS FALSE NEIGHBOUR: 'it returns false'. Refute it at one input. -/
def fnExactIsDayBookWrong : ChangeSpec := { name := "fnExactIsDayBook", fn := fun _ => fun
  | [d] => { results := [.lit (.bool false)], args := [d] }
  | _ => none }
def FnExactIsDayBookWrongFalsely : Prop := fnExactIsDayBookRow.holds Try.pinned (OpenSpec.ofChange fnExactIsDayBookWrong)

/-- 'laws.FnExactOwesOf': WHATEVER THE INPUT: true; the input reads as it did. -/
def fnExactOwesOfSpec : ChangeSpec := { name := "fnExactOwesOf", fn := fun _ => fun
  | [d1, d2] => { results := [.lit (.bool true)], args := [d1, d2] }
  | _ => none }
def fnExactOwesOfRow : OpenClaim := { program := "ytocedhbefdaefaa", sum := "a4fa0b57a84d52ba512a65007a819d400fde3f55faa7998d57bc48e7269bd4a8", func := "loop.example/g01050/laws.FnExactOwesOf", spec := "fnExactOwesOf", apart := false }
def FnExactOwesOfSaid : Prop := fnExactOwesOfRow.holds Try.pinned (OpenSpec.ofChange fnExactOwesOfSpec)

/-- ITS FALSE NEIGHBOUR: 'it returns false'. Refute it at one input. -/
def fnExactOwesOfWrong : ChangeSpec := { name := "fnExactOwesOf", fn := fun _ => fun
  | [d1, d2] => { results := [.lit (.bool false)], args := [d1, d2] }
  | _ => none }
def FnExactOwesOfWrongFalsely : Prop := fnExactOwesOfRow.holds Try.pinned (OpenSpec.ofChange fnExactOwesOfWrong)

/-- 'laws.FnExactOldestDebt': WHATEVER THE INPUT: true; the input reads as it did. -/
def fnExactOldestDebtSpec : ChangeSpec := { name := "fnExactOldestDebt", fn := fun _ => fun
  | [d1, d2] => { results := [.lit (.bool true)], args := [d1, d2] }
  | _ => none }
def fnExactOldestDebtRow : OpenClaim := { program := "ytocedhbefdaefaa", sum := "a4fa0b57a84d52ba512a65007a819d400fde3f55faa7998d57bc48e7269bd4a8", func := "loop.example/g01050/laws.FnExactOldestDebt", spec := "fnExactOldestDebt", apart := false }
def FnExactOldestDebtSaid : Prop := fnExactOldestDebtRow.holds Try.pinned (OpenSpec.ofChange fnExactOldestDebtSpec)

/-- ITS FALSE NEIGHBOUR: 'it returns false'. Refute it at one input. -/
def fnExactOldestDebtWrong : ChangeSpec := { name := "fnExactOldestDebt", fn := fun _ => fun
  | [d1, d2] => { results := [.lit (.bool false)], args := [d1, d2] }
  | _ => none }
def FnExactOldestDebtWrongFalsely : Prop := fnExactOldestDebtRow.holds Try.pinned (OpenSpec.ofChange fnExactOldestDebtWrong)

/-- 'laws.FnExactLowestCash': WHATEVER THE INPUT: true; the input reads as it did. -/
def fnExactLowestCashSpec : ChangeSpec := { name := "fnExactLowestCash", fn := fun _ => fun
  | [d] => { results := [.lit (.bool true)], args := [d] }
  | _ => none }
def fnExactLowestCashRow : OpenClaim := { program := "ytocedhbefdaefaa", sum := "a4fa0b57a84d52ba512a65007a819d400fde3f55faa7998d57bc48e7269bd4a8", func := "loop.example/g01050/laws.FnExactLowestCash", spec := "fnExactLowestCash", apart := false }
def FnExactLowestCashSaid : Prop := fnExactLowestCashRow.holds Try.pinned (OpenSpec.ofChange fnExactLowestCashSpec)

/-- ITS FALSE NEIGHBOUR: 'it returns false'. Refute it at one input. -/
def fnExactLowestCashWrong : ChangeSpec := { name := "fnExactLowestCash", fn := fun _ => fun
  | [d] => { results := [.lit (.bool false)], args := [d] }
  | _ => none }
def FnExactLowestCashWrongFalsely : Prop := fnExactLowestCashRow.holds Try.pinned (OpenSpec.ofChange fnExactLowestCashWrong)

/-- 'laws.FnExactCashOf': WHATEVER THE INPUT: true; the input reads as it did. -/
def fnExactCashOfSpec : ChangeSpec := { name := "fnExactCashOf", fn := fun _ => fun
  | [d1, d2] => { results := [.lit (.bool true)], args := [d1, d2] }
  | _ => none }
def fnExactCashOfRow : OpenClaim := { program := "ytocedhbefdaefaa", sum := "a4fa0b57a84d52ba512a65007a819d400fde3f55faa7998d57bc48e7269bd4a8", func := "loop.example/g01050/laws.FnExactCashOf", spec := "fnExactCashOf", apart := false }
def FnExactCashOfSaid : Prop := fnExactCashOfRow.holds Try.pinned (OpenSpec.ofChange fnExactCashOfSpec)

/-- ITS FALSE NEIGHBOUR: 'it returns false'. Refute it at one input. -/
def fnExactCashOfWrong : ChangeSpec := { name := "fnExactCashOf", fn := fun _ => fun
  | [d1, d2] => { results := [.lit (.bool false)], args := [d1, d2] }
  | _ => none }
def FnExactCashOfWrongFalsely : Prop := fnExactCashOfRow.holds Try.pinned (OpenSpec.ofChange fnExactCashOfWrong)

/-- 'laws.FnExactAddEntry': WHATEVER THE INPUT: true; the input reads as it did. -/
def fnExactAddEntrySpec : ChangeSpec := { name := "fnExactAddEntry", fn := fun _ => fun
  | [d1, d2] => { results := [.lit (.bool true)], args := [d1, d2] }
  | _ => none }
def fnExactAddEntryRow : OpenClaim := { program := "ytocedhbefdaefaa", sum := "a4fa0b57a84d52ba512a65007a819d400fde3f55faa7998d57bc48e7269bd4a8", func := "loop.example/g01050/laws.FnExactAddEntry", spec := "fnExactAddEntry", apart := false }
def FnExactAddEntrySaid : Prop := fnExactAddEntryRow.holds Try.pinned (OpenSpec.ofChange fnExactAddEntrySpec)

/-- ITS FALSE NEIGHBOUR: 'it returns false'. Refute it at one input. -/
def fnExactAddEntryWrong : ChangeSpec := { name := "fnExactAddEntry", fn := fun _ => fun
  | [d1, d2] => { results := [.lit (.bool false)], args := [d1, d2] }
  | _ => none }
def FnExactAddEntryWrongFalsely : Prop := fnExactAddEntryRow.holds Try.pinned (OpenSpec.ofChange fnExactAddEntryWrong)

/-- 'laws.FnExactClosedDays': WHATEVER THE INPUT: true; the input reads as it did. -/
def fnExactClosedDaysSpec : ChangeSpec := { name := "fnExactClosedDays", fn := fun _ => fun
  | [d] => { results := [.lit (.bool true)], args := [d] }
  | _ => none }
def fnExactClosedDaysRow : OpenClaim := { program := "ytocedhbefdaefaa", sum := "a4fa0b57a84d52ba512a65007a819d400fde3f55faa7998d57bc48e7269bd4a8", func := "loop.example/g01050/laws.FnExactClosedDays", spec := "fnExactClosedDays", apart := false }
def FnExactClosedDaysSaid : Prop := fnExactClosedDaysRow.holds Try.pinned (OpenSpec.ofChange fnExactClosedDaysSpec)

/-- ITS FALSE NEIGHBOUR: 'it returns false'. Refute it at one input. -/
def fnExactClosedDaysWrong : ChangeSpec := { name := "fnExactClosedDays", fn := fun _ => fun
  | [d] => { results := [.lit (.bool false)], args := [d] }
  | _ => none }
def FnExactClosedDaysWrongFalsely : Prop := fnExactClosedDaysRow.holds Try.pinned (OpenSpec.ofChange fnExactClosedDaysWrong)

/-- 'laws.FnExactDaySums': WHATEVER THE INPUT: true; the input reads as it did. -/
def fnExactDaySumsSpec : ChangeSpec := { name := "fnExactDaySums", fn := fun _ => fun
  | [d1, d2] => { results := [.lit (.bool true)], args := [d1, d2] }
  | _ => none }
def fnExactDaySumsRow : OpenClaim := { program := "ytocedhbefdaefaa", sum := "a4fa0b57a84d52ba512a65007a819d400fde3f55faa7998d57bc48e7269bd4a8", func := "loop.example/g01050/laws.FnExactDaySums", spec := "fnExactDaySums", apart := false }
def FnExactDaySumsSaid : Prop := fnExactDaySumsRow.holds Try.pinned (OpenSpec.ofChange fnExactDaySumsSpec)

/-- ITS FALSE NEIGHBOUR: 'it returns false'. Refute it at one input. -/
def fnExactDaySumsWrong : ChangeSpec := { name := "fnExactDaySums", fn := fun _ => fun
  | [d1, d2] => { results := [.lit (.bool false)], args := [d1, d2] }
  | _ => none }
def FnExactDaySumsWrongFalsely : Prop := fnExactDaySumsRow.holds Try.pinned (OpenSpec.ofChange fnExactDaySumsWrong)

/-- 'laws.FnExactPayAll': WHATEVER THE INPUT: true; the input reads as it did. -/
def fnExactPayAllSpec : ChangeSpec := { name := "fnExactPayAll", fn := fun _ => fun
  | [d1, d2] => { results := [.lit (.bool true)], args := [d1, d2] }
  | _ => none }
def fnExactPayAllRow : OpenClaim := { program := "ytocedhbefdaefaa", sum := "a4fa0b57a84d52ba512a65007a819d400fde3f55faa7998d57bc48e7269bd4a8", func := "loop.example/g01050/laws.FnExactPayAll", spec := "fnExactPayAll", apart := false }
def FnExactPayAllSaid : Prop := fnExactPayAllRow.holds Try.pinned (OpenSpec.ofChange fnExactPayAllSpec)

/-- ITS FALSE NEIGHBOUR: 'it returns false'. Refute it at one input. -/
def fnExactPayAllWrong : ChangeSpec := { name := "fnExactPayAll", fn := fun _ => fun
  | [d1, d2] => { results := [.lit (.bool false)], args := [d1, d2] }
  | _ => none }
def FnExactPayAllWrongFalsely : Prop := fnExactPayAllRow.holds Try.pinned (OpenSpec.ofChange fnExactPayAllWrong)

/-- 'laws.FnExactDebtors': WHATEVER THE INPUT: true; the input reads as it did. -/
def fnExactDebtorsSpec : ChangeSpec := { name := "fnExactDebtors", fn := fun _ => fun
  | [d] => { results := [.lit (.bool true)], args := [d] }
  | _ => none }
def fnExactDebtorsRow : OpenClaim := { program := "ytocedhbefdaefaa", sum := "a4fa0b57a84d52ba512a65007a819d400fde3f55faa7998d57bc48e7269bd4a8", func := "loop.example/g01050/laws.FnExactDebtors", spec := "fnExactDebtors", apart := false }
def FnExactDebtorsSaid : Prop := fnExactDebtorsRow.holds Try.pinned (OpenSpec.ofChange fnExactDebtorsSpec)

/-- ITS FALSE NEIGHBOUR: 'it returns false'. Refute it at one input. -/
def fnExactDebtorsWrong : ChangeSpec := { name := "fnExactDebtors", fn := fun _ => fun
  | [d] => { results := [.lit (.bool false)], args := [d] }
  | _ => none }
def FnExactDebtorsWrongFalsely : Prop := fnExactDebtorsRow.holds Try.pinned (OpenSpec.ofChange fnExactDebtorsWrong)

/-- 'laws.FnEntries': WHATEVER THE INPUT: true; the input reads as it did. -/
def fnEntriesSpec : ChangeSpec := { name := "fnEntries", fn := fun _ => fun
  | [d] => { results := [.lit (.bool true)], args := [d] }
  | _ => none }
def fnEntriesRow : OpenClaim := { program := "ytocedhbefdaefaa", sum := "a4fa0b57a84d52ba512a65007a819d400fde3f55faa7998d57bc48e7269bd4a8", func := "loop.example/g01050/laws.FnEntries", spec := "fnEntries", apart := false }
def FnEntriesSaid : Prop := fnEntriesRow.holds Try.pinned (OpenSpec.ofChange fnEntriesSpec)

/-- ITS FALSE NEIGHBOUR: 'it returns false'. Refute it at one input. -/
def fnEntriesWrong : ChangeSpec := { name := "fnEntries", fn := fun _ => fun
  | [d] => { results := [.lit (.bool false)], args := [d] }
  | _ => none }
def FnEntriesWrongFalsely : Prop := fnEntriesRow.holds Try.pinned (OpenSpec.ofChange fnEntriesWrong)

/-- 'laws.FnDebts': WHATEVER THE INPUT: true; the input reads as it did. -/
def fnDebtsSpec : ChangeSpec := { name := "fnDebts", fn := fun _ => fun
  | [d] => { results := [.lit (.bool true)], args := [d] }
  | _ => none }
def fnDebtsRow : OpenClaim := { program := "ytocedhbefdaefaa", sum := "a4fa0b57a84d52ba512a65007a819d400fde3f55faa7998d57bc48e7269bd4a8", func := "loop.example/g01050/laws.FnDebts", spec := "fnDebts", apart := false }
def FnDebtsSaid : Prop := fnDebtsRow.holds Try.pinned (OpenSpec.ofChange fnDebtsSpec)

/-- ITS FALSE NEIGHBOUR: 'it returns false'. Refute it at one input. -/
def fnDebtsWrong : ChangeSpec := { name := "fnDebts", fn := fun _ => fun
  | [d] => { results := [.lit (.bool false)], args := [d] }
  | _ => none }
def FnDebtsWrongFalsely : Prop := fnDebtsRow.holds Try.pinned (OpenSpec.ofChange fnDebtsWrong)

/- THE SECOND FORM. 'bulk': how many values and letters a reading holds, each counted each time it is reached (what is shared counts as often as it is met; a slice's spare places count too). A statement '..UptoSaid' is the law's where the arguments, and the package variables that the reading takes, are together of bulk at most 1048576: NARROWER than '..Said'. Prove '..Said' where nothing that the law and all that it calls make is longer than what came in: it says more and counts as full. Else prove '..UptoSaid'. A law counts once. -/
mutual
def uptoBulk {H : Type} : DataW H → Nat
  | .lit (.string bytes) => bytes.length + 1
  | .lit _ => 1
  | .nil => 1
  | .ptr d => uptoBulk d + 1
  | .slice elems spare => uptoBulkAll elems + uptoBulkAll spare + 1
  | .agg parts => uptoBulkAll parts + 1
  | .iface _ d => uptoBulk d + 1
  | .map entries => uptoBulkEntries entries + 1
  | .held _ => 1
def uptoBulkAll {H : Type} : List (DataW H) → Nat
  | [] => 0
  | d :: r => uptoBulk d + uptoBulkAll r
def uptoBulkEntries {H : Type} : List (Lit × DataW H) → Nat
  | [] => 0
  | x :: r => uptoBulkEntry x + uptoBulkEntries r
def uptoBulkEntry {H : Type} : Lit × DataW H → Nat
  | (.string bytes, d) => bytes.length + uptoBulk d + 1
  | (_, d) => uptoBulk d + 1
 end
def uptoSmall : (H : Type) → List (DataW H) → Bool := fun _ ds => decide (uptoBulkAll ds ≤ 1048576)
def OpenSpec.upto (s : _root_.Go.ChangeSpec) : _root_.Go.OpenSpec := { _root_.Go.OpenSpec.ofChange s with cond := some uptoSmall }

/-- 'laws.FnExactIsDayBook', WHERE WHAT IT READS IS OF BULK AT MOST 1048576: true; the input reads as it did. -/
def fnExactIsDayBookUptoRow : OpenClaim := { program := "ytocedhbefdaefaa", sum := "a4fa0b57a84d52ba512a65007a819d400fde3f55faa7998d57bc48e7269bd4a8", func := "loop.example/g01050/laws.FnExactIsDayBook", spec := "fnExactIsDayBook", apart := false, narrowed := true }
def FnExactIsDayBookUptoSaid : Prop := fnExactIsDayBookUptoRow.holds Try.pinned (OpenSpec.upto fnExactIsDayBookSpec)

/-- 'laws.FnExactOwesOf', WHERE WHAT IT READS IS OF BULK AT MOST 1048576: true; the input reads as it did. -/
def fnExactOwesOfUptoRow : OpenClaim := { program := "ytocedhbefdaefaa", sum := "a4fa0b57a84d52ba512a65007a819d400fde3f55faa7998d57bc48e7269bd4a8", func := "loop.example/g01050/laws.FnExactOwesOf", spec := "fnExactOwesOf", apart := false, narrowed := true }
def FnExactOwesOfUptoSaid : Prop := fnExactOwesOfUptoRow.holds Try.pinned (OpenSpec.upto fnExactOwesOfSpec)

/-- 'laws.FnExactOldestDebt', WHERE WHAT IT READS IS OF BULK AT MOST 1048576: true; the input reads as it did. -/
def fnExactOldestDebtUptoRow : OpenClaim := { program := "ytocedhbefdaefaa", sum := "a4fa0b57a84d52ba512a65007a819d400fde3f55faa7998d57bc48e7269bd4a8", func := "loop.example/g01050/laws.FnExactOldestDebt", spec := "fnExactOldestDebt", apart := false, narrowed := true }
def FnExactOldestDebtUptoSaid : Prop := fnExactOldestDebtUptoRow.holds Try.pinned (OpenSpec.upto fnExactOldestDebtSpec)

/-- 'laws.FnExactLowestCash', WHERE WHAT IT READS IS OF BULK AT MOST 1048576: true; the input reads as it did. -/
def fnExactLowestCashUptoRow : OpenClaim := { program := "ytocedhbefdaefaa", sum := "a4fa0b57a84d52ba512a65007a819d400fde3f55faa7998d57bc48e7269bd4a8", func := "loop.example/g01050/laws.FnExactLowestCash", spec := "fnExactLowestCash", apart := false, narrowed := true }
def FnExactLowestCashUptoSaid : Prop := fnExactLowestCashUptoRow.holds Try.pinned (OpenSpec.upto fnExactLowestCashSpec)

/-- 'laws.FnExactCashOf', WHERE WHAT IT READS IS OF BULK AT MOST 1048576: true; the input reads as it did. -/
def fnExactCashOfUptoRow : OpenClaim := { program := "ytocedhbefdaefaa", sum := "a4fa0b57a84d52ba512a65007a819d400fde3f55faa7998d57bc48e7269bd4a8", func := "loop.example/g01050/laws.FnExactCashOf", spec := "fnExactCashOf", apart := false, narrowed := true }
def FnExactCashOfUptoSaid : Prop := fnExactCashOfUptoRow.holds Try.pinned (OpenSpec.upto fnExactCashOfSpec)

/-- 'laws.FnExactAddEntry', WHERE WHAT IT READS IS OF BULK AT MOST 1048576: true; the input reads as it did. -/
def fnExactAddEntryUptoRow : OpenClaim := { program := "ytocedhbefdaefaa", sum := "a4fa0b57a84d52ba512a65007a819d400fde3f55faa7998d57bc48e7269bd4a8", func := "loop.example/g01050/laws.FnExactAddEntry", spec := "fnExactAddEntry", apart := false, narrowed := true }
def FnExactAddEntryUptoSaid : Prop := fnExactAddEntryUptoRow.holds Try.pinned (OpenSpec.upto fnExactAddEntrySpec)

/-- 'laws.FnExactClosedDays', WHERE WHAT IT READS IS OF BULK AT MOST 1048576: true; the input reads as it did. -/
def fnExactClosedDaysUptoRow : OpenClaim := { program := "ytocedhbefdaefaa", sum := "a4fa0b57a84d52ba512a65007a819d400fde3f55faa7998d57bc48e7269bd4a8", func := "loop.example/g01050/laws.FnExactClosedDays", spec := "fnExactClosedDays", apart := false, narrowed := true }
def FnExactClosedDaysUptoSaid : Prop := fnExactClosedDaysUptoRow.holds Try.pinned (OpenSpec.upto fnExactClosedDaysSpec)

/-- 'laws.FnExactDaySums', WHERE WHAT IT READS IS OF BULK AT MOST 1048576: true; the input reads as it did. -/
def fnExactDaySumsUptoRow : OpenClaim := { program := "ytocedhbefdaefaa", sum := "a4fa0b57a84d52ba512a65007a819d400fde3f55faa7998d57bc48e7269bd4a8", func := "loop.example/g01050/laws.FnExactDaySums", spec := "fnExactDaySums", apart := false, narrowed := true }
def FnExactDaySumsUptoSaid : Prop := fnExactDaySumsUptoRow.holds Try.pinned (OpenSpec.upto fnExactDaySumsSpec)

/-- 'laws.FnExactPayAll', WHERE WHAT IT READS IS OF BULK AT MOST 1048576: true; the input reads as it did. -/
def fnExactPayAllUptoRow : OpenClaim := { program := "ytocedhbefdaefaa", sum := "a4fa0b57a84d52ba512a65007a819d400fde3f55faa7998d57bc48e7269bd4a8", func := "loop.example/g01050/laws.FnExactPayAll", spec := "fnExactPayAll", apart := false, narrowed := true }
def FnExactPayAllUptoSaid : Prop := fnExactPayAllUptoRow.holds Try.pinned (OpenSpec.upto fnExactPayAllSpec)

/-- 'laws.FnExactDebtors', WHERE WHAT IT READS IS OF BULK AT MOST 1048576: true; the input reads as it did. -/
def fnExactDebtorsUptoRow : OpenClaim := { program := "ytocedhbefdaefaa", sum := "a4fa0b57a84d52ba512a65007a819d400fde3f55faa7998d57bc48e7269bd4a8", func := "loop.example/g01050/laws.FnExactDebtors", spec := "fnExactDebtors", apart := false, narrowed := true }
def FnExactDebtorsUptoSaid : Prop := fnExactDebtorsUptoRow.holds Try.pinned (OpenSpec.upto fnExactDebtorsSpec)

/-- 'laws.FnEntries', WHERE WHAT IT READS IS OF BULK AT MOST 1048576: true; the input reads as it did. -/
def fnEntriesUptoRow : OpenClaim := { program := "ytocedhbefdaefaa", sum := "a4fa0b57a84d52ba512a65007a819d400fde3f55faa7998d57bc48e7269bd4a8", func := "loop.example/g01050/laws.FnEntries", spec := "fnEntries", apart := false, narrowed := true }
def FnEntriesUptoSaid : Prop := fnEntriesUptoRow.holds Try.pinned (OpenSpec.upto fnEntriesSpec)

/-- 'laws.FnDebts', WHERE WHAT IT READS IS OF BULK AT MOST 1048576: true; the input reads as it did. -/
def fnDebtsUptoRow : OpenClaim := { program := "ytocedhbefdaefaa", sum := "a4fa0b57a84d52ba512a65007a819d400fde3f55faa7998d57bc48e7269bd4a8", func := "loop.example/g01050/laws.FnDebts", spec := "fnDebts", apart := false, narrowed := true }
def FnDebtsUptoSaid : Prop := fnDebtsUptoRow.holds Try.pinned (OpenSpec.upto fnDebtsSpec)

end Rows
end Go.Proofs.Ytocedhbefdaefaa
