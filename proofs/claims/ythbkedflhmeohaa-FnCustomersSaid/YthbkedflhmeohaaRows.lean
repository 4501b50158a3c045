/-
  No cell of these rows narrows 'for every input' (looked for: loops, veiled, ifaces, maps, wideKeys, modest, calm, conditions, laid).
  DERIVED. THE GIVEN ROWS OF THIS SEAT. 11 by the template 'for every input the law returns true; each argument reads behind the call as it read before'; 0 by the template 'total and deterministic' (their statements: YthbkedflhmeohaaTotals.lean).
  GIVEN WITH THE SEED: the statements are not yours to turn. If you find one false, say at which input.
  Laid BY PROGRAM, IN A SANDBOX (cutbox-rows.mjs): the forced cells as the released guide's own fill.sh prints them over the translation e81e2da629baa5ba… (all of the seat's roots in one cut). By AI agents, Wed Nov 11 2026. No macro, syntax, notation, axiom, sorry.
-/
import Derived.Test.YthbkedflhmeohaaChecked
import GoSem.Claim
import GoSem.ClaimJoined
import GoSem.ClaimMapViews
import Derived.JoinedTies
import Derived.KernelRfl
namespace Go.Proofs.Ythbkedflhmeohaa
/- THE CELL 'sum', in the pinned program and in every row, IS THE sha256 OF THE DUMP (.gsa) THAT YthbkedflhmeohaaProg.lean LOADS. Nothing in Lean hashes anything: it is a label: what it is worth is what the hold of that sum in a sandbox is worth. -/
noncomputable def Try.pinned : Pinned := { name := "ythbkedflhmeohaa", sum := "e81e2da629baa5ba70d5b6018ce089e938d739da75cb3b4b4dc09a43a31a97ad", checked := Try.checked }
namespace Rows
def none {H : Type} : Left H := { results := [], args := [] }

/-- 'laws.FnExactAreCustomers': WHATEVER THE INPUT: true; the input reads as it did. -/
def fnExactAreCustomersSpec : ChangeSpec := { name := "fnExactAreCustomers", fn := fun _ => fun
  | [d] => { results := [.lit (.bool true)], args := [d] }
  | _ => none }
def fnExactAreCustomersRow : OpenClaim := { program := "ythbkedflhmeohaa", sum := "e81e2da629baa5ba70d5b6018ce089e938d739da75cb3b4b4dc09a43a31a97ad", func := "loop.example/g01050/laws.FnExactAreCustomers", spec := "fnExactAreCustomers", apart := false }
def FnExactAreCustomersSaid : Prop := fnExactAreCustomersRow.holds Try.pinned (OpenSpec.ofChange fnExactAreCustomersSpec)

/-- ITS FALSE NEIGHBOUR: 'it returns false'. Refute it at one input. -/
def fnExactAreCustomersWrong : ChangeSpec := { name := "fnExactAreCustomers", fn := fun _ => fun
  | [d] => { results := [.lit (.bool false)], args := [d] }
  | _ => none }
def FnExactAreCustomersWrongFalsely : Prop := fnExactAreCustomersRow.holds Try.pinned (OpenSpec.ofChange fnExactAreCustomersWrong)

/-- 'laws.FnExactCountBikes': WHATEVER THE INPUT: true; the input reads as it did. -/
def fnExactCountBikesSpec : ChangeSpec := { name := "fnExactCountBikes", fn := fun _ => fun
  | [d] => { results := [.lit (.bool true)], args := [d] }
  | _ => none }
def fnExactCountBikesRow : OpenClaim := { program := "ythbkedflhmeohaa", sum := "e81e2da629baa5ba70d5b6018ce089e938d739da75cb3b4b4dc09a43a31a97ad", func := "loop.example/g01050/laws.FnExactCountBikes", spec := "fnExactCountBikes", apart := false }
def FnExactCountBikesSaid : Prop := fnExactCountBikesRow.holds Try.pinned (OpenSpec.ofChange fnExactCountBikesSpec)

/-- ITS FALSE NEIGHBOUR: 'it returns false'. Refute it at one input. -/
def fnExactCountBikesWrong : ChangeSpec := { name := "fnExactCountBikes", fn := fun _ => fun
  | [d] => { results := [.lit (.bool false)], args := [d] }
  | _ => none }
def FnExactCountBikesWrongFalsely : Prop := fnExactCountBikesRow.holds Try.pinned (OpenSpec.ofChange fnExactCountBikesWrong)

/-- 'laws.FnExactOwnerOf': WHATEVER THE INPUT: true; the input reads as it did. -/
def fnExactOwnerOfSpec : ChangeSpec := { name := "fnExactOwnerOf", fn := fun _ => fun
  | [d1, d2] => { results := [.lit (.bool true)], args := [d1, d2] }
  | _ => none }
def fnExactOwnerOfRow : OpenClaim := { program := "ythbkedflhmeohaa", sum := "e81e2da629baa5ba70d5b6018ce089e938d739da75cb3b4b4dc09a43a31a97ad", func := "loop.example/g01050/laws.FnExactOwnerOf", spec := "fnExactOwnerOf", apart := false }
def FnExactOwnerOfSaid : Prop := fnExactOwnerOfRow.holds Try.pinned (OpenSpec.ofChange fnExactOwnerOfSpec)

/-- ITS FALSE NEIGHBOUR: 'it returns false'. Refute it at one input. -/
def fnExactOwnerOfWrong : ChangeSpec := { name := "fnExactOwnerOf", fn := fun _ => fun
  | [d1, d2] => { results := [.lit (.bool false)], args := [d1, d2] }
  | _ => none }
def FnExactOwnerOfWrongFalsely : Prop := fnExactOwnerOfRow.holds Try.pinned (OpenSpec.ofChange fnExactOwnerOfWrong)

/-- 'laws.FnExactWithPrefix': WHATEVER THE INPUT: true; the input reads as it did. -/
def fnExactWithPrefixSpec : ChangeSpec := { name := "fnExactWithPrefix", fn := fun _ => fun
  | [d1, d2] => { results := [.lit (.bool true)], args := [d1, d2] }
  | _ => none }
def fnExactWithPrefixRow : OpenClaim := { program := "ythbkedflhmeohaa", sum := "e81e2da629baa5ba70d5b6018ce089e938d739da75cb3b4b4dc09a43a31a97ad", func := "loop.example/g01050/laws.FnExactWithPrefix", spec := "fnExactWithPrefix", apart := false }
def FnExactWithPrefixSaid : Prop := fnExactWithPrefixRow.holds Try.pinned (OpenSpec.ofChange fnExactWithPrefixSpec)

/-- ITS FALSE NEIGHBOUR: 'it returns false'. Refute it at one input. -/
def fnExactWithPrefixWrong : ChangeSpec := { name := "fnExactWithPrefix", fn := fun _ => fun
  | [d1, d2] => { results := [.lit (.bool false)], args := [d1, d2] }
  | _ => none }
def FnExactWithPrefixWrongFalsely : Prop := fnExactWithPrefixRow.holds Try.pinned (OpenSpec.ofChange fnExactWithPrefixWrong)

/-- 'laws.FnExactLongestSince': WHATEVER THE INPUT: true; the input reads as it did. -/
def fnExactLongestSinceSpec : ChangeSpec := { name := "fnExactLongestSince", fn := fun _ => fun
  | [d1, d2] => { results := [.lit (.bool true)], args := [d1, d2] }
  | _ => none }
def fnExactLongestSinceRow : OpenClaim := { program := "ythbkedflhmeohaa", sum := "e81e2da629baa5ba70d5b6018ce089e938d739da75cb3b4b4dc09a43a31a97ad", func := "loop.example/g01050/laws.FnExactLongestSince", spec := "fnExactLongestSince", apart := false }
def FnExactLongestSinceSaid : Prop := fnExactLongestSinceRow.holds Try.pinned (OpenSpec.ofChange fnExactLongestSinceSpec)

/-- ITS FALSE NEIGHBOUR: 'it returns false'. Refute it at one input. -/
def fnExactLongestSinceWrong : ChangeSpec := { name := "fnExactLongestSince", fn := fun _ => fun
  | [d1, d2] => { results := [.lit (.bool false)], args := [d1, d2] }
  | _ => none }
def FnExactLongestSinceWrongFalsely : Prop := fnExactLongestSinceRow.holds Try.pinned (OpenSpec.ofChange fnExactLongestSinceWrong)

/-- 'laws.FnExactAddCustomer': WHATEVER THE INPUT: true; the input reads as it did. -/
def fnExactAddCustomerSpec : ChangeSpec := { name := "fnExactAddCustomer", fn := fun _ => fun
  | [d1, d2, d3] => { results := [.lit (.bool true)], args := [d1, d2, d3] }
  | _ => none }
def fnExactAddCustomerRow : OpenClaim := { program := "ythbkedflhmeohaa", sum := "e81e2da629baa5ba70d5b6018ce089e938d739da75cb3b4b4dc09a43a31a97ad", func := "loop.example/g01050/laws.FnExactAddCustomer", spec := "fnExactAddCustomer", apart := false }
def FnExactAddCustomerSaid : Prop := fnExactAddCustomerRow.holds Try.pinned (OpenSpec.ofChange fnExactAddCustomerSpec)

/-- ITS FALSE NEIGHBOUR: 'it returns false'. Refute it at one input. -/
def fnExactAddCustomerWrong : ChangeSpec := { name := "fnExactAddCustomer", fn := fun _ => fun
  | [d1, d2, d3] => { results := [.lit (.bool false)], args := [d1, d2, d3] }
  | _ => none }
def FnExactAddCustomerWrongFalsely : Prop := fnExactAddCustomerRow.holds Try.pinned (OpenSpec.ofChange fnExactAddCustomerWrong)

/-- 'laws.FnExactMergeCustomers': WHATEVER THE INPUT: true; the input reads as it did. -/
def fnExactMergeCustomersSpec : ChangeSpec := { name := "fnExactMergeCustomers", fn := fun _ => fun
  | [d1, d2, d3] => { results := [.lit (.bool true)], args := [d1, d2, d3] }
  | _ => none }
def fnExactMergeCustomersRow : OpenClaim := { program := "ythbkedflhmeohaa", sum := "e81e2da629baa5ba70d5b6018ce089e938d739da75cb3b4b4dc09a43a31a97ad", func := "loop.example/g01050/laws.FnExactMergeCustomers", spec := "fnExactMergeCustomers", apart := false }
def FnExactMergeCustomersSaid : Prop := fnExactMergeCustomersRow.holds Try.pinned (OpenSpec.ofChange fnExactMergeCustomersSpec)

/-- ITS FALSE NEIGHBOUR: 'it returns false'. Refute it at one input. -/
def fnExactMergeCustomersWrong : ChangeSpec := { name := "fnExactMergeCustomers", fn := fun _ => fun
  | [d1, d2, d3] => { results := [.lit (.bool false)], args := [d1, d2, d3] }
  | _ => none }
def FnExactMergeCustomersWrongFalsely : Prop := fnExactMergeCustomersRow.holds Try.pinned (OpenSpec.ofChange fnExactMergeCustomersWrong)

/-- 'laws.FnExactGiveBike': WHATEVER THE INPUT: true; the input reads as it did. -/
def fnExactGiveBikeSpec : ChangeSpec := { name := "fnExactGiveBike", fn := fun _ => fun
  | [d1, d2, d3] => { results := [.lit (.bool true)], args := [d1, d2, d3] }
  | _ => none }
def fnExactGiveBikeRow : OpenClaim := { program := "ythbkedflhmeohaa", sum := "e81e2da629baa5ba70d5b6018ce089e938d739da75cb3b4b4dc09a43a31a97ad", func := "loop.example/g01050/laws.FnExactGiveBike", spec := "fnExactGiveBike", apart := false }
def FnExactGiveBikeSaid : Prop := fnExactGiveBikeRow.holds Try.pinned (OpenSpec.ofChange fnExactGiveBikeSpec)

/-- ITS FALSE NEIGHBOUR: 'it returns false'. Refute it at one input. -/
def fnExactGiveBikeWrong : ChangeSpec := { name := "fnExactGiveBike", fn := fun _ => fun
  | [d1, d2, d3] => { results := [.lit (.bool false)], args := [d1, d2, d3] }
  | _ => none }
def FnExactGiveBikeWrongFalsely : Prop := fnExactGiveBikeRow.holds Try.pinned (OpenSpec.ofChange fnExactGiveBikeWrong)

/-- 'laws.FnExactSellBike': WHATEVER THE INPUT: true; the input reads as it did. -/
def fnExactSellBikeSpec : ChangeSpec := { name := "fnExactSellBike", fn := fun _ => fun
  | [d1, d2, d3] => { results := [.lit (.bool true)], args := [d1, d2, d3] }
  | _ => none }
def fnExactSellBikeRow : OpenClaim := { program := "ythbkedflhmeohaa", sum := "e81e2da629baa5ba70d5b6018ce089e938d739da75cb3b4b4dc09a43a31a97ad", func := "loop.example/g01050/laws.FnExactSellBike", spec := "fnExactSellBike", apart := false }
def FnExactSellBikeSaid : Prop := fnExactSellBikeRow.holds Try.pinned (OpenSpec.ofChange fnExactSellBikeSpec)

/-- ITS FALSE NEIGHBOUR: 'it returns false'. Refute it at one input. -/
def fnExactSellBikeWrong : ChangeSpec := { name := "fnExactSellBike", fn := fun _ => fun
  | [d1, d2, d3] => { results := [.lit (.bool false)], args := [d1, d2, d3] }
  | _ => none }
def FnExactSellBikeWrongFalsely : Prop := fnExactSellBikeRow.holds Try.pinned (OpenSpec.ofChange fnExactSellBikeWrong)

/-- 'laws.FnOwners': WHATEVER THE INPUT: true; the input reads as it did. -/
def fnOwnersSpec : ChangeSpec := { name := "fnOwners", fn := fun _ => fun
  | [d] => { results := [.lit (.bool true)], args := [d] }
  | _ => none }
def fnOwnersRow : OpenClaim := { program := "ythbkedflhmeohaa", sum := "e81e2da629baa5ba70d5b6018ce089e938d739da75cb3b4b4dc09a43a31a97ad", func := "loop.example/g01050/laws.FnOwners", spec := "fnOwners", apart := false }
def FnOwnersSaid : Prop := fnOwnersRow.holds Try.pinned (OpenSpec.ofChange fnOwnersSpec)

/-- ITS FALSE NEIGHBOUR: 'it returns false'. Refute it at one input. -/
def fnOwnersWrong : ChangeSpec := { name := "fnOwners", fn := fun _ => fun
  | [d] => { results := [.lit (.bool false)], args := [d] }
  | _ => none }
def FnOwnersWrongFalsely : Prop := fnOwnersRow.holds Try.pinned (OpenSpec.ofChange fnOwnersWrong)

/-- 'laws.FnCustomers': WHATEVER THE INPUT: true; the input reads as it did. -/
def fnCustomersSpec : ChangeSpec := { name := "fnCustomers", fn := fun _ => fun
  | [d] => { results := [.lit (.bool true)], args := [d] }
  | _ => none }
def fnCustomersRow : OpenClaim := { program := "ythbkedflhmeohaa", sum := "e81e2da629baa5ba70d5b6018ce089e938d739da75cb3b4b4dc09a43a31a97ad", func := "loop.example/g01050/laws.FnCustomers", spec := "fnCustomers", apart := false }
def FnCustomersSaid : Prop := fnCustomersRow.holds Try.pinned (OpenSpec.ofChange fnCustomersSpec)

/-- ITS FALSE NEIGHBOUR: 'it returns false'. Refute it at one input. -/
def fnCustomersWrong : ChangeSpec := { name := "fnCustomers", fn := fun _ => fun
  | [d] => { results := [.lit (.bool false)], args := [d] }
  | _ => none }
def FnCustomersWrongFalsely : Prop := fnCustomersRow.holds Try.pinned (OpenSpec.ofChange fnCustomersWrong)

/- THE SECOND FORM. 'bulk': how many values and letters a reading holds, each counted each time it is reached (what is shared counts as often as it is met; a slice's spare places count too). A statement '..UptoSaid' is the law's where the arguments, and the package variables that the reading takes, are together of bulk at most 1048576: NARROWER than '..Said'. Prove '..Said' where nothing that the law and all that it calls make is longer than what came in: it says more and counts as full. Else prove '..UptoSaid'. A law counts once. -/
mutual
def uptoBulk {H : Type} : DataW H → Nat
  | .lit (.string bytes) => bytes.length + 1
  | .lit _ => 1
  | .nil => 1
  | .ptr d => uptoBulk d + 1
  | .slice elems spare => uptoBulkAll elems + uptoBulkAll spare + 1
  | .agg parts => uptoBulkAll parts + 1
  | .iface _ d => uptoBulk d + 1
  | .map entries => uptoBulkEntries entries + 1
  | .held _ => 1
def uptoBulkAll {H : Type} : List (DataW H) → Nat
  | [] => 0
  | d :: r => uptoBulk d + uptoBulkAll r
def uptoBulkEntries {H : Type} : List (Lit × DataW H) → Nat
  | [] => 0
  | x :: r => uptoBulkEntry x + uptoBulkEntries r
def uptoBulkEntry {H : Type} : Lit × DataW H → Nat
  | (.string bytes, d) => bytes.length + uptoBulk d + 1
  | (_, d) => uptoBulk d + 1
 end
def uptoSmall : (H : Type) → List (DataW H) → Bool := fun _ ds => decide (uptoBulkAll ds ≤ 1048576)
def OpenSpec.upto (s : _root_.Go.ChangeSpec) : _root_.Go.OpenSpec := { _root_.Go.OpenSpec.ofChange s with cond := some uptoSmall }

/-- 'laws.FnExactAreCustomers', WHERE WHAT IT READS IS OF BULK AT MOST 1048576: true; the input reads as it did. -/
def fnExactAreCustomersUptoRow : OpenClaim := { program := "ythbkedflhmeohaa", sum := "e81e2da629baa5ba70d5b6018ce089e938d739da75cb3b4b4dc09a43a31a97ad", func := "loop.example/g01050/laws.FnExactAreCustomers", spec := "fnExactAreCustomers", apart := false, narrowed := true }
def FnExactAreCustomersUptoSaid : Prop := fnExactAreCustomersUptoRow.holds Try.pinned (OpenSpec.upto fnExactAreCustomersSpec)

/-- 'laws.FnExactCountBikes', WHERE WHAT IT READS IS OF BULK AT MOST 1048576: true; the input reads as it did. -/
def fnExactCountBikesUptoRow : OpenClaim := { program := "ythbkedflhmeohaa", sum := "e81e2da629baa5ba70d5b6018ce089e938d739da75cb3b4b4dc09a43a31a97ad", func := "loop.example/g01050/laws.FnExactCountBikes", spec := "fnExactCountBikes", apart := false, narrowed := true }
def FnExactCountBikesUptoSaid : Prop := fnExactCountBikesUptoRow.holds Try.pinned (OpenSpec.upto fnExactCountBikesSpec)

/-- 'laws.FnExactOwnerOf', WHERE WHAT IT READS IS OF BULK AT MOST 1048576: true; the input reads as it did. -/
def fnExactOwnerOfUptoRow : OpenClaim := { program := "ythbkedflhmeohaa", sum := "e81e2da629baa5ba70d5b6018ce089e938d739da75cb3b4b4dc09a43a31a97ad", func := "loop.example/g01050/laws.FnExactOwnerOf", spec := "fnExactOwnerOf", apart := false, narrowed := true }
def FnExactOwnerOfUptoSaid : Prop := fnExactOwnerOfUptoRow.holds Try.pinned (OpenSpec.upto fnExactOwnerOfSpec)

/-- 'laws.FnExactWithPrefix', WHERE WHAT IT READS IS OF BULK AT MOST 1048576: true; the input reads as it did. -/
def fnExactWithPrefixUptoRow : OpenClaim := { program := "ythbkedflhmeohaa", sum := "e81e2da629baa5ba70d5b6018ce089e938d739da75cb3b4b4dc09a43a31a97ad", func := "loop.example/g01050/laws.FnExactWithPrefix", spec := "fnExactWithPrefix", apart := false, narrowed := true }
def FnExactWithPrefixUptoSaid : Prop := fnExactWithPrefixUptoRow.holds Try.pinned (OpenSpec.upto fnExactWithPrefixSpec)

/-- 'laws.FnExactLongestSince', WHERE WHAT IT READS IS OF BULK AT MOST 1048576: true; the input reads as it did. -/
def fnExactLongestSinceUptoRow : OpenClaim := { program := "ythbkedflhmeohaa", sum := "e81e2da629baa5ba70d5b6018ce089e938d739da75cb3b4b4dc09a43a31a97ad", func := "loop.example/g01050/laws.FnExactLongestSince", spec := "fnExactLongestSince", apart := false, narrowed := true }
def FnExactLongestSinceUptoSaid : Prop := fnExactLongestSinceUptoRow.holds Try.pinned (OpenSpec.upto fnExactLongestSinceSpec)

/-- 'laws.FnExactAddCustomer', WHERE WHAT IT READS IS OF BULK AT MOST 1048576: true; the input reads as it did. -/
def fnExactAddCustomerUptoRow : OpenClaim := { program := "ythbkedflhmeohaa", sum := "e81e2da629baa5ba70d5b6018ce089e938d739da75cb3b4b4dc09a43a31a97ad", func := "loop.example/g01050/laws.FnExactAddCustomer", spec := "fnExactAddCustomer", apart := false, narrowed := true }
def FnExactAddCustomerUptoSaid : Prop := fnExactAddCustomerUptoRow.holds Try.pinned (OpenSpec.upto fnExactAddCustomerSpec)

/-- 'laws.FnExactMergeCustomers', WHERE WHAT IT READS IS OF BULK AT MOST 1048576: true; the input reads as it did. -/
def fnExactMergeCustomersUptoRow : OpenClaim := { program := "ythbkedflhmeohaa", sum := "e81e2da629baa5ba70d5b6018ce089e938d739da75cb3b4b4dc09a43a31a97ad", func := "loop.example/g01050/laws.FnExactMergeCustomers", spec := "fnExactMergeCustomers", apart := false, narrowed := true }
def FnExactMergeCustomersUptoSaid : Prop := fnExactMergeCustomersUptoRow.holds Try.pinned (OpenSpec.upto fnExactMergeCustomersSpec)

/-- 'laws.FnExactGiveBike', WHERE WHAT IT READS IS OF BULK AT MOST 1048576: true; the input reads as it did. -/
def fnExactGiveBikeUptoRow : OpenClaim := { program := "ythbkedflhmeohaa", sum := "e81e2da629baa5ba70d5b6018ce089e938d739da75cb3b4b4dc09a43a31a97ad", func := "loop.example/g01050/laws.FnExactGiveBike", spec := "fnExactGiveBike", apart := false, narrowed := true }
def FnExactGiveBikeUptoSaid : Prop := fnExactGiveBikeUptoRow.holds Try.pinned (OpenSpec.upto fnExactGiveBikeSpec)

/-- 'laws.FnExactSellBike', WHERE WHAT IT READS IS OF BULK AT MOST 1048576: true; the input reads as it did. -/
def fnExactSellBikeUptoRow : OpenClaim := { program := "ythbkedflhmeohaa", sum := "e81e2da629baa5ba70d5b6018ce089e938d739da75cb3b4b4dc09a43a31a97ad", func := "loop.example/g01050/laws.FnExactSellBike", spec := "fnExactSellBike", apart := false, narrowed := true }
def FnExactSellBikeUptoSaid : Prop := fnExactSellBikeUptoRow.holds Try.pinned (OpenSpec.upto fnExactSellBikeSpec)

/-- 'laws.FnOwners', WHERE WHAT IT READS IS OF BULK AT MOST 1048576: true; the input reads as it did. -/
def fnOwnersUptoRow : OpenClaim := { program := "ythbkedflhmeohaa", sum := "e81e2da629baa5ba70d5b6018ce089e938d739da75cb3b4b4dc09a43a31a97ad", func := "loop.example/g01050/laws.FnOwners", spec := "fnOwners", apart := false, narrowed := true }
def FnOwnersUptoSaid : Prop := fnOwnersUptoRow.holds Try.pinned (OpenSpec.upto fnOwnersSpec)

/-- 'laws.FnCustomers', WHERE WHAT IT READS IS OF BULK AT MOST 1048576: true; the input reads as it did. -/
def fnCustomersUptoRow : OpenClaim := { program := "ythbkedflhmeohaa", sum := "e81e2da629baa5ba70d5b6018ce089e938d739da75cb3b4b4dc09a43a31a97ad", func := "loop.example/g01050/laws.FnCustomers", spec := "fnCustomers", apart := false, narrowed := true }
def FnCustomersUptoSaid : Prop := fnCustomersUptoRow.holds Try.pinned (OpenSpec.upto fnCustomersSpec)

end Rows
end Go.Proofs.Ythbkedflhmeohaa
