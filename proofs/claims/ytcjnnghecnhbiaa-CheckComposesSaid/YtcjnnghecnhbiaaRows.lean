/-
  No cell of these rows narrows 'for every input' (looked for: loops, veiled, ifaces, maps, wideKeys, modest, calm, conditions, laid).
  DERIVED. THE GIVEN ROWS OF THIS SEAT. 11 by the template 'for every input the law returns true; each argument reads behind the call as it read before'; 0 by the template 'total and deterministic' (their statements: YtcjnnghecnhbiaaTotals.lean).
  GIVEN WITH THE SEED: the statements are not yours to turn. If you find one false, say at which input.
  Laid BY PROGRAM, IN A SANDBOX (cutbox-rows.mjs): the forced cells as the released guide's own fill.sh prints them over the translation 32fdec9cb1aff1ef… (all of the seat's roots in one cut). By AI agents, Wed Nov 11 2026. No macro, syntax, notation, axiom, sorry.
-/
import Derived.Test.YtcjnnghecnhbiaaChecked
import GoSem.Claim
import GoSem.ClaimJoined
import GoSem.ClaimMapViews
import Derived.JoinedTies
import Derived.KernelRfl
namespace Go.Proofs.Ytcjnnghecnhbiaa
/- THE CELL 'sum', in the pinned program and in every row, IS THE sha256 OF THE DUMP (.gsa) THAT YtcjnnghecnhbiaaProg.lean LOADS. Nothing in Lean hashes anything: it is a label: what it is worth is what the hold of that sum in a sandbox is worth. -/
noncomputable def Try.pinned : Pinned := { name := "ytcjnnghecnhbiaa", sum := "32fdec9cb1aff1ef75db6a9c429ed495f7a3760b3ae149a0bf44ce438d83922e", checked := Try.checked }
namespace Rows
def none {H : Type} : Left H := { results := [], args := [] }

/-- 'scholiumlaw13.TreeRaw': WHATEVER THE INPUT: true; the input reads as it did. -/
def treeRawSpec : ChangeSpec := { name := "treeRaw", fn := fun _ => fun
  | [d1, d2, d3, d4, d5] => { results := [.lit (.bool true)], args := [d1, d2, d3, d4, d5] }
  | _ => none }
def treeRawRow : OpenClaim := { program := "ytcjnnghecnhbiaa", sum := "32fdec9cb1aff1ef75db6a9c429ed495f7a3760b3ae149a0bf44ce438d83922e", func := "scholium/scholiumlaw13.TreeRaw", spec := "treeRaw", recurses := true, plainKeys := false, apart := false }
def TreeRawSaid : Prop := treeRawRow.holds Try.pinned (OpenSpec.ofChange treeRawSpec)

/-- ITS FALSE NEIGHBOUR: 'it returns false'. Refute it at one input. -/
def treeRawWrong : ChangeSpec := { name := "treeRaw", fn := fun _ => fun
  | [d1, d2, d3, d4, d5] => { results := [.lit (.bool false)], args := [d1, d2, d3, d4, d5] }
  | _ => none }
def TreeRawWrongFalsely : Prop := treeRawRow.holds Try.pinned (OpenSpec.ofChange treeRawWrong)

/-- 'scholiumlaw13.TreeSubs': WHATEVER THE INPUT: true; the input reads as it did. -/
def treeSubsSpec : ChangeSpec := { name := "treeSubs", fn := fun _ => fun
  | [d1, d2, d3] => { results := [.lit (.bool true)], args := [d1, d2, d3] }
  | _ => none }
def treeSubsRow : OpenClaim := { program := "ytcjnnghecnhbiaa", sum := "32fdec9cb1aff1ef75db6a9c429ed495f7a3760b3ae149a0bf44ce438d83922e", func := "scholium/scholiumlaw13.TreeSubs", spec := "treeSubs", recurses := true, plainKeys := false, apart := false }
def TreeSubsSaid : Prop := treeSubsRow.holds Try.pinned (OpenSpec.ofChange treeSubsSpec)

/-- ITS FALSE NEIGHBOUR: 'it returns false'. Refute it at one input. -/
def treeSubsWrong : ChangeSpec := { name := "treeSubs", fn := fun _ => fun
  | [d1, d2, d3] => { results := [.lit (.bool false)], args := [d1, d2, d3] }
  | _ => none }
def TreeSubsWrongFalsely : Prop := treeSubsRow.holds Try.pinned (OpenSpec.ofChange treeSubsWrong)

/-- 'scholiumlaw13.TreeDepths': WHATEVER THE INPUT: true; the input reads as it did. -/
def treeDepthsSpec : ChangeSpec := { name := "treeDepths", fn := fun _ => fun
  | [d1, d2] => { results := [.lit (.bool true)], args := [d1, d2] }
  | _ => none }
def treeDepthsRow : OpenClaim := { program := "ytcjnnghecnhbiaa", sum := "32fdec9cb1aff1ef75db6a9c429ed495f7a3760b3ae149a0bf44ce438d83922e", func := "scholium/scholiumlaw13.TreeDepths", spec := "treeDepths", recurses := true, plainKeys := false, apart := false }
def TreeDepthsSaid : Prop := treeDepthsRow.holds Try.pinned (OpenSpec.ofChange treeDepthsSpec)

/-- ITS FALSE NEIGHBOUR: 'it returns false'. Refute it at one input. -/
def treeDepthsWrong : ChangeSpec := { name := "treeDepths", fn := fun _ => fun
  | [d1, d2] => { results := [.lit (.bool false)], args := [d1, d2] }
  | _ => none }
def TreeDepthsWrongFalsely : Prop := treeDepthsRow.holds Try.pinned (OpenSpec.ofChange treeDepthsWrong)

/-- 'scholiumlaw13.TreeParents': WHATEVER THE INPUT: true; the input reads as it did. -/
def treeParentsSpec : ChangeSpec := { name := "treeParents", fn := fun _ => fun
  | [d] => { results := [.lit (.bool true)], args := [d] }
  | _ => none }
def treeParentsRow : OpenClaim := { program := "ytcjnnghecnhbiaa", sum := "32fdec9cb1aff1ef75db6a9c429ed495f7a3760b3ae149a0bf44ce438d83922e", func := "scholium/scholiumlaw13.TreeParents", spec := "treeParents", recurses := true, plainKeys := false, apart := false }
def TreeParentsSaid : Prop := treeParentsRow.holds Try.pinned (OpenSpec.ofChange treeParentsSpec)

/-- ITS FALSE NEIGHBOUR: 'it returns false'. Refute it at one input. -/
def treeParentsWrong : ChangeSpec := { name := "treeParents", fn := fun _ => fun
  | [d] => { results := [.lit (.bool false)], args := [d] }
  | _ => none }
def TreeParentsWrongFalsely : Prop := treeParentsRow.holds Try.pinned (OpenSpec.ofChange treeParentsWrong)

/-- 'scholiumlaw14.CheckTells': WHATEVER THE INPUT: true; the input reads as it did. -/
def checkTellsSpec : ChangeSpec := { name := "checkTells", fn := fun _ => fun
  | [d1, d2] => { results := [.lit (.bool true)], args := [d1, d2] }
  | _ => none }
def checkTellsRow : OpenClaim := { program := "ytcjnnghecnhbiaa", sum := "32fdec9cb1aff1ef75db6a9c429ed495f7a3760b3ae149a0bf44ce438d83922e", func := "scholium/scholiumlaw14.CheckTells", spec := "checkTells", recurses := true, plainKeys := false, apart := false }
def CheckTellsSaid : Prop := checkTellsRow.holds Try.pinned (OpenSpec.ofChange checkTellsSpec)

/-- ITS FALSE NEIGHBOUR: 'it returns false'. Refute it at one input. -/
def checkTellsWrong : ChangeSpec := { name := "checkTells", fn := fun _ => fun
  | [d1, d2] => { results := [.lit (.bool false)], args := [d1, d2] }
  | _ => none }
def CheckTellsWrongFalsely : Prop := checkTellsRow.holds Try.pinned (OpenSpec.ofChange checkTellsWrong)

/-- 'scholiumlaw14.CheckComposes': WHATEVER THE INPUT: true; the input reads as it did. -/
def checkComposesSpec : ChangeSpec := { name := "checkComposes", fn := fun _ => fun
  | [d1, d2] => { results := [.lit (.bool true)], args := [d1, d2] }
  | _ => none }
def checkComposesRow : OpenClaim := { program := "ytcjnnghecnhbiaa", sum := "32fdec9cb1aff1ef75db6a9c429ed495f7a3760b3ae149a0bf44ce438d83922e", func := "scholium/scholiumlaw14.CheckComposes", spec := "checkComposes", recurses := true, plainKeys := false, apart := false }
def CheckComposesSaid : Prop := checkComposesRow.holds Try.pinned (OpenSpec.ofChange checkComposesSpec)

/-- ITS FALSE NEIGHBOUR: 'it returns false'. Refute it at one input. -/
def checkComposesWrong : ChangeSpec := { name := "checkComposes", fn := fun _ => fun
  | [d1, d2] => { results := [.lit (.bool false)], args := [d1, d2] }
  | _ => none }
def CheckComposesWrongFalsely : Prop := checkComposesRow.holds Try.pinned (OpenSpec.ofChange checkComposesWrong)

/-- 'scholiumlaw14.CheckAliases': WHATEVER THE INPUT: true; the input reads as it did. -/
def checkAliasesSpec : ChangeSpec := { name := "checkAliases", fn := fun _ => fun
  | [d1, d2] => { results := [.lit (.bool true)], args := [d1, d2] }
  | _ => none }
def checkAliasesRow : OpenClaim := { program := "ytcjnnghecnhbiaa", sum := "32fdec9cb1aff1ef75db6a9c429ed495f7a3760b3ae149a0bf44ce438d83922e", func := "scholium/scholiumlaw14.CheckAliases", spec := "checkAliases", recurses := true, plainKeys := false, apart := false }
def CheckAliasesSaid : Prop := checkAliasesRow.holds Try.pinned (OpenSpec.ofChange checkAliasesSpec)

/-- ITS FALSE NEIGHBOUR: 'it returns false'. Refute it at one input. -/
def checkAliasesWrong : ChangeSpec := { name := "checkAliases", fn := fun _ => fun
  | [d1, d2] => { results := [.lit (.bool false)], args := [d1, d2] }
  | _ => none }
def CheckAliasesWrongFalsely : Prop := checkAliasesRow.holds Try.pinned (OpenSpec.ofChange checkAliasesWrong)

/-- 'scholiumlaw14.CheckNames': WHATEVER THE INPUT: true; the input reads as it did. -/
def checkNamesSpec : ChangeSpec := { name := "checkNames", fn := fun _ => fun
  | [d1, d2] => { results := [.lit (.bool true)], args := [d1, d2] }
  | _ => none }
def checkNamesRow : OpenClaim := { program := "ytcjnnghecnhbiaa", sum := "32fdec9cb1aff1ef75db6a9c429ed495f7a3760b3ae149a0bf44ce438d83922e", func := "scholium/scholiumlaw14.CheckNames", spec := "checkNames", recurses := true, plainKeys := false, apart := false }
def CheckNamesSaid : Prop := checkNamesRow.holds Try.pinned (OpenSpec.ofChange checkNamesSpec)

/-- ITS FALSE NEIGHBOUR: 'it returns false'. Refute it at one input. -/
def checkNamesWrong : ChangeSpec := { name := "checkNames", fn := fun _ => fun
  | [d1, d2] => { results := [.lit (.bool false)], args := [d1, d2] }
  | _ => none }
def CheckNamesWrongFalsely : Prop := checkNamesRow.holds Try.pinned (OpenSpec.ofChange checkNamesWrong)

/-- 'scholiumlaw13.TreeGrafts': WHATEVER THE INPUT: true; the input reads as it did. -/
def treeGraftsSpec : ChangeSpec := { name := "treeGrafts", fn := fun _ => fun
  | [d1, d2, d3] => { results := [.lit (.bool true)], args := [d1, d2, d3] }
  | _ => none }
def treeGraftsRow : OpenClaim := { program := "ytcjnnghecnhbiaa", sum := "32fdec9cb1aff1ef75db6a9c429ed495f7a3760b3ae149a0bf44ce438d83922e", func := "scholium/scholiumlaw13.TreeGrafts", spec := "treeGrafts", unfollowed := true, recurses := true, plainKeys := false, apart := false }
def TreeGraftsSaid : Prop := treeGraftsRow.holds Try.pinned (OpenSpec.ofChange treeGraftsSpec)

/-- ITS FALSE NEIGHBOUR: 'it returns false'. Refute it at one input. -/
def treeGraftsWrong : ChangeSpec := { name := "treeGrafts", fn := fun _ => fun
  | [d1, d2, d3] => { results := [.lit (.bool false)], args := [d1, d2, d3] }
  | _ => none }
def TreeGraftsWrongFalsely : Prop := treeGraftsRow.holds Try.pinned (OpenSpec.ofChange treeGraftsWrong)

/-- 'scholiumlaw13.TreeTells': WHATEVER THE INPUT: true; the input reads as it did. -/
def treeTellsSpec : ChangeSpec := { name := "treeTells", fn := fun _ => fun
  | [d1, d2, d3, d4] => { results := [.lit (.bool true)], args := [d1, d2, d3, d4] }
  | _ => none }
def treeTellsRow : OpenClaim := { program := "ytcjnnghecnhbiaa", sum := "32fdec9cb1aff1ef75db6a9c429ed495f7a3760b3ae149a0bf44ce438d83922e", func := "scholium/scholiumlaw13.TreeTells", spec := "treeTells", unfollowed := true, recurses := true, plainKeys := false, apart := false }
def TreeTellsSaid : Prop := treeTellsRow.holds Try.pinned (OpenSpec.ofChange treeTellsSpec)

/-- ITS FALSE NEIGHBOUR: 'it returns false'. Refute it at one input. -/
def treeTellsWrong : ChangeSpec := { name := "treeTells", fn := fun _ => fun
  | [d1, d2, d3, d4] => { results := [.lit (.bool false)], args := [d1, d2, d3, d4] }
  | _ => none }
def TreeTellsWrongFalsely : Prop := treeTellsRow.holds Try.pinned (OpenSpec.ofChange treeTellsWrong)

/-- 'scholiumlaw22.ChangeSizes': WHATEVER THE INPUT: true; the input reads as it did. -/
def changeSizesSpec : ChangeSpec := { name := "changeSizes", fn := fun _ => fun
  | [d1, d2, d3] => { results := [.lit (.bool true)], args := [d1, d2, d3] }
  | _ => none }
def changeSizesRow : OpenClaim := { program := "ytcjnnghecnhbiaa", sum := "32fdec9cb1aff1ef75db6a9c429ed495f7a3760b3ae149a0bf44ce438d83922e", func := "scholium/scholiumlaw22.ChangeSizes", spec := "changeSizes", unfollowed := true, recurses := true, plainKeys := false, apart := false }
def ChangeSizesSaid : Prop := changeSizesRow.holds Try.pinned (OpenSpec.ofChange changeSizesSpec)

/-- ITS FALSE NEIGHBOUR: 'it returns false'. Refute it at one input. -/
def changeSizesWrong : ChangeSpec := { name := "changeSizes", fn := fun _ => fun
  | [d1, d2, d3] => { results := [.lit (.bool false)], args := [d1, d2, d3] }
  | _ => none }
def ChangeSizesWrongFalsely : Prop := changeSizesRow.holds Try.pinned (OpenSpec.ofChange changeSizesWrong)

/- THE SECOND FORM. 'bulk': how many values and letters a reading holds, each counted each time it is reached (what is shared counts as often as it is met; a slice's spare places count too). A statement '..UptoSaid' is the law's where the arguments, and the package variables that the reading takes, are together of bulk at most 1048576: NARROWER than '..Said'. Prove '..Said' where nothing that the law and all that it calls make is longer than what came in: it says more and counts as full. Else prove '..UptoSaid'. A law counts once. -/
mutual
def uptoBulk {H : Type} : DataW H → Nat
  | .lit (.string bytes) => bytes.length + 1
  | .lit _ => 1
  | .nil => 1
  | .ptr d => uptoBulk d + 1
  | .slice elems spare => uptoBulkAll elems + uptoBulkAll spare + 1
  | .agg parts => uptoBulkAll parts + 1
  | .iface _ d => uptoBulk d + 1
  | .map entries => uptoBulkEntries entries + 1
  | .held _ => 1
def uptoBulkAll {H : Type} : List (DataW H) → Nat
  | [] => 0
  | d :: r => uptoBulk d + uptoBulkAll r
def uptoBulkEntries {H : Type} : List (Lit × DataW H) → Nat
  | [] => 0
  | x :: r => uptoBulkEntry x + uptoBulkEntries r
def uptoBulkEntry {H : Type} : Lit × DataW H → Nat
  | (.string bytes, d) => bytes.length + uptoBulk d + 1
  | (_, d) => uptoBulk d + 1
 end
def uptoSmall : (H : Type) → List (DataW H) → Bool := fun _ ds => decide (uptoBulkAll ds ≤ 1048576)
def OpenSpec.upto (s : _root_.Go.ChangeSpec) : _root_.Go.OpenSpec := { _root_.Go.OpenSpec.ofChange s with cond := some uptoSmall }

/-- 'scholiumlaw13.TreeRaw', WHERE WHAT IT READS IS OF BULK AT MOST 1048576: true; the input reads as it did. -/
def treeRawUptoRow : OpenClaim := { program := "ytcjnnghecnhbiaa", sum := "32fdec9cb1aff1ef75db6a9c429ed495f7a3760b3ae149a0bf44ce438d83922e", func := "scholium/scholiumlaw13.TreeRaw", spec := "treeRaw", recurses := true, plainKeys := false, apart := false, narrowed := true }
def TreeRawUptoSaid : Prop := treeRawUptoRow.holds Try.pinned (OpenSpec.upto treeRawSpec)

/-- 'scholiumlaw13.TreeSubs', WHERE WHAT IT READS IS OF BULK AT MOST 1048576: true; the input reads as it did. -/
def treeSubsUptoRow : OpenClaim := { program := "ytcjnnghecnhbiaa", sum := "32fdec9cb1aff1ef75db6a9c429ed495f7a3760b3ae149a0bf44ce438d83922e", func := "scholium/scholiumlaw13.TreeSubs", spec := "treeSubs", recurses := true, plainKeys := false, apart := false, narrowed := true }
def TreeSubsUptoSaid : Prop := treeSubsUptoRow.holds Try.pinned (OpenSpec.upto treeSubsSpec)

/-- 'scholiumlaw13.TreeDepths', WHERE WHAT IT READS IS OF BULK AT MOST 1048576: true; the input reads as it did. -/
def treeDepthsUptoRow : OpenClaim := { program := "ytcjnnghecnhbiaa", sum := "32fdec9cb1aff1ef75db6a9c429ed495f7a3760b3ae149a0bf44ce438d83922e", func := "scholium/scholiumlaw13.TreeDepths", spec := "treeDepths", recurses := true, plainKeys := false, apart := false, narrowed := true }
def TreeDepthsUptoSaid : Prop := treeDepthsUptoRow.holds Try.pinned (OpenSpec.upto treeDepthsSpec)

/-- 'scholiumlaw13.TreeParents', WHERE WHAT IT READS IS OF BULK AT MOST 1048576: true; the input reads as it did. -/
def treeParentsUptoRow : OpenClaim := { program := "ytcjnnghecnhbiaa", sum := "32fdec9cb1aff1ef75db6a9c429ed495f7a3760b3ae149a0bf44ce438d83922e", func := "scholium/scholiumlaw13.TreeParents", spec := "treeParents", recurses := true, plainKeys := false, apart := false, narrowed := true }
def TreeParentsUptoSaid : Prop := treeParentsUptoRow.holds Try.pinned (OpenSpec.upto treeParentsSpec)

/-- 'scholiumlaw14.CheckTells', WHERE WHAT IT READS IS OF BULK AT MOST 1048576: true; the input reads as it did. -/
def checkTellsUptoRow : OpenClaim := { program := "ytcjnnghecnhbiaa", sum := "32fdec9cb1aff1ef75db6a9c429ed495f7a3760b3ae149a0bf44ce438d83922e", func := "scholium/scholiumlaw14.CheckTells", spec := "checkTells", recurses := true, plainKeys := false, apart := false, narrowed := true }
def CheckTellsUptoSaid : Prop := checkTellsUptoRow.holds Try.pinned (OpenSpec.upto checkTellsSpec)

/-- 'scholiumlaw14.CheckComposes', WHERE WHAT IT READS IS OF BULK AT MOST 1048576: true; the input reads as it did. -/
def checkComposesUptoRow : OpenClaim := { program := "ytcjnnghecnhbiaa", sum := "32fdec9cb1aff1ef75db6a9c429ed495f7a3760b3ae149a0bf44ce438d83922e", func := "scholium/scholiumlaw14.CheckComposes", spec := "checkComposes", recurses := true, plainKeys := false, apart := false, narrowed := true }
def CheckComposesUptoSaid : Prop := checkComposesUptoRow.holds Try.pinned (OpenSpec.upto checkComposesSpec)

/-- 'scholiumlaw14.CheckAliases', WHERE WHAT IT READS IS OF BULK AT MOST 1048576: true; the input reads as it did. -/
def checkAliasesUptoRow : OpenClaim := { program := "ytcjnnghecnhbiaa", sum := "32fdec9cb1aff1ef75db6a9c429ed495f7a3760b3ae149a0bf44ce438d83922e", func := "scholium/scholiumlaw14.CheckAliases", spec := "checkAliases", recurses := true, plainKeys := false, apart := false, narrowed := true }
def CheckAliasesUptoSaid : Prop := checkAliasesUptoRow.holds Try.pinned (OpenSpec.upto checkAliasesSpec)

/-- 'scholiumlaw14.CheckNames', WHERE WHAT IT READS IS OF BULK AT MOST 1048576: true; the input reads as it did. -/
def checkNamesUptoRow : OpenClaim := { program := "ytcjnnghecnhbiaa", sum := "32fdec9cb1aff1ef75db6a9c429ed495f7a3760b3ae149a0bf44ce438d83922e", func := "scholium/scholiumlaw14.CheckNames", spec := "checkNames", recurses := true, plainKeys := false, apart := false, narrowed := true }
def CheckNamesUptoSaid : Prop := checkNamesUptoRow.holds Try.pinned (OpenSpec.upto checkNamesSpec)

/-- 'scholiumlaw13.TreeGrafts', WHERE WHAT IT READS IS OF BULK AT MOST 1048576: true; the input reads as it did. -/
def treeGraftsUptoRow : OpenClaim := { program := "ytcjnnghecnhbiaa", sum := "32fdec9cb1aff1ef75db6a9c429ed495f7a3760b3ae149a0bf44ce438d83922e", func := "scholium/scholiumlaw13.TreeGrafts", spec := "treeGrafts", unfollowed := true, recurses := true, plainKeys := false, apart := false, narrowed := true }
def TreeGraftsUptoSaid : Prop := treeGraftsUptoRow.holds Try.pinned (OpenSpec.upto treeGraftsSpec)

/-- 'scholiumlaw13.TreeTells', WHERE WHAT IT READS IS OF BULK AT MOST 1048576: true; the input reads as it did. -/
def treeTellsUptoRow : OpenClaim := { program := "ytcjnnghecnhbiaa", sum := "32fdec9cb1aff1ef75db6a9c429ed495f7a3760b3ae149a0bf44ce438d83922e", func := "scholium/scholiumlaw13.TreeTells", spec := "treeTells", unfollowed := true, recurses := true, plainKeys := false, apart := false, narrowed := true }
def TreeTellsUptoSaid : Prop := treeTellsUptoRow.holds Try.pinned (OpenSpec.upto treeTellsSpec)

/-- 'scholiumlaw22.ChangeSizes', WHERE WHAT IT READS IS OF BULK AT MOST 1048576: true; the input reads as it did. -/
def changeSizesUptoRow : OpenClaim := { program := "ytcjnnghecnhbiaa", sum := "32fdec9cb1aff1ef75db6a9c429ed495f7a3760b3ae149a0bf44ce438d83922e", func := "scholium/scholiumlaw22.ChangeSizes", spec := "changeSizes", unfollowed := true, recurses := true, plainKeys := false, apart := false, narrowed := true }
def ChangeSizesUptoSaid : Prop := changeSizesUptoRow.holds Try.pinned (OpenSpec.upto changeSizesSpec)

end Rows
end Go.Proofs.Ytcjnnghecnhbiaa
