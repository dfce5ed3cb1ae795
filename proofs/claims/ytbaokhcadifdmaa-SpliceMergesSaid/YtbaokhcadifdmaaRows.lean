/-
  No cell of these rows narrows 'for every input' (looked for: loops, veiled, ifaces, maps, wideKeys, modest, calm, conditions, laid).
  DERIVED. THE GIVEN ROWS OF THIS SEAT. 9 by the template 'for every input the law returns true; each argument reads behind the call as it read before'; 0 by the template 'total and deterministic' (their statements: YtbaokhcadifdmaaTotals.lean).
  GIVEN WITH THE SEED: the statements are not yours to turn. If you find one false, say at which input.
  Laid BY PROGRAM, IN A SANDBOX (cutbox-rows.mjs): the forced cells as the released guide's own fill.sh prints them over the translation a08ac44d6a2fcc18… (all of the seat's roots in one cut). By AI agents, Wed Nov 11 2026. No macro, syntax, notation, axiom, sorry.
-/
import Derived.Test.YtbaokhcadifdmaaChecked
import GoSem.Claim
import GoSem.ClaimJoined
import GoSem.ClaimMapViews
import Derived.JoinedTies
import Derived.KernelRfl
namespace Go.Proofs.Ytbaokhcadifdmaa
/- THE CELL 'sum', in the pinned program and in every row, IS THE sha256 OF THE DUMP (.gsa) THAT YtbaokhcadifdmaaProg.lean LOADS. Nothing in Lean hashes anything: it is a label: what it is worth is what the hold of that sum in a sandbox is worth. -/
noncomputable def Try.pinned : Pinned := { name := "ytbaokhcadifdmaa", sum := "a08ac44d6a2fcc1875fcebe988e76dc34fc480c58c10d94dd26590b1a9b79f50", checked := Try.checked }
namespace Rows
def none {H : Type} : Left H := { results := [], args := [] }

/-- 'scholiumlaw25.AuditEnds': WHATEVER THE INPUT: true; the input reads as it did. -/
def auditEndsSpec : ChangeSpec := { name := "auditEnds", fn := fun _ => fun
  | [d1, d2, d3, d4] => { results := [.lit (.bool true)], args := [d1, d2, d3, d4] }
  | _ => none }
def auditEndsRow : OpenClaim := { program := "ytbaokhcadifdmaa", sum := "a08ac44d6a2fcc1875fcebe988e76dc34fc480c58c10d94dd26590b1a9b79f50", func := "scholium/scholiumlaw25.AuditEnds", spec := "auditEnds", apart := false }
def AuditEndsSaid : Prop := auditEndsRow.holds Try.pinned (OpenSpec.ofChange auditEndsSpec)

/-- ITS FALSE NEIGHBOUR: 'it returns false'. Refute it at one input. -/
def auditEndsWrong : ChangeSpec := { name := "auditEnds", fn := fun _ => fun
  | [d1, d2, d3, d4] => { results := [.lit (.bool false)], args := [d1, d2, d3, d4] }
  | _ => none }
def AuditEndsWrongFalsely : Prop := auditEndsRow.holds Try.pinned (OpenSpec.ofChange auditEndsWrong)

/-- 'scholiumlaw03.SpliceLimits': WHATEVER THE INPUT: true; the input reads as it did. -/
def spliceLimitsSpec : ChangeSpec := { name := "spliceLimits", fn := fun _ => fun
  | [d] => { results := [.lit (.bool true)], args := [d] }
  | _ => none }
def spliceLimitsRow : OpenClaim := { program := "ytbaokhcadifdmaa", sum := "a08ac44d6a2fcc1875fcebe988e76dc34fc480c58c10d94dd26590b1a9b79f50", func := "scholium/scholiumlaw03.SpliceLimits", spec := "spliceLimits", apart := false }
def SpliceLimitsSaid : Prop := spliceLimitsRow.holds Try.pinned (OpenSpec.ofChange spliceLimitsSpec)

/-- ITS FALSE NEIGHBOUR: 'it returns false'. Refute it at one input. -/
def spliceLimitsWrong : ChangeSpec := { name := "spliceLimits", fn := fun _ => fun
  | [d] => { results := [.lit (.bool false)], args := [d] }
  | _ => none }
def SpliceLimitsWrongFalsely : Prop := spliceLimitsRow.holds Try.pinned (OpenSpec.ofChange spliceLimitsWrong)

/-- 'scholiumlaw03.SpliceOne': WHATEVER THE INPUT: true; the input reads as it did. -/
def spliceOneSpec : ChangeSpec := { name := "spliceOne", fn := fun _ => fun
  | [d1, d2] => { results := [.lit (.bool true)], args := [d1, d2] }
  | _ => none }
def spliceOneRow : OpenClaim := { program := "ytbaokhcadifdmaa", sum := "a08ac44d6a2fcc1875fcebe988e76dc34fc480c58c10d94dd26590b1a9b79f50", func := "scholium/scholiumlaw03.SpliceOne", spec := "spliceOne", apart := false }
def SpliceOneSaid : Prop := spliceOneRow.holds Try.pinned (OpenSpec.ofChange spliceOneSpec)

/-- ITS FALSE NEIGHBOUR: 'it returns false'. Refute it at one input. -/
def spliceOneWrong : ChangeSpec := { name := "spliceOne", fn := fun _ => fun
  | [d1, d2] => { results := [.lit (.bool false)], args := [d1, d2] }
  | _ => none }
def SpliceOneWrongFalsely : Prop := spliceOneRow.holds Try.pinned (OpenSpec.ofChange spliceOneWrong)

/-- 'scholiumlaw03.SpliceBack': WHATEVER THE INPUT: true; the input reads as it did. -/
def spliceBackSpec : ChangeSpec := { name := "spliceBack", fn := fun _ => fun
  | [d1, d2] => { results := [.lit (.bool true)], args := [d1, d2] }
  | _ => none }
def spliceBackRow : OpenClaim := { program := "ytbaokhcadifdmaa", sum := "a08ac44d6a2fcc1875fcebe988e76dc34fc480c58c10d94dd26590b1a9b79f50", func := "scholium/scholiumlaw03.SpliceBack", spec := "spliceBack", apart := false }
def SpliceBackSaid : Prop := spliceBackRow.holds Try.pinned (OpenSpec.ofChange spliceBackSpec)

/-- ITS FALSE NEIGHBOUR: 'it returns false'. Refute it at one input. -/
def spliceBackWrong : ChangeSpec := { name := "spliceBack", fn := fun _ => fun
  | [d1, d2] => { results := [.lit (.bool false)], args := [d1, d2] }
  | _ => none }
def SpliceBackWrongFalsely : Prop := spliceBackRow.holds Try.pinned (OpenSpec.ofChange spliceBackWrong)

/-- 'scholiumlaw03.SpliceMerges': WHATEVER THE INPUT: true; the input reads as it did. -/
def spliceMergesSpec : ChangeSpec := { name := "spliceMerges", fn := fun _ => fun
  | [d] => { results := [.lit (.bool true)], args := [d] }
  | _ => none }
def spliceMergesRow : OpenClaim := { program := "ytbaokhcadifdmaa", sum := "a08ac44d6a2fcc1875fcebe988e76dc34fc480c58c10d94dd26590b1a9b79f50", func := "scholium/scholiumlaw03.SpliceMerges", spec := "spliceMerges", unfollowed := true, recurses := true, apart := false }
def SpliceMergesSaid : Prop := spliceMergesRow.holds Try.pinned (OpenSpec.ofChange spliceMergesSpec)

/-- ITS FALSE NEIGHBOUR: 'it returns false'. Refute it at one input. -/
def spliceMergesWrong : ChangeSpec := { name := "spliceMerges", fn := fun _ => fun
  | [d] => { results := [.lit (.bool false)], args := [d] }
  | _ => none }
def SpliceMergesWrongFalsely : Prop := spliceMergesRow.holds Try.pinned (OpenSpec.ofChange spliceMergesWrong)

/-- 'scholiumlaw03.SpliceKeeps': WHATEVER THE INPUT: true; the input reads as it did. -/
def spliceKeepsSpec : ChangeSpec := { name := "spliceKeeps", fn := fun _ => fun
  | [d1, d2] => { results := [.lit (.bool true)], args := [d1, d2] }
  | _ => none }
def spliceKeepsRow : OpenClaim := { program := "ytbaokhcadifdmaa", sum := "a08ac44d6a2fcc1875fcebe988e76dc34fc480c58c10d94dd26590b1a9b79f50", func := "scholium/scholiumlaw03.SpliceKeeps", spec := "spliceKeeps", apart := false }
def SpliceKeepsSaid : Prop := spliceKeepsRow.holds Try.pinned (OpenSpec.ofChange spliceKeepsSpec)

/-- ITS FALSE NEIGHBOUR: 'it returns false'. Refute it at one input. -/
def spliceKeepsWrong : ChangeSpec := { name := "spliceKeeps", fn := fun _ => fun
  | [d1, d2] => { results := [.lit (.bool false)], args := [d1, d2] }
  | _ => none }
def SpliceKeepsWrongFalsely : Prop := spliceKeepsRow.holds Try.pinned (OpenSpec.ofChange spliceKeepsWrong)

/-- 'scholiumlaw03.SpliceDoes': WHATEVER THE INPUT: true; the input reads as it did. -/
def spliceDoesSpec : ChangeSpec := { name := "spliceDoes", fn := fun _ => fun
  | [d1, d2, d3, d4] => { results := [.lit (.bool true)], args := [d1, d2, d3, d4] }
  | _ => none }
def spliceDoesRow : OpenClaim := { program := "ytbaokhcadifdmaa", sum := "a08ac44d6a2fcc1875fcebe988e76dc34fc480c58c10d94dd26590b1a9b79f50", func := "scholium/scholiumlaw03.SpliceDoes", spec := "spliceDoes", unfollowed := true, recurses := true, apart := false }
def SpliceDoesSaid : Prop := spliceDoesRow.holds Try.pinned (OpenSpec.ofChange spliceDoesSpec)

/-- ITS FALSE NEIGHBOUR: 'it returns false'. Refute it at one input. -/
def spliceDoesWrong : ChangeSpec := { name := "spliceDoes", fn := fun _ => fun
  | [d1, d2, d3, d4] => { results := [.lit (.bool false)], args := [d1, d2, d3, d4] }
  | _ => none }
def SpliceDoesWrongFalsely : Prop := spliceDoesRow.holds Try.pinned (OpenSpec.ofChange spliceDoesWrong)

/-- 'scholiumlaw25.AuditKept': WHATEVER THE INPUT: true; the input reads as it did. -/
def auditKeptSpec : ChangeSpec := { name := "auditKept", fn := fun _ => fun
  | [d1, d2, d3] => { results := [.lit (.bool true)], args := [d1, d2, d3] }
  | _ => none }
def auditKeptRow : OpenClaim := { program := "ytbaokhcadifdmaa", sum := "a08ac44d6a2fcc1875fcebe988e76dc34fc480c58c10d94dd26590b1a9b79f50", func := "scholium/scholiumlaw25.AuditKept", spec := "auditKept", apart := false }
def AuditKeptSaid : Prop := auditKeptRow.holds Try.pinned (OpenSpec.ofChange auditKeptSpec)

/-- ITS FALSE NEIGHBOUR: 'it returns false'. Refute it at one input. -/
def auditKeptWrong : ChangeSpec := { name := "auditKept", fn := fun _ => fun
  | [d1, d2, d3] => { results := [.lit (.bool false)], args := [d1, d2, d3] }
  | _ => none }
def AuditKeptWrongFalsely : Prop := auditKeptRow.holds Try.pinned (OpenSpec.ofChange auditKeptWrong)

/-- 'scholiumlaw25.AuditPieces': WHATEVER THE INPUT: true; the input reads as it did. -/
def auditPiecesSpec : ChangeSpec := { name := "auditPieces", fn := fun _ => fun
  | [d1, d2, d3, d4] => { results := [.lit (.bool true)], args := [d1, d2, d3, d4] }
  | _ => none }
def auditPiecesRow : OpenClaim := { program := "ytbaokhcadifdmaa", sum := "a08ac44d6a2fcc1875fcebe988e76dc34fc480c58c10d94dd26590b1a9b79f50", func := "scholium/scholiumlaw25.AuditPieces", spec := "auditPieces", apart := false }
def AuditPiecesSaid : Prop := auditPiecesRow.holds Try.pinned (OpenSpec.ofChange auditPiecesSpec)

/-- ITS FALSE NEIGHBOUR: 'it returns false'. Refute it at one input. -/
def auditPiecesWrong : ChangeSpec := { name := "auditPieces", fn := fun _ => fun
  | [d1, d2, d3, d4] => { results := [.lit (.bool false)], args := [d1, d2, d3, d4] }
  | _ => none }
def AuditPiecesWrongFalsely : Prop := auditPiecesRow.holds Try.pinned (OpenSpec.ofChange auditPiecesWrong)

/- THE SECOND FORM. 'bulk': how many values and letters a reading holds, each counted each time it is reached (what is shared counts as often as it is met; a slice's spare places count too). A statement '..UptoSaid' is the law's where the arguments, and the package variables that the reading takes, are together of bulk at most 1048576: NARROWER than '..Said'. Prove '..Said' where nothing that the law and all that it calls make is longer than what came in: it says more and counts as full. Else prove '..UptoSaid'. A law counts once. -/
mutual
def uptoBulk {H : Type} : DataW H → Nat
  | .lit (.string bytes) => bytes.length + 1
  | .lit _ => 1
  | .nil => 1
  | .ptr d => uptoBulk d + 1
  | .slice elems spare => uptoBulkAll elems + uptoBulkAll spare + 1
  | .agg parts => uptoBulkAll parts + 1
  | .iface _ d => uptoBulk d + 1
  | .map entries => uptoBulkEntries entries + 1
  | .held _ => 1
def uptoBulkAll {H : Type} : List (DataW H) → Nat
  | [] => 0
  | d :: r => uptoBulk d + uptoBulkAll r
def uptoBulkEntries {H : Type} : List (Lit × DataW H) → Nat
  | [] => 0
  | x :: r => uptoBulkEntry x + uptoBulkEntries r
def uptoBulkEntry {H : Type} : Lit × DataW H → Nat
  | (.string bytes, d) => bytes.length + uptoBulk d + 1
  | (_, d) => uptoBulk d + 1
 end
def uptoSmall : (H : Type) → List (DataW H) → Bool := fun _ ds => decide (uptoBulkAll ds ≤ 1048576)
def OpenSpec.upto (s : _root_.Go.ChangeSpec) : _root_.Go.OpenSpec := { _root_.Go.OpenSpec.ofChange s with cond := some uptoSmall }

/-- 'scholiumlaw25.AuditEnds', WHERE WHAT IT READS IS OF BULK AT MOST 1048576: true; the input reads as it did. -/
def auditEndsUptoRow : OpenClaim := { program := "ytbaokhcadifdmaa", sum := "a08ac44d6a2fcc1875fcebe988e76dc34fc480c58c10d94dd26590b1a9b79f50", func := "scholium/scholiumlaw25.AuditEnds", spec := "auditEnds", apart := false, narrowed := true }
def AuditEndsUptoSaid : Prop := auditEndsUptoRow.holds Try.pinned (OpenSpec.upto auditEndsSpec)

/-- 'scholiumlaw03.SpliceLimits', WHERE WHAT IT READS IS OF BULK AT MOST 1048576: true; the input reads as it did. -/
def spliceLimitsUptoRow : OpenClaim := { program := "ytbaokhcadifdmaa", sum := "a08ac44d6a2fcc1875fcebe988e76dc34fc480c58c10d94dd26590b1a9b79f50", func := "scholium/scholiumlaw03.SpliceLimits", spec := "spliceLimits", apart := false, narrowed := true }
def SpliceLimitsUptoSaid : Prop := spliceLimitsUptoRow.holds Try.pinned (OpenSpec.upto spliceLimitsSpec)

/-- 'scholiumlaw03.SpliceOne', WHERE WHAT IT READS IS OF BULK AT MOST 1048576: true; the input reads as it did. -/
def spliceOneUptoRow : OpenClaim := { program := "ytbaokhcadifdmaa", sum := "a08ac44d6a2fcc1875fcebe988e76dc34fc480c58c10d94dd26590b1a9b79f50", func := "scholium/scholiumlaw03.SpliceOne", spec := "spliceOne", apart := false, narrowed := true }
def SpliceOneUptoSaid : Prop := spliceOneUptoRow.holds Try.pinned (OpenSpec.upto spliceOneSpec)

/-- 'scholiumlaw03.SpliceBack', WHERE WHAT IT READS IS OF BULK AT MOST 1048576: true; the input reads as it did. -/
def spliceBackUptoRow : OpenClaim := { program := "ytbaokhcadifdmaa", sum := "a08ac44d6a2fcc1875fcebe988e76dc34fc480c58c10d94dd26590b1a9b79f50", func := "scholium/scholiumlaw03.SpliceBack", spec := "spliceBack", apart := false, narrowed := true }
def SpliceBackUptoSaid : Prop := spliceBackUptoRow.holds Try.pinned (OpenSpec.upto spliceBackSpec)

/-- 'scholiumlaw03.SpliceMerges', WHERE WHAT IT READS IS OF BULK AT MOST 1048576: true; the input reads as it did. -/
def spliceMergesUptoRow : OpenClaim := { program := "ytbaokhcadifdmaa", sum := "a08ac44d6a2fcc1875fcebe988e76dc34fc480c58c10d94dd26590b1a9b79f50", func := "scholium/scholiumlaw03.SpliceMerges", spec := "spliceMerges", unfollowed := true, recurses := true, apart := false, narrowed := true }
def SpliceMergesUptoSaid : Prop := spliceMergesUptoRow.holds Try.pinned (OpenSpec.upto spliceMergesSpec)

/-- 'scholiumlaw03.SpliceKeeps', WHERE WHAT IT READS IS OF BULK AT MOST 1048576: true; the input reads as it did. -/
def spliceKeepsUptoRow : OpenClaim := { program := "ytbaokhcadifdmaa", sum := "a08ac44d6a2fcc1875fcebe988e76dc34fc480c58c10d94dd26590b1a9b79f50", func := "scholium/scholiumlaw03.SpliceKeeps", spec := "spliceKeeps", apart := false, narrowed := true }
def SpliceKeepsUptoSaid : Prop := spliceKeepsUptoRow.holds Try.pinned (OpenSpec.upto spliceKeepsSpec)

/-- 'scholiumlaw03.SpliceDoes', WHERE WHAT IT READS IS OF BULK AT MOST 1048576: true; the input reads as it did. -/
def spliceDoesUptoRow : OpenClaim := { program := "ytbaokhcadifdmaa", sum := "a08ac44d6a2fcc1875fcebe988e76dc34fc480c58c10d94dd26590b1a9b79f50", func := "scholium/scholiumlaw03.SpliceDoes", spec := "spliceDoes", unfollowed := true, recurses := true, apart := false, narrowed := true }
def SpliceDoesUptoSaid : Prop := spliceDoesUptoRow.holds Try.pinned (OpenSpec.upto spliceDoesSpec)

/-- 'scholiumlaw25.AuditKept', WHERE WHAT IT READS IS OF BULK AT MOST 1048576: true; the input reads as it did. -/
def auditKeptUptoRow : OpenClaim := { program := "ytbaokhcadifdmaa", sum := "a08ac44d6a2fcc1875fcebe988e76dc34fc480c58c10d94dd26590b1a9b79f50", func := "scholium/scholiumlaw25.AuditKept", spec := "auditKept", apart := false, narrowed := true }
def AuditKeptUptoSaid : Prop := auditKeptUptoRow.holds Try.pinned (OpenSpec.upto auditKeptSpec)

/-- 'scholiumlaw25.AuditPieces', WHERE WHAT IT READS IS OF BULK AT MOST 1048576: true; the input reads as it did. -/
def auditPiecesUptoRow : OpenClaim := { program := "ytbaokhcadifdmaa", sum := "a08ac44d6a2fcc1875fcebe988e76dc34fc480c58c10d94dd26590b1a9b79f50", func := "scholium/scholiumlaw25.AuditPieces", spec := "auditPieces", apart := false, narrowed := true }
def AuditPiecesUptoSaid : Prop := auditPiecesUptoRow.holds Try.pinned (OpenSpec.upto auditPiecesSpec)

end Rows
end Go.Proofs.Ytbaokhcadifdmaa
