/-
  No cell of these rows narrows 'for every input' (looked for: loops, veiled, ifaces, maps, wideKeys, modest, calm, conditions, laid).
  DERIVED. THE GIVEN ROWS OF THIS SEAT. 10 by the template 'for every input the law returns true; each argument reads behind the call as it read before'; 0 by the template 'total and deterministic' (their statements: YtaggmlokldaclaaTotals.lean).
  GIVEN WITH THE SEED: the statements are not yours to turn. If you find one false, say at which input.
  Laid BY PROGRAM, IN A SANDBOX (cutbox-rows.mjs): the forced cells as the released guide's own fill.sh prints them over the translation 3eae0aa596bfa89c… (all of the seat's roots in one cut). By AI agents, Wed Nov 11 2026. No macro, syntax, notation, axiom, sorry.
-/
import Derived.Test.YtaggmlokldaclaaChecked
import GoSem.Claim
import GoSem.ClaimJoined
import GoSem.ClaimMapViews
import Derived.JoinedTies
import Derived.KernelRfl
namespace Go.Proofs.Ytaggmlokldaclaa
/- THE CELL 'sum', in the pinned program and in every row, IS THE sha256 OF THE DUMP (.gsa) THAT YtaggmlokldaclaaProg.lean LOADS. Nothing in Lean hashes anything: it is a label: what it is worth is what the hold of that sum in a sandbox is worth. -/
noncomputable def Try.pinned : Pinned := { name := "ytaggmlokldaclaa", sum := "3eae0aa596bfa89cd88297ab80bfd0bb1132791c426baf33f7959e6cfb37a9d7", checked := Try.checked }
namespace Rows
def none {H : Type} : Left H := { results := [], args := [] }

/-- 'laws.FnExactMostBad': WHATEVER THE INPUT: true; the input reads as it did. -/
def fnExactMostBadSpec : ChangeSpec := { name := "fnExactMostBad", fn := fun _ => fun
  | [d1, d2] => { results := [.lit (.bool true)], args := [d1, d2] }
  | _ => none }
def fnExactMostBadRow : OpenClaim := { program := "ytaggmlokldaclaa", sum := "3eae0aa596bfa89cd88297ab80bfd0bb1132791c426baf33f7959e6cfb37a9d7", func := "loop.example/g03000/laws.FnExactMostBad", spec := "fnExactMostBad", apart := false }
def FnExactMostBadSaid : Prop := fnExactMostBadRow.holds Try.pinned (OpenSpec.ofChange fnExactMostBadSpec)

/-- ITS FALSE NEIGHBOUR: 'it returns false'. Refute it at one input. -/
def fnExactMostBadWrong : ChangeSpec := { name := "fnExactMostBad", fn := fun _ => fun
  | [d1, d2] => { results := [.lit (.bool false)], args := [d1, d2] }
  | _ => none }
def FnExactMostBadWrongFalsely : Prop := fnExactMostBadRow.holds Try.pinned (OpenSpec.ofChange fnExactMostBadWrong)

/-- 'laws.FnExactSignalName': WHATEVER THE INPUT: true; the input reads as it did. -/
def fnExactSignalNameSpec : ChangeSpec := { name := "fnExactSignalName", fn := fun _ => fun
  | [d] => { results := [.lit (.bool true)], args := [d] }
  | _ => none }
def fnExactSignalNameRow : OpenClaim := { program := "ytaggmlokldaclaa", sum := "3eae0aa596bfa89cd88297ab80bfd0bb1132791c426baf33f7959e6cfb37a9d7", func := "loop.example/g03000/laws.FnExactSignalName", spec := "fnExactSignalName", apart := false }
def FnExactSignalNameSaid : Prop := fnExactSignalNameRow.holds Try.pinned (OpenSpec.ofChange fnExactSignalNameSpec)

/-- ITS FALSE NEIGHBOUR: 'it returns false'. Refute it at one input. -/
def fnExactSignalNameWrong : ChangeSpec := { name := "fnExactSignalName", fn := fun _ => fun
  | [d] => { results := [.lit (.bool false)], args := [d] }
  | _ => none }
def FnExactSignalNameWrongFalsely : Prop := fnExactSignalNameRow.holds Try.pinned (OpenSpec.ofChange fnExactSignalNameWrong)

/-- 'laws.FnExactAreCounts': WHATEVER THE INPUT: true; the input reads as it did. -/
def fnExactAreCountsSpec : ChangeSpec := { name := "fnExactAreCounts", fn := fun _ => fun
  | [d] => { results := [.lit (.bool true)], args := [d] }
  | _ => none }
def fnExactAreCountsRow : OpenClaim := { program := "ytaggmlokldaclaa", sum := "3eae0aa596bfa89cd88297ab80bfd0bb1132791c426baf33f7959e6cfb37a9d7", func := "loop.example/g03000/laws.FnExactAreCounts", spec := "fnExactAreCounts", unfollowed := true, recurses := true, apart := false }
def FnExactAreCountsSaid : Prop := fnExactAreCountsRow.holds Try.pinned (OpenSpec.ofChange fnExactAreCountsSpec)

/-- ITS FALSE NEIGHBOUR: 'it returns false'. Refute it at one input. -/
def fnExactAreCountsWrong : ChangeSpec := { name := "fnExactAreCounts", fn := fun _ => fun
  | [d] => { results := [.lit (.bool false)], args := [d] }
  | _ => none }
def FnExactAreCountsWrongFalsely : Prop := fnExactAreCountsRow.holds Try.pinned (OpenSpec.ofChange fnExactAreCountsWrong)

/-- 'laws.FnExactSignalOf': WHATEVER THE INPUT: true; the input reads as it did. -/
def fnExactSignalOfSpec : ChangeSpec := { name := "fnExactSignalOf", fn := fun _ => fun
  | [d1, d2, d3, d4] => { results := [.lit (.bool true)], args := [d1, d2, d3, d4] }
  | _ => none }
def fnExactSignalOfRow : OpenClaim := { program := "ytaggmlokldaclaa", sum := "3eae0aa596bfa89cd88297ab80bfd0bb1132791c426baf33f7959e6cfb37a9d7", func := "loop.example/g03000/laws.FnExactSignalOf", spec := "fnExactSignalOf", unfollowed := true, recurses := true, apart := false }
def FnExactSignalOfSaid : Prop := fnExactSignalOfRow.holds Try.pinned (OpenSpec.ofChange fnExactSignalOfSpec)

/-- ITS FALSE NEIGHBOUR: 'it returns false'. Refute it at one input. -/
def fnExactSignalOfWrong : ChangeSpec := { name := "fnExactSignalOf", fn := fun _ => fun
  | [d1, d2, d3, d4] => { results := [.lit (.bool false)], args := [d1, d2, d3, d4] }
  | _ => none }
def FnExactSignalOfWrongFalsely : Prop := fnExactSignalOfRow.holds Try.pinned (OpenSpec.ofChange fnExactSignalOfWrong)

/-- 'laws.FnExactShareOf': WHATEVER THE INPUT: true; the input reads as it did. -/
def fnExactShareOfSpec : ChangeSpec := { name := "fnExactShareOf", fn := fun _ => fun
  | [d1, d2] => { results := [.lit (.bool true)], args := [d1, d2] }
  | _ => none }
def fnExactShareOfRow : OpenClaim := { program := "ytaggmlokldaclaa", sum := "3eae0aa596bfa89cd88297ab80bfd0bb1132791c426baf33f7959e6cfb37a9d7", func := "loop.example/g03000/laws.FnExactShareOf", spec := "fnExactShareOf", unfollowed := true, recurses := true, apart := false }
def FnExactShareOfSaid : Prop := fnExactShareOfRow.holds Try.pinned (OpenSpec.ofChange fnExactShareOfSpec)

/-- ITS FALSE NEIGHBOUR: 'it returns false'. Refute it at one input. -/
def fnExactShareOfWrong : ChangeSpec := { name := "fnExactShareOf", fn := fun _ => fun
  | [d1, d2] => { results := [.lit (.bool false)], args := [d1, d2] }
  | _ => none }
def FnExactShareOfWrongFalsely : Prop := fnExactShareOfRow.holds Try.pinned (OpenSpec.ofChange fnExactShareOfWrong)

/-- 'laws.FnExactSafeStages': WHATEVER THE INPUT: true; the input reads as it did. -/
def fnExactSafeStagesSpec : ChangeSpec := { name := "fnExactSafeStages", fn := fun _ => fun
  | [d1, d2] => { results := [.lit (.bool true)], args := [d1, d2] }
  | _ => none }
def fnExactSafeStagesRow : OpenClaim := { program := "ytaggmlokldaclaa", sum := "3eae0aa596bfa89cd88297ab80bfd0bb1132791c426baf33f7959e6cfb37a9d7", func := "loop.example/g03000/laws.FnExactSafeStages", spec := "fnExactSafeStages", apart := false }
def FnExactSafeStagesSaid : Prop := fnExactSafeStagesRow.holds Try.pinned (OpenSpec.ofChange fnExactSafeStagesSpec)

/-- ITS FALSE NEIGHBOUR: 'it returns false'. Refute it at one input. -/
def fnExactSafeStagesWrong : ChangeSpec := { name := "fnExactSafeStages", fn := fun _ => fun
  | [d1, d2] => { results := [.lit (.bool false)], args := [d1, d2] }
  | _ => none }
def FnExactSafeStagesWrongFalsely : Prop := fnExactSafeStagesRow.holds Try.pinned (OpenSpec.ofChange fnExactSafeStagesWrong)

/-- 'laws.FnExactHideSmall': WHATEVER THE INPUT: true; the input reads as it did. -/
def fnExactHideSmallSpec : ChangeSpec := { name := "fnExactHideSmall", fn := fun _ => fun
  | [d1, d2] => { results := [.lit (.bool true)], args := [d1, d2] }
  | _ => none }
def fnExactHideSmallRow : OpenClaim := { program := "ytaggmlokldaclaa", sum := "3eae0aa596bfa89cd88297ab80bfd0bb1132791c426baf33f7959e6cfb37a9d7", func := "loop.example/g03000/laws.FnExactHideSmall", spec := "fnExactHideSmall", unfollowed := true, recurses := true, apart := false }
def FnExactHideSmallSaid : Prop := fnExactHideSmallRow.holds Try.pinned (OpenSpec.ofChange fnExactHideSmallSpec)

/-- ITS FALSE NEIGHBOUR: 'it returns false'. Refute it at one input. -/
def fnExactHideSmallWrong : ChangeSpec := { name := "fnExactHideSmall", fn := fun _ => fun
  | [d1, d2] => { results := [.lit (.bool false)], args := [d1, d2] }
  | _ => none }
def FnExactHideSmallWrongFalsely : Prop := fnExactHideSmallRow.holds Try.pinned (OpenSpec.ofChange fnExactHideSmallWrong)

/-- 'laws.FnExactHiddenIn': WHATEVER THE INPUT: true; the input reads as it did. -/
def fnExactHiddenInSpec : ChangeSpec := { name := "fnExactHiddenIn", fn := fun _ => fun
  | [d1, d2] => { results := [.lit (.bool true)], args := [d1, d2] }
  | _ => none }
def fnExactHiddenInRow : OpenClaim := { program := "ytaggmlokldaclaa", sum := "3eae0aa596bfa89cd88297ab80bfd0bb1132791c426baf33f7959e6cfb37a9d7", func := "loop.example/g03000/laws.FnExactHiddenIn", spec := "fnExactHiddenIn", unfollowed := true, recurses := true, apart := false }
def FnExactHiddenInSaid : Prop := fnExactHiddenInRow.holds Try.pinned (OpenSpec.ofChange fnExactHiddenInSpec)

/-- ITS FALSE NEIGHBOUR: 'it returns false'. Refute it at one input. -/
def fnExactHiddenInWrong : ChangeSpec := { name := "fnExactHiddenIn", fn := fun _ => fun
  | [d1, d2] => { results := [.lit (.bool false)], args := [d1, d2] }
  | _ => none }
def FnExactHiddenInWrongFalsely : Prop := fnExactHiddenInRow.holds Try.pinned (OpenSpec.ofChange fnExactHiddenInWrong)

/-- 'laws.FnExactSumCounts': WHATEVER THE INPUT: true; the input reads as it did. -/
def fnExactSumCountsSpec : ChangeSpec := { name := "fnExactSumCounts", fn := fun _ => fun
  | [d1, d2] => { results := [.lit (.bool true)], args := [d1, d2] }
  | _ => none }
def fnExactSumCountsRow : OpenClaim := { program := "ytaggmlokldaclaa", sum := "3eae0aa596bfa89cd88297ab80bfd0bb1132791c426baf33f7959e6cfb37a9d7", func := "loop.example/g03000/laws.FnExactSumCounts", spec := "fnExactSumCounts", unfollowed := true, recurses := true, apart := false }
def FnExactSumCountsSaid : Prop := fnExactSumCountsRow.holds Try.pinned (OpenSpec.ofChange fnExactSumCountsSpec)

/-- ITS FALSE NEIGHBOUR: 'it returns false'. Refute it at one input. -/
def fnExactSumCountsWrong : ChangeSpec := { name := "fnExactSumCounts", fn := fun _ => fun
  | [d1, d2] => { results := [.lit (.bool false)], args := [d1, d2] }
  | _ => none }
def FnExactSumCountsWrongFalsely : Prop := fnExactSumCountsRow.holds Try.pinned (OpenSpec.ofChange fnExactSumCountsWrong)

/-- 'laws.FnReports': WHATEVER THE INPUT: true; the input reads as it did. -/
def fnReportsSpec : ChangeSpec := { name := "fnReports", fn := fun _ => fun
  | [d] => { results := [.lit (.bool true)], args := [d] }
  | _ => none }
def fnReportsRow : OpenClaim := { program := "ytaggmlokldaclaa", sum := "3eae0aa596bfa89cd88297ab80bfd0bb1132791c426baf33f7959e6cfb37a9d7", func := "loop.example/g03000/laws.FnReports", spec := "fnReports", unfollowed := true, recurses := true, apart := false }
def FnReportsSaid : Prop := fnReportsRow.holds Try.pinned (OpenSpec.ofChange fnReportsSpec)

/-- ITS FALSE NEIGHBOUR: 'it returns false'. Refute it at one input. -/
def fnReportsWrong : ChangeSpec := { name := "fnReports", fn := fun _ => fun
  | [d] => { results := [.lit (.bool false)], args := [d] }
  | _ => none }
def FnReportsWrongFalsely : Prop := fnReportsRow.holds Try.pinned (OpenSpec.ofChange fnReportsWrong)

/- THE SECOND FORM. 'bulk': how many values and letters a reading holds, each counted each time it is reached (what is shared counts as often as it is met; a slice's spare places count too). A statement '..UptoSaid' is the law's where the arguments, and the package variables that the reading takes, are together of bulk at most 1048576: NARROWER than '..Said'. Prove '..Said' where nothing that the law and all that it calls make is longer than what came in: it says more and counts as full. Else prove '..UptoSaid'. A law counts once. -/
mutual
def uptoBulk {H : Type} : DataW H → Nat
  | .lit (.string bytes) => bytes.length + 1
  | .lit _ => 1
  | .nil => 1
  | .ptr d => uptoBulk d + 1
  | .slice elems spare => uptoBulkAll elems + uptoBulkAll spare + 1
  | .agg parts => uptoBulkAll parts + 1
  | .iface _ d => uptoBulk d + 1
  | .map entries => uptoBulkEntries entries + 1
  | .held _ => 1
def uptoBulkAll {H : Type} : List (DataW H) → Nat
  | [] => 0
  | d :: r => uptoBulk d + uptoBulkAll r
def uptoBulkEntries {H : Type} : List (Lit × DataW H) → Nat
  | [] => 0
  | x :: r => uptoBulkEntry x + uptoBulkEntries r
def uptoBulkEntry {H : Type} : Lit × DataW H → Nat
  | (.string bytes, d) => bytes.length + uptoBulk d + 1
  | (_, d) => uptoBulk d + 1
 end
def uptoSmall : (H : Type) → List (DataW H) → Bool := fun _ ds => decide (uptoBulkAll ds ≤ 1048576)
def OpenSpec.upto (s : _root_.Go.ChangeSpec) : _root_.Go.OpenSpec := { _root_.Go.OpenSpec.ofChange s with cond := some uptoSmall }

/-- 'laws.FnExactMostBad', WHERE WHAT IT READS IS OF BULK AT MOST 1048576: true; the input reads as it did. -/
def fnExactMostBadUptoRow : OpenClaim := { program := "ytaggmlokldaclaa", sum := "3eae0aa596bfa89cd88297ab80bfd0bb1132791c426baf33f7959e6cfb37a9d7", func := "loop.example/g03000/laws.FnExactMostBad", spec := "fnExactMostBad", apart := false, narrowed := true }
def FnExactMostBadUptoSaid : Prop := fnExactMostBadUptoRow.holds Try.pinned (OpenSpec.upto fnExactMostBadSpec)

/-- 'laws.FnExactSignalName', WHERE WHAT IT READS IS OF BULK AT MOST 1048576: true; the input reads as it did. -/
def fnExactSignalNameUptoRow : OpenClaim := { program := "ytaggmlokldaclaa", sum := "3eae0aa596bfa89cd88297ab80bfd0bb1132791c426baf33f7959e6cfb37a9d7", func := "loop.example/g03000/laws.FnExactSignalName", spec := "fnExactSignalName", apart := false, narrowed := true }
def FnExactSignalNameUptoSaid : Prop := fnExactSignalNameUptoRow.holds Try.pinned (OpenSpec.upto fnExactSignalNameSpec)

/-- 'laws.FnExactAreCounts', WHERE WHAT IT READS IS OF BULK AT MOST 1048576: true; the input reads as it did. -/
def fnExactAreCountsUptoRow : OpenClaim := { program := "ytaggmlokldaclaa", sum := "3eae0aa596bfa89cd88297ab80bfd0bb1132791c426baf33f7959e6cfb37a9d7", func := "loop.example/g03000/laws.FnExactAreCounts", spec := "fnExactAreCounts", unfollowed := true, recurses := true, apart := false, narrowed := true }
def FnExactAreCountsUptoSaid : Prop := fnExactAreCountsUptoRow.holds Try.pinned (OpenSpec.upto fnExactAreCountsSpec)

/-- 'laws.FnExactSignalOf', WHERE WHAT IT READS IS OF BULK AT MOST 1048576: true; the input reads as it did. -/
def fnExactSignalOfUptoRow : OpenClaim := { program := "ytaggmlokldaclaa", sum := "3eae0aa596bfa89cd88297ab80bfd0bb1132791c426baf33f7959e6cfb37a9d7", func := "loop.example/g03000/laws.FnExactSignalOf", spec := "fnExactSignalOf", unfollowed := true, recurses := true, apart := false, narrowed := true }
def FnExactSignalOfUptoSaid : Prop := fnExactSignalOfUptoRow.holds Try.pinned (OpenSpec.upto fnExactSignalOfSpec)

/-- 'laws.FnExactShareOf', WHERE WHAT IT READS IS OF BULK AT MOST 1048576: true; the input reads as it did. -/
def fnExactShareOfUptoRow : OpenClaim := { program := "ytaggmlokldaclaa", sum := "3eae0aa596bfa89cd88297ab80bfd0bb1132791c426baf33f7959e6cfb37a9d7", func := "loop.example/g03000/laws.FnExactShareOf", spec := "fnExactShareOf", unfollowed := true, recurses := true, apart := false, narrowed := true }
def FnExactShareOfUptoSaid : Prop := fnExactShareOfUptoRow.holds Try.pinned (OpenSpec.upto fnExactShareOfSpec)

/-- 'laws.FnExactSafeStages', WHERE WHAT IT READS IS OF BULK AT MOST 1048576: true; the input reads as it did. -/
def fnExactSafeStagesUptoRow : OpenClaim := { program := "ytaggmlokldaclaa", sum := "3eae0aa596bfa89cd88297ab80bfd0bb1132791c426baf33f7959e6cfb37a9d7", func := "loop.example/g03000/laws.FnExactSafeStages", spec := "fnExactSafeStages", apart := false, narrowed := true }
def FnExactSafeStagesUptoSaid : Prop := fnExactSafeStagesUptoRow.holds Try.pinned (OpenSpec.upto fnExactSafeStagesSpec)

/-- 'laws.FnExactHideSmall', WHERE WHAT IT READS IS OF BULK AT MOST 1048576: true; the input reads as it did. -/
def fnExactHideSmallUptoRow : OpenClaim := { program := "ytaggmlokldaclaa", sum := "3eae0aa596bfa89cd88297ab80bfd0bb1132791c426baf33f7959e6cfb37a9d7", func := "loop.example/g03000/laws.FnExactHideSmall", spec := "fnExactHideSmall", unfollowed := true, recurses := true, apart := false, narrowed := true }
def FnExactHideSmallUptoSaid : Prop := fnExactHideSmallUptoRow.holds Try.pinned (OpenSpec.upto fnExactHideSmallSpec)

/-- 'laws.FnExactHiddenIn', WHERE WHAT IT READS IS OF BULK AT MOST 1048576: true; the input reads as it did. -/
def fnExactHiddenInUptoRow : OpenClaim := { program := "ytaggmlokldaclaa", sum := "3eae0aa596bfa89cd88297ab80bfd0bb1132791c426baf33f7959e6cfb37a9d7", func := "loop.example/g03000/laws.FnExactHiddenIn", spec := "fnExactHiddenIn", unfollowed := true, recurses := true, apart := false, narrowed := true }
def FnExactHiddenInUptoSaid : Prop := fnExactHiddenInUptoRow.holds Try.pinned (OpenSpec.upto fnExactHiddenInSpec)

/-- 'laws.FnExactSumCounts', WHERE WHAT IT READS IS OF BULK AT MOST 1048576: true; the input reads as it did. -/
def fnExactSumCountsUptoRow : OpenClaim := { program := "ytaggmlokldaclaa", sum := "3eae0aa596bfa89cd88297ab80bfd0bb1132791c426baf33f7959e6cfb37a9d7", func := "loop.example/g03000/laws.FnExactSumCounts", spec := "fnExactSumCounts", unfollowed := true, recurses := true, apart := false, narrowed := true }
def FnExactSumCountsUptoSaid : Prop := fnExactSumCountsUptoRow.holds Try.pinned (OpenSpec.upto fnExactSumCountsSpec)

/-- 'laws.FnReports', WHERE WHAT IT READS IS OF BULK AT MOST 1048576: true; the input reads as it did. -/
def fnReportsUptoRow : OpenClaim := { program := "ytaggmlokldaclaa", sum := "3eae0aa596bfa89cd88297ab80bfd0bb1132791c426baf33f7959e6cfb37a9d7", func := "loop.example/g03000/laws.FnReports", spec := "fnReports", unfollowed := true, recurses := true, apart := false, narrowed := true }
def FnReportsUptoSaid : Prop := fnReportsUptoRow.holds Try.pinned (OpenSpec.upto fnReportsSpec)

end Rows
end Go.Proofs.Ytaggmlokldaclaa
