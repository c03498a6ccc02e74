/-
  No cell of these rows narrows 'for every input' (looked for: loops, veiled, ifaces, maps, wideKeys, modest, calm, conditions, laid).
  DERIVED. THE GIVEN ROWS OF THIS SEAT. 6 by the template 'for every input the law returns true; each argument reads behind the call as it read before'; 0 by the template 'total and deterministic' (their statements: YtldcchjbaglppaaTotals.lean).
  GIVEN WITH THE SEED: the statements are not yours to turn. If you find one false, say at which input.
  Laid BY PROGRAM, IN A SANDBOX (cutbox-rows.mjs): the forced cells as the released guide's own fill.sh prints them over the translation 1ce6aa373fd8be85… (all of the seat's roots in one cut). By AI agents, Wed Nov 11 2026. No macro, syntax, notation, axiom, sorry.
-/
import Derived.Test.YtldcchjbaglppaaChecked
import GoSem.Claim
import GoSem.ClaimJoined
import GoSem.ClaimMapViews
import Derived.JoinedTies
import Derived.KernelRfl
namespace Go.Proofs.Ytldcchjbaglppaa
/- THE CELL 'sum', in the pinned program and in every row, IS THE sha256 OF THE DUMP (.gsa) THAT YtldcchjbaglppaaProg.lean LOADS. Nothing in Lean hashes anything: it is a label: what it is worth is what the hold of that sum in a sandbox is worth. -/
noncomputable def Try.pinned : Pinned := { name := "ytldcchjbaglppaa", sum := "1ce6aa373fd8be85f72aaf9f0d8c766daf2aba56896558f5084a6539b3925bf0", checked := Try.checked }
namespace Rows
def none {H : Type} : Left H := { results := [], args := [] }

/-- 'laws.FnExactLatestFor': WHATEVER THE INPUT: true; the input reads as it did. -/
def fnExactLatestForSpec : ChangeSpec := { name := "fnExactLatestFor", fn := fun _ => fun
  | [d1, d2] => { results := [.lit (.bool true)], args := [d1, d2] }
  | _ => none }
def fnExactLatestForRow : OpenClaim := { program := "ytldcchjbaglppaa", sum := "1ce6aa373fd8be85f72aaf9f0d8c766daf2aba56896558f5084a6539b3925bf0", func := "loop.example/g03000/laws.FnExactLatestFor", spec := "fnExactLatestFor", unfollowed := true, recurses := true, apart := false }
def FnExactLatestForSaid : Prop := fnExactLatestForRow.holds Try.pinned (OpenSpec.ofChange fnExactLatestForSpec)

/-- ITS FALSE NEIGHBOUR: 'it returns false'. Refute it at one input. -/
def fnExactLatestForWrong : ChangeSpec := { name := "fnExactLatestFor", fn := fun _ => fun
  | [d1, d2] => { results := [.lit (.bool false)], args := [d1, d2] }
  | _ => none }
def FnExactLatestForWrongFalsely : Prop := fnExactLatestForRow.holds Try.pinned (OpenSpec.ofChange fnExactLatestForWrong)

/-- 'laws.FnExactWorksWith': WHATEVER THE INPUT: true; the input reads as it did. -/
def fnExactWorksWithSpec : ChangeSpec := { name := "fnExactWorksWith", fn := fun _ => fun
  | [d1, d2] => { results := [.lit (.bool true)], args := [d1, d2] }
  | _ => none }
def fnExactWorksWithRow : OpenClaim := { program := "ytldcchjbaglppaa", sum := "1ce6aa373fd8be85f72aaf9f0d8c766daf2aba56896558f5084a6539b3925bf0", func := "loop.example/g03000/laws.FnExactWorksWith", spec := "fnExactWorksWith", unfollowed := true, recurses := true, apart := false }
def FnExactWorksWithSaid : Prop := fnExactWorksWithRow.holds Try.pinned (OpenSpec.ofChange fnExactWorksWithSpec)

/-- ITS FALSE NEIGHBOUR: 'it returns false'. Refute it at one input. -/
def fnExactWorksWithWrong : ChangeSpec := { name := "fnExactWorksWith", fn := fun _ => fun
  | [d1, d2] => { results := [.lit (.bool false)], args := [d1, d2] }
  | _ => none }
def FnExactWorksWithWrongFalsely : Prop := fnExactWorksWithRow.holds Try.pinned (OpenSpec.ofChange fnExactWorksWithWrong)

/-- 'laws.FnExactFarFollows': WHATEVER THE INPUT: true; the input reads as it did. -/
def fnExactFarFollowsSpec : ChangeSpec := { name := "fnExactFarFollows", fn := fun _ => fun
  | [d1, d2, d3] => { results := [.lit (.bool true)], args := [d1, d2, d3] }
  | _ => none }
def fnExactFarFollowsRow : OpenClaim := { program := "ytldcchjbaglppaa", sum := "1ce6aa373fd8be85f72aaf9f0d8c766daf2aba56896558f5084a6539b3925bf0", func := "loop.example/g03000/laws.FnExactFarFollows", spec := "fnExactFarFollows", unfollowed := true, recurses := true, apart := false }
def FnExactFarFollowsSaid : Prop := fnExactFarFollowsRow.holds Try.pinned (OpenSpec.ofChange fnExactFarFollowsSpec)

/-- ITS FALSE NEIGHBOUR: 'it returns false'. Refute it at one input. -/
def fnExactFarFollowsWrong : ChangeSpec := { name := "fnExactFarFollows", fn := fun _ => fun
  | [d1, d2, d3] => { results := [.lit (.bool false)], args := [d1, d2, d3] }
  | _ => none }
def FnExactFarFollowsWrongFalsely : Prop := fnExactFarFollowsRow.holds Try.pinned (OpenSpec.ofChange fnExactFarFollowsWrong)

/-- 'laws.FnLines': WHATEVER THE INPUT: true; the input reads as it did. -/
def fnLinesSpec : ChangeSpec := { name := "fnLines", fn := fun _ => fun
  | [d] => { results := [.lit (.bool true)], args := [d] }
  | _ => none }
def fnLinesRow : OpenClaim := { program := "ytldcchjbaglppaa", sum := "1ce6aa373fd8be85f72aaf9f0d8c766daf2aba56896558f5084a6539b3925bf0", func := "loop.example/g03000/laws.FnLines", spec := "fnLines", unfollowed := true, recurses := true, apart := false }
def FnLinesSaid : Prop := fnLinesRow.holds Try.pinned (OpenSpec.ofChange fnLinesSpec)

/-- ITS FALSE NEIGHBOUR: 'it returns false'. Refute it at one input. -/
def fnLinesWrong : ChangeSpec := { name := "fnLines", fn := fun _ => fun
  | [d] => { results := [.lit (.bool false)], args := [d] }
  | _ => none }
def FnLinesWrongFalsely : Prop := fnLinesRow.holds Try.pinned (OpenSpec.ofChange fnLinesWrong)

/-- 'laws.FnExactBreaksAt': WHATEVER THE INPUT: true; the input reads as it did. -/
def fnExactBreaksAtSpec : ChangeSpec := { name := "fnExactBreaksAt", fn := fun _ => fun
  | [d] => { results := [.lit (.bool true)], args := [d] }
  | _ => none }
def fnExactBreaksAtRow : OpenClaim := { program := "ytldcchjbaglppaa", sum := "1ce6aa373fd8be85f72aaf9f0d8c766daf2aba56896558f5084a6539b3925bf0", func := "loop.example/g03000/laws.FnExactBreaksAt", spec := "fnExactBreaksAt", unfollowed := true, recurses := true, apart := false }
def FnExactBreaksAtSaid : Prop := fnExactBreaksAtRow.holds Try.pinned (OpenSpec.ofChange fnExactBreaksAtSpec)

/-- ITS FALSE NEIGHBOUR: 'it returns false'. Refute it at one input. -/
def fnExactBreaksAtWrong : ChangeSpec := { name := "fnExactBreaksAt", fn := fun _ => fun
  | [d] => { results := [.lit (.bool false)], args := [d] }
  | _ => none }
def FnExactBreaksAtWrongFalsely : Prop := fnExactBreaksAtRow.holds Try.pinned (OpenSpec.ofChange fnExactBreaksAtWrong)

/-- 'laws.FnExactNextOnly': WHATEVER THE INPUT: true; the input reads as it did. -/
def fnExactNextOnlySpec : ChangeSpec := { name := "fnExactNextOnly", fn := fun _ => fun
  | [d1, d2] => { results := [.lit (.bool true)], args := [d1, d2] }
  | _ => none }
def fnExactNextOnlyRow : OpenClaim := { program := "ytldcchjbaglppaa", sum := "1ce6aa373fd8be85f72aaf9f0d8c766daf2aba56896558f5084a6539b3925bf0", func := "loop.example/g03000/laws.FnExactNextOnly", spec := "fnExactNextOnly", unfollowed := true, recurses := true, apart := false }
def FnExactNextOnlySaid : Prop := fnExactNextOnlyRow.holds Try.pinned (OpenSpec.ofChange fnExactNextOnlySpec)

/-- ITS FALSE NEIGHBOUR: 'it returns false'. Refute it at one input. -/
def fnExactNextOnlyWrong : ChangeSpec := { name := "fnExactNextOnly", fn := fun _ => fun
  | [d1, d2] => { results := [.lit (.bool false)], args := [d1, d2] }
  | _ => none }
def FnExactNextOnlyWrongFalsely : Prop := fnExactNextOnlyRow.holds Try.pinned (OpenSpec.ofChange fnExactNextOnlyWrong)

/- THE SECOND FORM. 'bulk': how many values and letters a reading holds, each counted each time it is reached (what is shared counts as often as it is met; a slice's spare places count too). A statement '..UptoSaid' is the law's where the arguments, and the package variables that the reading takes, are together of bulk at most 1048576: NARROWER than '..Said'. Prove '..Said' where nothing that the law and all that it calls make is longer than what came in: it says more and counts as full. Else prove '..UptoSaid'. A law counts once. -/
mutual
def uptoBulk {H : Type} : DataW H → Nat
  | .lit (.string bytes) => bytes.length + 1
  | .lit _ => 1
  | .nil => 1
  | .ptr d => uptoBulk d + 1
  | .slice elems spare => uptoBulkAll elems + uptoBulkAll spare + 1
  | .agg parts => uptoBulkAll parts + 1
  | .iface _ d => uptoBulk d + 1
  | .map entries => uptoBulkEntries entries + 1
  | .held _ => 1
def uptoBulkAll {H : Type} : List (DataW H) → Nat
  | [] => 0
  | d :: r => uptoBulk d + uptoBulkAll r
def uptoBulkEntries {H : Type} : List (Lit × DataW H) → Nat
  | [] => 0
  | x :: r => uptoBulkEntry x + uptoBulkEntries r
def uptoBulkEntry {H : Type} : Lit × DataW H → Nat
  | (.string bytes, d) => bytes.length + uptoBulk d + 1
  | (_, d) => uptoBulk d + 1
 end
def uptoSmall : (H : Type) → List (DataW H) → Bool := fun _ ds => decide (uptoBulkAll ds ≤ 1048576)
def OpenSpec.upto (s : _root_.Go.ChangeSpec) : _root_.Go.OpenSpec := { _root_.Go.OpenSpec.ofChange s with cond := some uptoSmall }

/-- 'laws.FnExactLatestFor', WHERE WHAT IT READS IS OF BULK AT MOST 1048576: true; the input reads as it did. -/
def fnExactLatestForUptoRow : OpenClaim := { program := "ytldcchjbaglppaa", sum := "1ce6aa373fd8be85f72aaf9f0d8c766daf2aba56896558f5084a6539b3925bf0", func := "loop.example/g03000/laws.FnExactLatestFor", spec := "fnExactLatestFor", unfollowed := true, recurses := true, apart := false, narrowed := true }
def FnExactLatestForUptoSaid : Prop := fnExactLatestForUptoRow.holds Try.pinned (OpenSpec.upto fnExactLatestForSpec)

/-- 'laws.FnExactWorksWith', WHERE WHAT IT READS IS OF BULK AT MOST 1048576: true; the input reads as it did. -/
def fnExactWorksWithUptoRow : OpenClaim := { program := "ytldcchjbaglppaa", sum := "1ce6aa373fd8be85f72aaf9f0d8c766daf2aba56896558f5084a6539b3925bf0", func := "loop.example/g03000/laws.FnExactWorksWith", spec := "fnExactWorksWith", unfollowed := true, recurses := true, apart := false, narrowed := true }
def FnExactWorksWithUptoSaid : Prop := fnExactWorksWithUptoRow.holds Try.pinned (OpenSpec.upto fnExactWorksWithSpec)

/-- 'laws.FnExactFarFollows', WHERE WHAT IT READS IS OF BULK AT MOST 1048576: true; the input reads as it did. -/
def fnExactFarFollowsUptoRow : OpenClaim := { program := "ytldcchjbaglppaa", sum := "1ce6aa373fd8be85f72aaf9f0d8c766daf2aba56896558f5084a6539b3925bf0", func := "loop.example/g03000/laws.FnExactFarFollows", spec := "fnExactFarFollows", unfollowed := true, recurses := true, apart := false, narrowed := true }
def FnExactFarFollowsUptoSaid : Prop := fnExactFarFollowsUptoRow.holds Try.pinned (OpenSpec.upto fnExactFarFollowsSpec)

/-- 'laws.FnLines', WHERE WHAT IT READS IS OF BULK AT MOST 1048576: true; the input reads as it did. -/
def fnLinesUptoRow : OpenClaim := { program := "ytldcchjbaglppaa", sum := "1ce6aa373fd8be85f72aaf9f0d8c766daf2aba56896558f5084a6539b3925bf0", func := "loop.example/g03000/laws.FnLines", spec := "fnLines", unfollowed := true, recurses := true, apart := false, narrowed := true }
def FnLinesUptoSaid : Prop := fnLinesUptoRow.holds Try.pinned (OpenSpec.upto fnLinesSpec)

/-- 'laws.FnExactBreaksAt', WHERE WHAT IT READS IS OF BULK AT MOST 1048576: true; the input reads as it did. -/
def fnExactBreaksAtUptoRow : OpenClaim := { program := "ytldcchjbaglppaa", sum := "1ce6aa373fd8be85f72aaf9f0d8c766daf2aba56896558f5084a6539b3925bf0", func := "loop.example/g03000/laws.FnExactBreaksAt", spec := "fnExactBreaksAt", unfollowed := true, recurses := true, apart := false, narrowed := true }
def FnExactBreaksAtUptoSaid : Prop := fnExactBreaksAtUptoRow.holds Try.pinned (OpenSpec.upto fnExactBreaksAtSpec)

/-- 'laws.FnExactNextOnly', WHERE WHAT IT READS IS OF BULK AT MOST 1048576: true; the input reads as it did. -/
def fnExactNextOnlyUptoRow : OpenClaim := { program := "ytldcchjbaglppaa", sum := "1ce6aa373fd8be85f72aaf9f0d8c766daf2aba56896558f5084a6539b3925bf0", func := "loop.example/g03000/laws.FnExactNextOnly", spec := "fnExactNextOnly", unfollowed := true, recurses := true, apart := false, narrowed := true }
def FnExactNextOnlyUptoSaid : Prop := fnExactNextOnlyUptoRow.holds Try.pinned (OpenSpec.upto fnExactNextOnlySpec)

end Rows
end Go.Proofs.Ytldcchjbaglppaa
