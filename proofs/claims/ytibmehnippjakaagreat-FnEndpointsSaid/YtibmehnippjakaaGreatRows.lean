/-
  No cell of these rows narrows 'for every input' (looked for: loops, veiled, ifaces, maps, wideKeys, modest, calm, conditions, laid).
  DERIVED. THE GIVEN ROWS OF THIS SEAT. 2 by the template 'for every input the law returns true; each argument reads behind the call as it read before'; 0 by the template 'total and deterministic' (their statements: YtibmehnippjakaaGreatTotals.lean).
  GIVEN WITH THE SEED: the statements are not yours to turn. If you find one false, say at which input.
  Laid BY PROGRAM, IN A SANDBOX (cutbox-rows.mjs): the forced cells as the released guide's own fill.sh prints them over the translation 1bfa8606f7429126… (all of the seat's roots in one cut). By AI agents, Wed Nov 11 2026. No macro, syntax, notation, axiom, sorry.
-/
import Derived.Test.YtibmehnippjakaaGreatChecked
import GoSem.Claim
import GoSem.ClaimJoined
import GoSem.ClaimMapViews
import Derived.JoinedTies
import Derived.KernelRfl
namespace Go.Proofs.YtibmehnippjakaaGreat
/- THE CELL 'sum', in the pinned program and in every row, IS THE sha256 OF THE DUMP (.gsa) THAT YtibmehnippjakaaGreatProg.lean LOADS. Nothing in Lean hashes anything: it is a label: what it is worth is what the hold of that sum in a sandbox is worth. -/
noncomputable def Tryz.pinned : Pinned := { name := "ytibmehnippjakaagreat", sum := "1bfa8606f74291263766e1c5c500fe0bb4689387e51baed2826a28e5af0ab09e", checked := Tryz.checked }
namespace Rows
def none {H : Type} : Left H := { results := [], args := [] }

/-- 'laws.FnExactEndDial': WHATEVER THE INPUT: true; the input reads as it did. -/
def fnExactEndDialSpec : ChangeSpec := { name := "fnExactEndDial", fn := fun _ => fun
  | [d1, d2, d3, d4, d5] => { results := [.lit (.bool true)], args := [d1, d2, d3, d4, d5] }
  | _ => none }
def fnExactEndDialRow : OpenClaim := { program := "ytibmehnippjakaagreat", sum := "1bfa8606f74291263766e1c5c500fe0bb4689387e51baed2826a28e5af0ab09e", func := "loop.example/g03000/laws.FnExactEndDial", spec := "fnExactEndDial", inPlace := ["slices.overlaps[loop.example/g03000/impl.Ext]"], unfollowed := true, recurses := true, apart := false }
def FnExactEndDialSaid : Prop := fnExactEndDialRow.holds Tryz.pinned (OpenSpec.ofChange fnExactEndDialSpec)

/-- ITS FALSE NEIGHBOUR: 'it returns false'. Refute it at one input. -/
def fnExactEndDialWrong : ChangeSpec := { name := "fnExactEndDial", fn := fun _ => fun
  | [d1, d2, d3, d4, d5] => { results := [.lit (.bool false)], args := [d1, d2, d3, d4, d5] }
  | _ => none }
def FnExactEndDialWrongFalsely : Prop := fnExactEndDialRow.holds Tryz.pinned (OpenSpec.ofChange fnExactEndDialWrong)

/-- 'laws.FnEndpoints': WHATEVER THE INPUT: true; the input reads as it did. -/
def fnEndpointsSpec : ChangeSpec := { name := "fnEndpoints", fn := fun _ => fun
  | [d] => { results := [.lit (.bool true)], args := [d] }
  | _ => none }
def fnEndpointsRow : OpenClaim := { program := "ytibmehnippjakaagreat", sum := "1bfa8606f74291263766e1c5c500fe0bb4689387e51baed2826a28e5af0ab09e", func := "loop.example/g03000/laws.FnEndpoints", spec := "fnEndpoints", inPlace := ["slices.overlaps[loop.example/g03000/impl.Ext]"], unfollowed := true, recurses := true, apart := false }
def FnEndpointsSaid : Prop := fnEndpointsRow.holds Tryz.pinned (OpenSpec.ofChange fnEndpointsSpec)

/-- ITS FALSE NEIGHBOUR: 'it returns false'. Refute it at one input. -/
def fnEndpointsWrong : ChangeSpec := { name := "fnEndpoints", fn := fun _ => fun
  | [d] => { results := [.lit (.bool false)], args := [d] }
  | _ => none }
def FnEndpointsWrongFalsely : Prop := fnEndpointsRow.holds Tryz.pinned (OpenSpec.ofChange fnEndpointsWrong)

/- THE SECOND FORM. 'bulk': how many values and letters a reading holds, each counted each time it is reached (what is shared counts as often as it is met; a slice's spare places count too). A statement '..UptoSaid' is the law's where the arguments, and the package variables that the reading takes, are together of bulk at most 1048576: NARROWER than '..Said'. Prove '..Said' where nothing that the law and all that it calls make is longer than what came in: it says more and counts as full. Else prove '..UptoSaid'. A law counts once. -/
mutual
def uptoBulk {H : Type} : DataW H → Nat
  | .lit (.string bytes) => bytes.length + 1
  | .lit _ => 1
  | .nil => 1
  | .ptr d => uptoBulk d + 1
  | .slice elems spare => uptoBulkAll elems + uptoBulkAll spare + 1
  | .agg parts => uptoBulkAll parts + 1
  | .iface _ d => uptoBulk d + 1
  | .map entries => uptoBulkEntries entries + 1
  | .held _ => 1
def uptoBulkAll {H : Type} : List (DataW H) → Nat
  | [] => 0
  | d :: r => uptoBulk d + uptoBulkAll r
def uptoBulkEntries {H : Type} : List (Lit × DataW H) → Nat
  | [] => 0
  | x :: r => uptoBulkEntry x + uptoBulkEntries r
def uptoBulkEntry {H : Type} : Lit × DataW H → Nat
  | (.string bytes, d) => bytes.length + uptoBulk d + 1
  | (_, d) => uptoBulk d + 1
 end
def uptoSmall : (H : Type) → List (DataW H) → Bool := fun _ ds => decide (uptoBulkAll ds ≤ 1048576)
def OpenSpec.upto (s : _root_.Go.ChangeSpec) : _root_.Go.OpenSpec := { _root_.Go.OpenSpec.ofChange s with cond := some uptoSmall }

/-- 'laws.FnExactEndDial', WHERE WHAT IT READS IS OF BULK AT MOST 1048576: true; the input reads as it did. -/
def fnExactEndDialUptoRow : OpenClaim := { program := "ytibmehnippjakaagreat", sum := "1bfa8606f74291263766e1c5c500fe0bb4689387e51baed2826a28e5af0ab09e", func := "loop.example/g03000/laws.FnExactEndDial", spec := "fnExactEndDial", inPlace := ["slices.overlaps[loop.example/g03000/impl.Ext]"], unfollowed := true, recurses := true, apart := false, narrowed := true }
def FnExactEndDialUptoSaid : Prop := fnExactEndDialUptoRow.holds Tryz.pinned (OpenSpec.upto fnExactEndDialSpec)

/-- 'laws.FnEndpoints', WHERE WHAT IT READS IS OF BULK AT MOST 1048576: true; the input reads as it did. -/
def fnEndpointsUptoRow : OpenClaim := { program := "ytibmehnippjakaagreat", sum := "1bfa8606f74291263766e1c5c500fe0bb4689387e51baed2826a28e5af0ab09e", func := "loop.example/g03000/laws.FnEndpoints", spec := "fnEndpoints", inPlace := ["slices.overlaps[loop.example/g03000/impl.Ext]"], unfollowed := true, recurses := true, apart := false, narrowed := true }
def FnEndpointsUptoSaid : Prop := fnEndpointsUptoRow.holds Tryz.pinned (OpenSpec.upto fnEndpointsSpec)

end Rows
end Go.Proofs.YtibmehnippjakaaGreat
