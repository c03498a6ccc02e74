/-
  No cell of these rows narrows 'for every input' (looked for: loops, veiled, ifaces, maps, wideKeys, modest, calm, conditions, laid).
  DERIVED. THE GIVEN ROWS OF THIS SEAT. 12 by the template 'for every input the law returns true; each argument reads behind the call as it read before'; 0 by the template 'total and deterministic' (their statements: YtdoefkloanpliaaTotals.lean).
  GIVEN WITH THE SEED: the statements are not yours to turn. If you find one false, say at which input.
  Laid BY PROGRAM, IN A SANDBOX (cutbox-rows.mjs): the forced cells as the released guide's own fill.sh prints them over the translation 52b7794723835ffe… (all of the seat's roots in one cut). By AI agents, Wed Nov 11 2026. No macro, syntax, notation, axiom, sorry.
-/
import Derived.Test.YtdoefkloanpliaaChecked
import GoSem.Claim
import GoSem.ClaimJoined
import GoSem.ClaimMapViews
import Derived.JoinedTies
import Derived.KernelRfl
namespace Go.Proofs.Ytdoefkloanpliaa
/- THE CELL 'sum', in the pinned program and in every row, IS THE sha256 OF THE DUMP (.gsa) THAT YtdoefkloanpliaaProg.lean LOADS. Nothing in Lean hashes anything: it is a label: what it is worth is what the hold of that sum in a sandbox is worth. -/
noncomputable def Try.pinned : Pinned := { name := "ytdoefkloanpliaa", sum := "52b7794723835ffe5f76fd627bc7d7c3dcdc14d8cbf1d52dc17554f823420096", checked := Try.checked }
namespace Rows
def none {H : Type} : Left H := { results := [], args := [] }

/-- 'laws.FnExactUseOf': WHATEVER THE INPUT: true; the input reads as it did. -/
def fnExactUseOfSpec : ChangeSpec := { name := "fnExactUseOf", fn := fun _ => fun
  | [d1, d2, d3] => { results := [.lit (.bool true)], args := [d1, d2, d3] }
  | _ => none }
def fnExactUseOfRow : OpenClaim := { program := "ytdoefkloanpliaa", sum := "52b7794723835ffe5f76fd627bc7d7c3dcdc14d8cbf1d52dc17554f823420096", func := "loop.example/g03000/laws.FnExactUseOf", spec := "fnExactUseOf", apart := false }
def FnExactUseOfSaid : Prop := fnExactUseOfRow.holds Try.pinned (OpenSpec.ofChange fnExactUseOfSpec)

/-- ITS FALSE NEIGHBOUR: 'it returns false'. Refute it at one input. -/
def fnExactUseOfWrong : ChangeSpec := { name := "fnExactUseOf", fn := fun _ => fun
  | [d1, d2, d3] => { results := [.lit (.bool false)], args := [d1, d2, d3] }
  | _ => none }
def FnExactUseOfWrongFalsely : Prop := fnExactUseOfRow.holds Try.pinned (OpenSpec.ofChange fnExactUseOfWrong)

/-- 'laws.FnExactAllReach': WHATEVER THE INPUT: true; the input reads as it did. -/
def fnExactAllReachSpec : ChangeSpec := { name := "fnExactAllReach", fn := fun _ => fun
  | [d1, d2] => { results := [.lit (.bool true)], args := [d1, d2] }
  | _ => none }
def fnExactAllReachRow : OpenClaim := { program := "ytdoefkloanpliaa", sum := "52b7794723835ffe5f76fd627bc7d7c3dcdc14d8cbf1d52dc17554f823420096", func := "loop.example/g03000/laws.FnExactAllReach", spec := "fnExactAllReach", unfollowed := true, recurses := true, apart := false }
def FnExactAllReachSaid : Prop := fnExactAllReachRow.holds Try.pinned (OpenSpec.ofChange fnExactAllReachSpec)

/-- ITS FALSE NEIGHBOUR: 'it returns false'. Refute it at one input. -/
def fnExactAllReachWrong : ChangeSpec := { name := "fnExactAllReach", fn := fun _ => fun
  | [d1, d2] => { results := [.lit (.bool false)], args := [d1, d2] }
  | _ => none }
def FnExactAllReachWrongFalsely : Prop := fnExactAllReachRow.holds Try.pinned (OpenSpec.ofChange fnExactAllReachWrong)

/-- 'laws.FnExactStranded': WHATEVER THE INPUT: true; the input reads as it did. -/
def fnExactStrandedSpec : ChangeSpec := { name := "fnExactStranded", fn := fun _ => fun
  | [d1, d2, d3] => { results := [.lit (.bool true)], args := [d1, d2, d3] }
  | _ => none }
def fnExactStrandedRow : OpenClaim := { program := "ytdoefkloanpliaa", sum := "52b7794723835ffe5f76fd627bc7d7c3dcdc14d8cbf1d52dc17554f823420096", func := "loop.example/g03000/laws.FnExactStranded", spec := "fnExactStranded", apart := false }
def FnExactStrandedSaid : Prop := fnExactStrandedRow.holds Try.pinned (OpenSpec.ofChange fnExactStrandedSpec)

/-- ITS FALSE NEIGHBOUR: 'it returns false'. Refute it at one input. -/
def fnExactStrandedWrong : ChangeSpec := { name := "fnExactStranded", fn := fun _ => fun
  | [d1, d2, d3] => { results := [.lit (.bool false)], args := [d1, d2, d3] }
  | _ => none }
def FnExactStrandedWrongFalsely : Prop := fnExactStrandedRow.holds Try.pinned (OpenSpec.ofChange fnExactStrandedWrong)

/-- 'laws.FnExactMayRetire': WHATEVER THE INPUT: true; the input reads as it did. -/
def fnExactMayRetireSpec : ChangeSpec := { name := "fnExactMayRetire", fn := fun _ => fun
  | [d1, d2, d3, d4] => { results := [.lit (.bool true)], args := [d1, d2, d3, d4] }
  | _ => none }
def fnExactMayRetireRow : OpenClaim := { program := "ytdoefkloanpliaa", sum := "52b7794723835ffe5f76fd627bc7d7c3dcdc14d8cbf1d52dc17554f823420096", func := "loop.example/g03000/laws.FnExactMayRetire", spec := "fnExactMayRetire", apart := false }
def FnExactMayRetireSaid : Prop := fnExactMayRetireRow.holds Try.pinned (OpenSpec.ofChange fnExactMayRetireSpec)

/-- ITS FALSE NEIGHBOUR: 'it returns false'. Refute it at one input. -/
def fnExactMayRetireWrong : ChangeSpec := { name := "fnExactMayRetire", fn := fun _ => fun
  | [d1, d2, d3, d4] => { results := [.lit (.bool false)], args := [d1, d2, d3, d4] }
  | _ => none }
def FnExactMayRetireWrongFalsely : Prop := fnExactMayRetireRow.holds Try.pinned (OpenSpec.ofChange fnExactMayRetireWrong)

/-- 'laws.FnExactRetireVersion': WHATEVER THE INPUT: true; the input reads as it did. -/
def fnExactRetireVersionSpec : ChangeSpec := { name := "fnExactRetireVersion", fn := fun _ => fun
  | [d1, d2, d3, d4] => { results := [.lit (.bool true)], args := [d1, d2, d3, d4] }
  | _ => none }
def fnExactRetireVersionRow : OpenClaim := { program := "ytdoefkloanpliaa", sum := "52b7794723835ffe5f76fd627bc7d7c3dcdc14d8cbf1d52dc17554f823420096", func := "loop.example/g03000/laws.FnExactRetireVersion", spec := "fnExactRetireVersion", apart := false }
def FnExactRetireVersionSaid : Prop := fnExactRetireVersionRow.holds Try.pinned (OpenSpec.ofChange fnExactRetireVersionSpec)

/-- ITS FALSE NEIGHBOUR: 'it returns false'. Refute it at one input. -/
def fnExactRetireVersionWrong : ChangeSpec := { name := "fnExactRetireVersion", fn := fun _ => fun
  | [d1, d2, d3, d4] => { results := [.lit (.bool false)], args := [d1, d2, d3, d4] }
  | _ => none }
def FnExactRetireVersionWrongFalsely : Prop := fnExactRetireVersionRow.holds Try.pinned (OpenSpec.ofChange fnExactRetireVersionWrong)

/-- 'laws.FnRetired': WHATEVER THE INPUT: true; the input reads as it did. -/
def fnRetiredSpec : ChangeSpec := { name := "fnRetired", fn := fun _ => fun
  | [d] => { results := [.lit (.bool true)], args := [d] }
  | _ => none }
def fnRetiredRow : OpenClaim := { program := "ytdoefkloanpliaa", sum := "52b7794723835ffe5f76fd627bc7d7c3dcdc14d8cbf1d52dc17554f823420096", func := "loop.example/g03000/laws.FnRetired", spec := "fnRetired", unfollowed := true, recurses := true, apart := false }
def FnRetiredSaid : Prop := fnRetiredRow.holds Try.pinned (OpenSpec.ofChange fnRetiredSpec)

/-- ITS FALSE NEIGHBOUR: 'it returns false'. Refute it at one input. -/
def fnRetiredWrong : ChangeSpec := { name := "fnRetired", fn := fun _ => fun
  | [d] => { results := [.lit (.bool false)], args := [d] }
  | _ => none }
def FnRetiredWrongFalsely : Prop := fnRetiredRow.holds Try.pinned (OpenSpec.ofChange fnRetiredWrong)

/-- 'laws.FnExactMaskedBy': WHATEVER THE INPUT: true; the input reads as it did. -/
def fnExactMaskedBySpec : ChangeSpec := { name := "fnExactMaskedBy", fn := fun _ => fun
  | [d1, d2] => { results := [.lit (.bool true)], args := [d1, d2] }
  | _ => none }
def fnExactMaskedByRow : OpenClaim := { program := "ytdoefkloanpliaa", sum := "52b7794723835ffe5f76fd627bc7d7c3dcdc14d8cbf1d52dc17554f823420096", func := "loop.example/g03000/laws.FnExactMaskedBy", spec := "fnExactMaskedBy", apart := false }
def FnExactMaskedBySaid : Prop := fnExactMaskedByRow.holds Try.pinned (OpenSpec.ofChange fnExactMaskedBySpec)

/-- ITS FALSE NEIGHBOUR: 'it returns false'. Refute it at one input. -/
def fnExactMaskedByWrong : ChangeSpec := { name := "fnExactMaskedBy", fn := fun _ => fun
  | [d1, d2] => { results := [.lit (.bool false)], args := [d1, d2] }
  | _ => none }
def FnExactMaskedByWrongFalsely : Prop := fnExactMaskedByRow.holds Try.pinned (OpenSpec.ofChange fnExactMaskedByWrong)

/-- 'laws.FnExactEqualEndpoints': WHATEVER THE INPUT: true; the input reads as it did. -/
def fnExactEqualEndpointsSpec : ChangeSpec := { name := "fnExactEqualEndpoints", fn := fun _ => fun
  | [d1, d2] => { results := [.lit (.bool true)], args := [d1, d2] }
  | _ => none }
def fnExactEqualEndpointsRow : OpenClaim := { program := "ytdoefkloanpliaa", sum := "52b7794723835ffe5f76fd627bc7d7c3dcdc14d8cbf1d52dc17554f823420096", func := "loop.example/g03000/laws.FnExactEqualEndpoints", spec := "fnExactEqualEndpoints", unfollowed := true, recurses := true, apart := false }
def FnExactEqualEndpointsSaid : Prop := fnExactEqualEndpointsRow.holds Try.pinned (OpenSpec.ofChange fnExactEqualEndpointsSpec)

/-- ITS FALSE NEIGHBOUR: 'it returns false'. Refute it at one input. -/
def fnExactEqualEndpointsWrong : ChangeSpec := { name := "fnExactEqualEndpoints", fn := fun _ => fun
  | [d1, d2] => { results := [.lit (.bool false)], args := [d1, d2] }
  | _ => none }
def FnExactEqualEndpointsWrongFalsely : Prop := fnExactEqualEndpointsRow.holds Try.pinned (OpenSpec.ofChange fnExactEqualEndpointsWrong)

/-- 'laws.FnExactIsEndpoint': WHATEVER THE INPUT: true; the input reads as it did. -/
def fnExactIsEndpointSpec : ChangeSpec := { name := "fnExactIsEndpoint", fn := fun _ => fun
  | [d] => { results := [.lit (.bool true)], args := [d] }
  | _ => none }
def fnExactIsEndpointRow : OpenClaim := { program := "ytdoefkloanpliaa", sum := "52b7794723835ffe5f76fd627bc7d7c3dcdc14d8cbf1d52dc17554f823420096", func := "loop.example/g03000/laws.FnExactIsEndpoint", spec := "fnExactIsEndpoint", unfollowed := true, recurses := true, apart := false }
def FnExactIsEndpointSaid : Prop := fnExactIsEndpointRow.holds Try.pinned (OpenSpec.ofChange fnExactIsEndpointSpec)

/-- ITS FALSE NEIGHBOUR: 'it returns false'. Refute it at one input. -/
def fnExactIsEndpointWrong : ChangeSpec := { name := "fnExactIsEndpoint", fn := fun _ => fun
  | [d] => { results := [.lit (.bool false)], args := [d] }
  | _ => none }
def FnExactIsEndpointWrongFalsely : Prop := fnExactIsEndpointRow.holds Try.pinned (OpenSpec.ofChange fnExactIsEndpointWrong)

/-- 'laws.FnExactRefusesGrease': WHATEVER THE INPUT: true; the input reads as it did. -/
def fnExactRefusesGreaseSpec : ChangeSpec := { name := "fnExactRefusesGrease", fn := fun _ => fun
  | [d] => { results := [.lit (.bool true)], args := [d] }
  | _ => none }
def fnExactRefusesGreaseRow : OpenClaim := { program := "ytdoefkloanpliaa", sum := "52b7794723835ffe5f76fd627bc7d7c3dcdc14d8cbf1d52dc17554f823420096", func := "loop.example/g03000/laws.FnExactRefusesGrease", spec := "fnExactRefusesGrease", unfollowed := true, recurses := true, apart := false }
def FnExactRefusesGreaseSaid : Prop := fnExactRefusesGreaseRow.holds Try.pinned (OpenSpec.ofChange fnExactRefusesGreaseSpec)

/-- ITS FALSE NEIGHBOUR: 'it returns false'. Refute it at one input. -/
def fnExactRefusesGreaseWrong : ChangeSpec := { name := "fnExactRefusesGrease", fn := fun _ => fun
  | [d] => { results := [.lit (.bool false)], args := [d] }
  | _ => none }
def FnExactRefusesGreaseWrongFalsely : Prop := fnExactRefusesGreaseRow.holds Try.pinned (OpenSpec.ofChange fnExactRefusesGreaseWrong)

/-- 'laws.FnExactHardenedBoxes': WHATEVER THE INPUT: true; the input reads as it did. -/
def fnExactHardenedBoxesSpec : ChangeSpec := { name := "fnExactHardenedBoxes", fn := fun _ => fun
  | [d] => { results := [.lit (.bool true)], args := [d] }
  | _ => none }
def fnExactHardenedBoxesRow : OpenClaim := { program := "ytdoefkloanpliaa", sum := "52b7794723835ffe5f76fd627bc7d7c3dcdc14d8cbf1d52dc17554f823420096", func := "loop.example/g03000/laws.FnExactHardenedBoxes", spec := "fnExactHardenedBoxes", unfollowed := true, recurses := true, apart := false }
def FnExactHardenedBoxesSaid : Prop := fnExactHardenedBoxesRow.holds Try.pinned (OpenSpec.ofChange fnExactHardenedBoxesSpec)

/-- ITS FALSE NEIGHBOUR: 'it returns false'. Refute it at one input. -/
def fnExactHardenedBoxesWrong : ChangeSpec := { name := "fnExactHardenedBoxes", fn := fun _ => fun
  | [d] => { results := [.lit (.bool false)], args := [d] }
  | _ => none }
def FnExactHardenedBoxesWrongFalsely : Prop := fnExactHardenedBoxesRow.holds Try.pinned (OpenSpec.ofChange fnExactHardenedBoxesWrong)

/-- 'laws.FnHardened': WHATEVER THE INPUT: true; the input reads as it did. -/
def fnHardenedSpec : ChangeSpec := { name := "fnHardened", fn := fun _ => fun
  | [d] => { results := [.lit (.bool true)], args := [d] }
  | _ => none }
def fnHardenedRow : OpenClaim := { program := "ytdoefkloanpliaa", sum := "52b7794723835ffe5f76fd627bc7d7c3dcdc14d8cbf1d52dc17554f823420096", func := "loop.example/g03000/laws.FnHardened", spec := "fnHardened", unfollowed := true, recurses := true, apart := false }
def FnHardenedSaid : Prop := fnHardenedRow.holds Try.pinned (OpenSpec.ofChange fnHardenedSpec)

/-- ITS FALSE NEIGHBOUR: 'it returns false'. Refute it at one input. -/
def fnHardenedWrong : ChangeSpec := { name := "fnHardened", fn := fun _ => fun
  | [d] => { results := [.lit (.bool false)], args := [d] }
  | _ => none }
def FnHardenedWrongFalsely : Prop := fnHardenedRow.holds Try.pinned (OpenSpec.ofChange fnHardenedWrong)

/- THE SECOND FORM. 'bulk': how many values and letters a reading holds, each counted each time it is reached (what is shared counts as often as it is met; a slice's spare places count too). A statement '..UptoSaid' is the law's where the arguments, and the package variables that the reading takes, are together of bulk at most 1048576: NARROWER than '..Said'. Prove '..Said' where nothing that the law and all that it calls make is longer than what came in: it says more and counts as full. Else prove '..UptoSaid'. A law counts once. -/
mutual
def uptoBulk {H : Type} : DataW H → Nat
  | .lit (.string bytes) => bytes.length + 1
  | .lit _ => 1
  | .nil => 1
  | .ptr d => uptoBulk d + 1
  | .slice elems spare => uptoBulkAll elems + uptoBulkAll spare + 1
  | .agg parts => uptoBulkAll parts + 1
  | .iface _ d => uptoBulk d + 1
  | .map entries => uptoBulkEntries entries + 1
  | .held _ => 1
def uptoBulkAll {H : Type} : List (DataW H) → Nat
  | [] => 0
  | d :: r => uptoBulk d + uptoBulkAll r
def uptoBulkEntries {H : Type} : List (Lit × DataW H) → Nat
  | [] => 0
  | x :: r => uptoBulkEntry x + uptoBulkEntries r
def uptoBulkEntry {H : Type} : Lit × DataW H → Nat
  | (.string bytes, d) => bytes.length + uptoBulk d + 1
  | (_, d) => uptoBulk d + 1
 end
def uptoSmall : (H : Type) → List (DataW H) → Bool := fun _ ds => decide (uptoBulkAll ds ≤ 1048576)
def OpenSpec.upto (s : _root_.Go.ChangeSpec) : _root_.Go.OpenSpec := { _root_.Go.OpenSpec.ofChange s with cond := some uptoSmall }

/-- 'laws.FnExactUseOf', WHERE WHAT IT READS IS OF BULK AT MOST 1048576: true; the input reads as it did. -/
def fnExactUseOfUptoRow : OpenClaim := { program := "ytdoefkloanpliaa", sum := "52b7794723835ffe5f76fd627bc7d7c3dcdc14d8cbf1d52dc17554f823420096", func := "loop.example/g03000/laws.FnExactUseOf", spec := "fnExactUseOf", apart := false, narrowed := true }
def FnExactUseOfUptoSaid : Prop := fnExactUseOfUptoRow.holds Try.pinned (OpenSpec.upto fnExactUseOfSpec)

/-- 'laws.FnExactAllReach', WHERE WHAT IT READS IS OF BULK AT MOST 1048576: true; the input reads as it did. -/
def fnExactAllReachUptoRow : OpenClaim := { program := "ytdoefkloanpliaa", sum := "52b7794723835ffe5f76fd627bc7d7c3dcdc14d8cbf1d52dc17554f823420096", func := "loop.example/g03000/laws.FnExactAllReach", spec := "fnExactAllReach", unfollowed := true, recurses := true, apart := false, narrowed := true }
def FnExactAllReachUptoSaid : Prop := fnExactAllReachUptoRow.holds Try.pinned (OpenSpec.upto fnExactAllReachSpec)

/-- 'laws.FnExactStranded', WHERE WHAT IT READS IS OF BULK AT MOST 1048576: true; the input reads as it did. -/
def fnExactStrandedUptoRow : OpenClaim := { program := "ytdoefkloanpliaa", sum := "52b7794723835ffe5f76fd627bc7d7c3dcdc14d8cbf1d52dc17554f823420096", func := "loop.example/g03000/laws.FnExactStranded", spec := "fnExactStranded", apart := false, narrowed := true }
def FnExactStrandedUptoSaid : Prop := fnExactStrandedUptoRow.holds Try.pinned (OpenSpec.upto fnExactStrandedSpec)

/-- 'laws.FnExactMayRetire', WHERE WHAT IT READS IS OF BULK AT MOST 1048576: true; the input reads as it did. -/
def fnExactMayRetireUptoRow : OpenClaim := { program := "ytdoefkloanpliaa", sum := "52b7794723835ffe5f76fd627bc7d7c3dcdc14d8cbf1d52dc17554f823420096", func := "loop.example/g03000/laws.FnExactMayRetire", spec := "fnExactMayRetire", apart := false, narrowed := true }
def FnExactMayRetireUptoSaid : Prop := fnExactMayRetireUptoRow.holds Try.pinned (OpenSpec.upto fnExactMayRetireSpec)

/-- 'laws.FnExactRetireVersion', WHERE WHAT IT READS IS OF BULK AT MOST 1048576: true; the input reads as it did. -/
def fnExactRetireVersionUptoRow : OpenClaim := { program := "ytdoefkloanpliaa", sum := "52b7794723835ffe5f76fd627bc7d7c3dcdc14d8cbf1d52dc17554f823420096", func := "loop.example/g03000/laws.FnExactRetireVersion", spec := "fnExactRetireVersion", apart := false, narrowed := true }
def FnExactRetireVersionUptoSaid : Prop := fnExactRetireVersionUptoRow.holds Try.pinned (OpenSpec.upto fnExactRetireVersionSpec)

/-- 'laws.FnRetired', WHERE WHAT IT READS IS OF BULK AT MOST 1048576: true; the input reads as it did. -/
def fnRetiredUptoRow : OpenClaim := { program := "ytdoefkloanpliaa", sum := "52b7794723835ffe5f76fd627bc7d7c3dcdc14d8cbf1d52dc17554f823420096", func := "loop.example/g03000/laws.FnRetired", spec := "fnRetired", unfollowed := true, recurses := true, apart := false, narrowed := true }
def FnRetiredUptoSaid : Prop := fnRetiredUptoRow.holds Try.pinned (OpenSpec.upto fnRetiredSpec)

/-- 'laws.FnExactMaskedBy', WHERE WHAT IT READS IS OF BULK AT MOST 1048576: true; the input reads as it did. -/
def fnExactMaskedByUptoRow : OpenClaim := { program := "ytdoefkloanpliaa", sum := "52b7794723835ffe5f76fd627bc7d7c3dcdc14d8cbf1d52dc17554f823420096", func := "loop.example/g03000/laws.FnExactMaskedBy", spec := "fnExactMaskedBy", apart := false, narrowed := true }
def FnExactMaskedByUptoSaid : Prop := fnExactMaskedByUptoRow.holds Try.pinned (OpenSpec.upto fnExactMaskedBySpec)

/-- 'laws.FnExactEqualEndpoints', WHERE WHAT IT READS IS OF BULK AT MOST 1048576: true; the input reads as it did. -/
def fnExactEqualEndpointsUptoRow : OpenClaim := { program := "ytdoefkloanpliaa", sum := "52b7794723835ffe5f76fd627bc7d7c3dcdc14d8cbf1d52dc17554f823420096", func := "loop.example/g03000/laws.FnExactEqualEndpoints", spec := "fnExactEqualEndpoints", unfollowed := true, recurses := true, apart := false, narrowed := true }
def FnExactEqualEndpointsUptoSaid : Prop := fnExactEqualEndpointsUptoRow.holds Try.pinned (OpenSpec.upto fnExactEqualEndpointsSpec)

/-- 'laws.FnExactIsEndpoint', WHERE WHAT IT READS IS OF BULK AT MOST 1048576: true; the input reads as it did. -/
def fnExactIsEndpointUptoRow : OpenClaim := { program := "ytdoefkloanpliaa", sum := "52b7794723835ffe5f76fd627bc7d7c3dcdc14d8cbf1d52dc17554f823420096", func := "loop.example/g03000/laws.FnExactIsEndpoint", spec := "fnExactIsEndpoint", unfollowed := true, recurses := true, apart := false, narrowed := true }
def FnExactIsEndpointUptoSaid : Prop := fnExactIsEndpointUptoRow.holds Try.pinned (OpenSpec.upto fnExactIsEndpointSpec)

/-- 'laws.FnExactRefusesGrease', WHERE WHAT IT READS IS OF BULK AT MOST 1048576: true; the input reads as it did. -/
def fnExactRefusesGreaseUptoRow : OpenClaim := { program := "ytdoefkloanpliaa", sum := "52b7794723835ffe5f76fd627bc7d7c3dcdc14d8cbf1d52dc17554f823420096", func := "loop.example/g03000/laws.FnExactRefusesGrease", spec := "fnExactRefusesGrease", unfollowed := true, recurses := true, apart := false, narrowed := true }
def FnExactRefusesGreaseUptoSaid : Prop := fnExactRefusesGreaseUptoRow.holds Try.pinned (OpenSpec.upto fnExactRefusesGreaseSpec)

/-- 'laws.FnExactHardenedBoxes', WHERE WHAT IT READS IS OF BULK AT MOST 1048576: true; the input reads as it did. -/
def fnExactHardenedBoxesUptoRow : OpenClaim := { program := "ytdoefkloanpliaa", sum := "52b7794723835ffe5f76fd627bc7d7c3dcdc14d8cbf1d52dc17554f823420096", func := "loop.example/g03000/laws.FnExactHardenedBoxes", spec := "fnExactHardenedBoxes", unfollowed := true, recurses := true, apart := false, narrowed := true }
def FnExactHardenedBoxesUptoSaid : Prop := fnExactHardenedBoxesUptoRow.holds Try.pinned (OpenSpec.upto fnExactHardenedBoxesSpec)

/-- 'laws.FnHardened', WHERE WHAT IT READS IS OF BULK AT MOST 1048576: true; the input reads as it did. -/
def fnHardenedUptoRow : OpenClaim := { program := "ytdoefkloanpliaa", sum := "52b7794723835ffe5f76fd627bc7d7c3dcdc14d8cbf1d52dc17554f823420096", func := "loop.example/g03000/laws.FnHardened", spec := "fnHardened", unfollowed := true, recurses := true, apart := false, narrowed := true }
def FnHardenedUptoSaid : Prop := fnHardenedUptoRow.holds Try.pinned (OpenSpec.upto fnHardenedSpec)

end Rows
end Go.Proofs.Ytdoefkloanpliaa
