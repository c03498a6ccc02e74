/-
  No cell of these rows narrows 'for every input' (looked for: loops, veiled, ifaces, maps, wideKeys, modest, calm, conditions, laid).
  DERIVED. THE GIVEN ROWS OF THIS SEAT. 4 by the template 'for every input the law returns true; each argument reads behind the call as it read before'; 0 by the template 'total and deterministic' (their statements: YtpoandlbmaljhaaTotals.lean).
  GIVEN WITH THE SEED: the statements are not yours to turn. If you find one false, say at which input.
  Laid BY PROGRAM, IN A SANDBOX (cutbox-rows.mjs): the forced cells as the released guide's own fill.sh prints them over the translation 7c49a03226816c2f… (all of the seat's roots in one cut). By AI agents, Wed Nov 11 2026. No macro, syntax, notation, axiom, sorry.
-/
import Derived.Test.YtpoandlbmaljhaaChecked
import GoSem.Claim
import GoSem.ClaimJoined
import GoSem.ClaimMapViews
import Derived.JoinedTies
import Derived.KernelRfl
namespace Go.Proofs.Ytpoandlbmaljhaa
/- THE CELL 'sum', in the pinned program and in every row, IS THE sha256 OF THE DUMP (.gsa) THAT YtpoandlbmaljhaaProg.lean LOADS. Nothing in Lean hashes anything: it is a label: what it is worth is what the hold of that sum in a sandbox is worth. -/
noncomputable def Try.pinned : Pinned := { name := "ytpoandlbmaljhaa", sum := "7c49a03226816c2f611b75a27f3e34cdf8d62c424cda7789fc775ba96b116bba", checked := Try.checked }
namespace Rows
def none {H : Type} : Left H := { results := [], args := [] }

/-- 'laws.FnExactHardnessOf': WHATEVER THE INPUT: true; the input reads as it did. -/
def fnExactHardnessOfSpec : ChangeSpec := { name := "fnExactHardnessOf", fn := fun _ => fun
  | [d1, d2] => { results := [.lit (.bool true)], args := [d1, d2] }
  | _ => none }
def fnExactHardnessOfRow : OpenClaim := { program := "ytpoandlbmaljhaa", sum := "7c49a03226816c2f611b75a27f3e34cdf8d62c424cda7789fc775ba96b116bba", func := "loop.example/g03000/laws.FnExactHardnessOf", spec := "fnExactHardnessOf", unfollowed := true, recurses := true, apart := false }
def FnExactHardnessOfSaid : Prop := fnExactHardnessOfRow.holds Try.pinned (OpenSpec.ofChange fnExactHardnessOfSpec)

/-- ITS FALSE NEIGHBOUR: 'it returns false'. Refute it at one input. -/
def fnExactHardnessOfWrong : ChangeSpec := { name := "fnExactHardnessOf", fn := fun _ => fun
  | [d1, d2] => { results := [.lit (.bool false)], args := [d1, d2] }
  | _ => none }
def FnExactHardnessOfWrongFalsely : Prop := fnExactHardnessOfRow.holds Try.pinned (OpenSpec.ofChange fnExactHardnessOfWrong)

/-- 'laws.FnExactGreaseLost': WHATEVER THE INPUT: true; the input reads as it did. -/
def fnExactGreaseLostSpec : ChangeSpec := { name := "fnExactGreaseLost", fn := fun _ => fun
  | [d1, d2, d3] => { results := [.lit (.bool true)], args := [d1, d2, d3] }
  | _ => none }
def fnExactGreaseLostRow : OpenClaim := { program := "ytpoandlbmaljhaa", sum := "7c49a03226816c2f611b75a27f3e34cdf8d62c424cda7789fc775ba96b116bba", func := "loop.example/g03000/laws.FnExactGreaseLost", spec := "fnExactGreaseLost", unfollowed := true, recurses := true, apart := false }
def FnExactGreaseLostSaid : Prop := fnExactGreaseLostRow.holds Try.pinned (OpenSpec.ofChange fnExactGreaseLostSpec)

/-- ITS FALSE NEIGHBOUR: 'it returns false'. Refute it at one input. -/
def fnExactGreaseLostWrong : ChangeSpec := { name := "fnExactGreaseLost", fn := fun _ => fun
  | [d1, d2, d3] => { results := [.lit (.bool false)], args := [d1, d2, d3] }
  | _ => none }
def FnExactGreaseLostWrongFalsely : Prop := fnExactGreaseLostRow.holds Try.pinned (OpenSpec.ofChange fnExactGreaseLostWrong)

/-- 'laws.FnExactBestFor': WHATEVER THE INPUT: true; the input reads as it did. -/
def fnExactBestForSpec : ChangeSpec := { name := "fnExactBestFor", fn := fun _ => fun
  | [d1, d2] => { results := [.lit (.bool true)], args := [d1, d2] }
  | _ => none }
def fnExactBestForRow : OpenClaim := { program := "ytpoandlbmaljhaa", sum := "7c49a03226816c2f611b75a27f3e34cdf8d62c424cda7789fc775ba96b116bba", func := "loop.example/g03000/laws.FnExactBestFor", spec := "fnExactBestFor", unfollowed := true, recurses := true, apart := false }
def FnExactBestForSaid : Prop := fnExactBestForRow.holds Try.pinned (OpenSpec.ofChange fnExactBestForSpec)

/-- ITS FALSE NEIGHBOUR: 'it returns false'. Refute it at one input. -/
def fnExactBestForWrong : ChangeSpec := { name := "fnExactBestFor", fn := fun _ => fun
  | [d1, d2] => { results := [.lit (.bool false)], args := [d1, d2] }
  | _ => none }
def FnExactBestForWrongFalsely : Prop := fnExactBestForRow.holds Try.pinned (OpenSpec.ofChange fnExactBestForWrong)

/-- 'laws.FnExactFindSeed': WHATEVER THE INPUT: true; the input reads as it did. -/
def fnExactFindSeedSpec : ChangeSpec := { name := "fnExactFindSeed", fn := fun _ => fun
  | [d1, d2, d3] => { results := [.lit (.bool true)], args := [d1, d2, d3] }
  | _ => none }
def fnExactFindSeedRow : OpenClaim := { program := "ytpoandlbmaljhaa", sum := "7c49a03226816c2f611b75a27f3e34cdf8d62c424cda7789fc775ba96b116bba", func := "loop.example/g03000/laws.FnExactFindSeed", spec := "fnExactFindSeed", unfollowed := true, recurses := true, apart := false }
def FnExactFindSeedSaid : Prop := fnExactFindSeedRow.holds Try.pinned (OpenSpec.ofChange fnExactFindSeedSpec)

/-- ITS FALSE NEIGHBOUR: 'it returns false'. Refute it at one input. -/
def fnExactFindSeedWrong : ChangeSpec := { name := "fnExactFindSeed", fn := fun _ => fun
  | [d1, d2, d3] => { results := [.lit (.bool false)], args := [d1, d2, d3] }
  | _ => none }
def FnExactFindSeedWrongFalsely : Prop := fnExactFindSeedRow.holds Try.pinned (OpenSpec.ofChange fnExactFindSeedWrong)

/- THE SECOND FORM. 'bulk': how many values and letters a reading holds, each counted each time it is reached (what is shared counts as often as it is met; a slice's spare places count too). A statement '..UptoSaid' is the law's where the arguments, and the package variables that the reading takes, are together of bulk at most 1048576: NARROWER than '..Said'. Prove '..Said' where nothing that the law and all that it calls make is longer than what came in: it says more and counts as full. Else prove '..UptoSaid'. A law counts once. -/
mutual
def uptoBulk {H : Type} : DataW H → Nat
  | .lit (.string bytes) => bytes.length + 1
  | .lit _ => 1
  | .nil => 1
  | .ptr d => uptoBulk d + 1
  | .slice elems spare => uptoBulkAll elems + uptoBulkAll spare + 1
  | .agg parts => uptoBulkAll parts + 1
  | .iface _ d => uptoBulk d + 1
  | .map entries => uptoBulkEntries entries + 1
  | .held _ => 1
def uptoBulkAll {H : Type} : List (DataW H) → Nat
  | [] => 0
  | d :: r => uptoBulk d + uptoBulkAll r
def uptoBulkEntries {H : Type} : List (Lit × DataW H) → Nat
  | [] => 0
  | x :: r => uptoBulkEntry x + uptoBulkEntries r
def uptoBulkEntry {H : Type} : Lit × DataW H → Nat
  | (.string bytes, d) => bytes.length + uptoBulk d + 1
  | (_, d) => uptoBulk d + 1
 end
def uptoSmall : (H : Type) → List (DataW H) → Bool := fun _ ds => decide (uptoBulkAll ds ≤ 1048576)
def OpenSpec.upto (s : _root_.Go.ChangeSpec) : _root_.Go.OpenSpec := { _root_.Go.OpenSpec.ofChange s with cond := some uptoSmall }

/-- 'laws.FnExactHardnessOf', WHERE WHAT IT READS IS OF BULK AT MOST 1048576: true; the input reads as it did. -/
def fnExactHardnessOfUptoRow : OpenClaim := { program := "ytpoandlbmaljhaa", sum := "7c49a03226816c2f611b75a27f3e34cdf8d62c424cda7789fc775ba96b116bba", func := "loop.example/g03000/laws.FnExactHardnessOf", spec := "fnExactHardnessOf", unfollowed := true, recurses := true, apart := false, narrowed := true }
def FnExactHardnessOfUptoSaid : Prop := fnExactHardnessOfUptoRow.holds Try.pinned (OpenSpec.upto fnExactHardnessOfSpec)

/-- 'laws.FnExactGreaseLost', WHERE WHAT IT READS IS OF BULK AT MOST 1048576: true; the input reads as it did. -/
def fnExactGreaseLostUptoRow : OpenClaim := { program := "ytpoandlbmaljhaa", sum := "7c49a03226816c2f611b75a27f3e34cdf8d62c424cda7789fc775ba96b116bba", func := "loop.example/g03000/laws.FnExactGreaseLost", spec := "fnExactGreaseLost", unfollowed := true, recurses := true, apart := false, narrowed := true }
def FnExactGreaseLostUptoSaid : Prop := fnExactGreaseLostUptoRow.holds Try.pinned (OpenSpec.upto fnExactGreaseLostSpec)

/-- 'laws.FnExactBestFor', WHERE WHAT IT READS IS OF BULK AT MOST 1048576: true; the input reads as it did. -/
def fnExactBestForUptoRow : OpenClaim := { program := "ytpoandlbmaljhaa", sum := "7c49a03226816c2f611b75a27f3e34cdf8d62c424cda7789fc775ba96b116bba", func := "loop.example/g03000/laws.FnExactBestFor", spec := "fnExactBestFor", unfollowed := true, recurses := true, apart := false, narrowed := true }
def FnExactBestForUptoSaid : Prop := fnExactBestForUptoRow.holds Try.pinned (OpenSpec.upto fnExactBestForSpec)

/-- 'laws.FnExactFindSeed', WHERE WHAT IT READS IS OF BULK AT MOST 1048576: true; the input reads as it did. -/
def fnExactFindSeedUptoRow : OpenClaim := { program := "ytpoandlbmaljhaa", sum := "7c49a03226816c2f611b75a27f3e34cdf8d62c424cda7789fc775ba96b116bba", func := "loop.example/g03000/laws.FnExactFindSeed", spec := "fnExactFindSeed", unfollowed := true, recurses := true, apart := false, narrowed := true }
def FnExactFindSeedUptoSaid : Prop := fnExactFindSeedUptoRow.holds Try.pinned (OpenSpec.upto fnExactFindSeedSpec)

end Rows
end Go.Proofs.Ytpoandlbmaljhaa
