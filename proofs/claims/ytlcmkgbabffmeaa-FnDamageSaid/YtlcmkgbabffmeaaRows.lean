/-
  No cell of these rows narrows 'for every input' (looked for: loops, veiled, ifaces, maps, wideKeys, modest, calm, conditions, laid).
  DERIVED. THE GIVEN ROWS OF THIS SEAT. 12 by the template 'for every input the law returns true; each argument reads behind the call as it read before'; 0 by the template 'total and deterministic' (their statements: YtlcmkgbabffmeaaTotals.lean).
  GIVEN WITH THE SEED: the statements are not yours to turn. If you find one false, say at which input.
  Laid BY PROGRAM, IN A SANDBOX (cutbox-rows.mjs): the forced cells as the released guide's own fill.sh prints them over the translation 203c830908f45c39… (all of the seat's roots in one cut). By AI agents, Wed Nov 11 2026. No macro, syntax, notation, axiom, sorry.
-/
import Derived.Test.YtlcmkgbabffmeaaChecked
import GoSem.Claim
import GoSem.ClaimJoined
import GoSem.ClaimMapViews
import Derived.JoinedTies
import Derived.KernelRfl
namespace Go.Proofs.Ytlcmkgbabffmeaa
/- THE CELL 'sum', in the pinned program and in every row, IS THE sha256 OF THE DUMP (.gsa) THAT YtlcmkgbabffmeaaProg.lean LOADS. Nothing in Lean hashes anything: it is a label: what it is worth is what the hold of that sum in a sandbox is worth. -/
noncomputable def Try.pinned : Pinned := { name := "ytlcmkgbabffmeaa", sum := "203c830908f45c3961f9505650d3ebfec4b2eed06e0c00bff575eb143dc6b438", checked := Try.checked }
namespace Rows
def none {H : Type} : Left H := { results := [], args := [] }

/-- 'laws.FnExactIsRollout': WHATEVER THE INPUT: true; the input reads as it did. -/
def fnExactIsRolloutSpec : ChangeSpec := { name := "fnExactIsRollout", fn := fun _ => fun
  | [d] => { results := [.lit (.bool true)], args := [d] }
  | _ => none }
def fnExactIsRolloutRow : OpenClaim := { program := "ytlcmkgbabffmeaa", sum := "203c830908f45c3961f9505650d3ebfec4b2eed06e0c00bff575eb143dc6b438", func := "loop.example/g03000/laws.FnExactIsRollout", spec := "fnExactIsRollout", apart := false }
def FnExactIsRolloutSaid : Prop := fnExactIsRolloutRow.holds Try.pinned (OpenSpec.ofChange fnExactIsRolloutSpec)

/-- ITS FALSE NEIGHBOUR: 'it returns false'. Refute it at one input. -/
def fnExactIsRolloutWrong : ChangeSpec := { name := "fnExactIsRollout", fn := fun _ => fun
  | [d] => { results := [.lit (.bool false)], args := [d] }
  | _ => none }
def FnExactIsRolloutWrongFalsely : Prop := fnExactIsRolloutRow.holds Try.pinned (OpenSpec.ofChange fnExactIsRolloutWrong)

/-- 'laws.FnExactEqualRollouts': WHATEVER THE INPUT: true; the input reads as it did. -/
def fnExactEqualRolloutsSpec : ChangeSpec := { name := "fnExactEqualRollouts", fn := fun _ => fun
  | [d1, d2] => { results := [.lit (.bool true)], args := [d1, d2] }
  | _ => none }
def fnExactEqualRolloutsRow : OpenClaim := { program := "ytlcmkgbabffmeaa", sum := "203c830908f45c3961f9505650d3ebfec4b2eed06e0c00bff575eb143dc6b438", func := "loop.example/g03000/laws.FnExactEqualRollouts", spec := "fnExactEqualRollouts", apart := false }
def FnExactEqualRolloutsSaid : Prop := fnExactEqualRolloutsRow.holds Try.pinned (OpenSpec.ofChange fnExactEqualRolloutsSpec)

/-- ITS FALSE NEIGHBOUR: 'it returns false'. Refute it at one input. -/
def fnExactEqualRolloutsWrong : ChangeSpec := { name := "fnExactEqualRollouts", fn := fun _ => fun
  | [d1, d2] => { results := [.lit (.bool false)], args := [d1, d2] }
  | _ => none }
def FnExactEqualRolloutsWrongFalsely : Prop := fnExactEqualRolloutsRow.holds Try.pinned (OpenSpec.ofChange fnExactEqualRolloutsWrong)

/-- 'laws.FnExactCountIn': WHATEVER THE INPUT: true; the input reads as it did. -/
def fnExactCountInSpec : ChangeSpec := { name := "fnExactCountIn", fn := fun _ => fun
  | [d1, d2] => { results := [.lit (.bool true)], args := [d1, d2] }
  | _ => none }
def fnExactCountInRow : OpenClaim := { program := "ytlcmkgbabffmeaa", sum := "203c830908f45c3961f9505650d3ebfec4b2eed06e0c00bff575eb143dc6b438", func := "loop.example/g03000/laws.FnExactCountIn", spec := "fnExactCountIn", apart := false }
def FnExactCountInSaid : Prop := fnExactCountInRow.holds Try.pinned (OpenSpec.ofChange fnExactCountInSpec)

/-- ITS FALSE NEIGHBOUR: 'it returns false'. Refute it at one input. -/
def fnExactCountInWrong : ChangeSpec := { name := "fnExactCountIn", fn := fun _ => fun
  | [d1, d2] => { results := [.lit (.bool false)], args := [d1, d2] }
  | _ => none }
def FnExactCountInWrongFalsely : Prop := fnExactCountInRow.holds Try.pinned (OpenSpec.ofChange fnExactCountInWrong)

/-- 'laws.FnExactIsIn': WHATEVER THE INPUT: true; the input reads as it did. -/
def fnExactIsInSpec : ChangeSpec := { name := "fnExactIsIn", fn := fun _ => fun
  | [d1, d2, d3] => { results := [.lit (.bool true)], args := [d1, d2, d3] }
  | _ => none }
def fnExactIsInRow : OpenClaim := { program := "ytlcmkgbabffmeaa", sum := "203c830908f45c3961f9505650d3ebfec4b2eed06e0c00bff575eb143dc6b438", func := "loop.example/g03000/laws.FnExactIsIn", spec := "fnExactIsIn", apart := false }
def FnExactIsInSaid : Prop := fnExactIsInRow.holds Try.pinned (OpenSpec.ofChange fnExactIsInSpec)

/-- ITS FALSE NEIGHBOUR: 'it returns false'. Refute it at one input. -/
def fnExactIsInWrong : ChangeSpec := { name := "fnExactIsIn", fn := fun _ => fun
  | [d1, d2, d3] => { results := [.lit (.bool false)], args := [d1, d2, d3] }
  | _ => none }
def FnExactIsInWrongFalsely : Prop := fnExactIsInRow.holds Try.pinned (OpenSpec.ofChange fnExactIsInWrong)

/-- 'laws.FnExactNextStage': WHATEVER THE INPUT: true; the input reads as it did. -/
def fnExactNextStageSpec : ChangeSpec := { name := "fnExactNextStage", fn := fun _ => fun
  | [d] => { results := [.lit (.bool true)], args := [d] }
  | _ => none }
def fnExactNextStageRow : OpenClaim := { program := "ytlcmkgbabffmeaa", sum := "203c830908f45c3961f9505650d3ebfec4b2eed06e0c00bff575eb143dc6b438", func := "loop.example/g03000/laws.FnExactNextStage", spec := "fnExactNextStage", apart := false }
def FnExactNextStageSaid : Prop := fnExactNextStageRow.holds Try.pinned (OpenSpec.ofChange fnExactNextStageSpec)

/-- ITS FALSE NEIGHBOUR: 'it returns false'. Refute it at one input. -/
def fnExactNextStageWrong : ChangeSpec := { name := "fnExactNextStage", fn := fun _ => fun
  | [d] => { results := [.lit (.bool false)], args := [d] }
  | _ => none }
def FnExactNextStageWrongFalsely : Prop := fnExactNextStageRow.holds Try.pinned (OpenSpec.ofChange fnExactNextStageWrong)

/-- 'laws.FnExactBackStage': WHATEVER THE INPUT: true; the input reads as it did. -/
def fnExactBackStageSpec : ChangeSpec := { name := "fnExactBackStage", fn := fun _ => fun
  | [d] => { results := [.lit (.bool true)], args := [d] }
  | _ => none }
def fnExactBackStageRow : OpenClaim := { program := "ytlcmkgbabffmeaa", sum := "203c830908f45c3961f9505650d3ebfec4b2eed06e0c00bff575eb143dc6b438", func := "loop.example/g03000/laws.FnExactBackStage", spec := "fnExactBackStage", apart := false }
def FnExactBackStageSaid : Prop := fnExactBackStageRow.holds Try.pinned (OpenSpec.ofChange fnExactBackStageSpec)

/-- ITS FALSE NEIGHBOUR: 'it returns false'. Refute it at one input. -/
def fnExactBackStageWrong : ChangeSpec := { name := "fnExactBackStage", fn := fun _ => fun
  | [d] => { results := [.lit (.bool false)], args := [d] }
  | _ => none }
def FnExactBackStageWrongFalsely : Prop := fnExactBackStageRow.holds Try.pinned (OpenSpec.ofChange fnExactBackStageWrong)

/-- 'laws.FnRollouts': WHATEVER THE INPUT: true; the input reads as it did. -/
def fnRolloutsSpec : ChangeSpec := { name := "fnRollouts", fn := fun _ => fun
  | [d] => { results := [.lit (.bool true)], args := [d] }
  | _ => none }
def fnRolloutsRow : OpenClaim := { program := "ytlcmkgbabffmeaa", sum := "203c830908f45c3961f9505650d3ebfec4b2eed06e0c00bff575eb143dc6b438", func := "loop.example/g03000/laws.FnRollouts", spec := "fnRollouts", apart := false }
def FnRolloutsSaid : Prop := fnRolloutsRow.holds Try.pinned (OpenSpec.ofChange fnRolloutsSpec)

/-- ITS FALSE NEIGHBOUR: 'it returns false'. Refute it at one input. -/
def fnRolloutsWrong : ChangeSpec := { name := "fnRollouts", fn := fun _ => fun
  | [d] => { results := [.lit (.bool false)], args := [d] }
  | _ => none }
def FnRolloutsWrongFalsely : Prop := fnRolloutsRow.holds Try.pinned (OpenSpec.ofChange fnRolloutsWrong)

/-- 'laws.FnExactMostHurt': WHATEVER THE INPUT: true; the input reads as it did. -/
def fnExactMostHurtSpec : ChangeSpec := { name := "fnExactMostHurt", fn := fun _ => fun
  | [d1, d2, d3] => { results := [.lit (.bool true)], args := [d1, d2, d3] }
  | _ => none }
def fnExactMostHurtRow : OpenClaim := { program := "ytlcmkgbabffmeaa", sum := "203c830908f45c3961f9505650d3ebfec4b2eed06e0c00bff575eb143dc6b438", func := "loop.example/g03000/laws.FnExactMostHurt", spec := "fnExactMostHurt", apart := false }
def FnExactMostHurtSaid : Prop := fnExactMostHurtRow.holds Try.pinned (OpenSpec.ofChange fnExactMostHurtSpec)

/-- ITS FALSE NEIGHBOUR: 'it returns false'. Refute it at one input. -/
def fnExactMostHurtWrong : ChangeSpec := { name := "fnExactMostHurt", fn := fun _ => fun
  | [d1, d2, d3] => { results := [.lit (.bool false)], args := [d1, d2, d3] }
  | _ => none }
def FnExactMostHurtWrongFalsely : Prop := fnExactMostHurtRow.holds Try.pinned (OpenSpec.ofChange fnExactMostHurtWrong)

/-- 'laws.FnExactHurtAt': WHATEVER THE INPUT: true; the input reads as it did. -/
def fnExactHurtAtSpec : ChangeSpec := { name := "fnExactHurtAt", fn := fun _ => fun
  | [d1, d2, d3] => { results := [.lit (.bool true)], args := [d1, d2, d3] }
  | _ => none }
def fnExactHurtAtRow : OpenClaim := { program := "ytlcmkgbabffmeaa", sum := "203c830908f45c3961f9505650d3ebfec4b2eed06e0c00bff575eb143dc6b438", func := "loop.example/g03000/laws.FnExactHurtAt", spec := "fnExactHurtAt", apart := false }
def FnExactHurtAtSaid : Prop := fnExactHurtAtRow.holds Try.pinned (OpenSpec.ofChange fnExactHurtAtSpec)

/-- ITS FALSE NEIGHBOUR: 'it returns false'. Refute it at one input. -/
def fnExactHurtAtWrong : ChangeSpec := { name := "fnExactHurtAt", fn := fun _ => fun
  | [d1, d2, d3] => { results := [.lit (.bool false)], args := [d1, d2, d3] }
  | _ => none }
def FnExactHurtAtWrongFalsely : Prop := fnExactHurtAtRow.holds Try.pinned (OpenSpec.ofChange fnExactHurtAtWrong)

/-- 'laws.FnExactPassedStages': WHATEVER THE INPUT: true; the input reads as it did. -/
def fnExactPassedStagesSpec : ChangeSpec := { name := "fnExactPassedStages", fn := fun _ => fun
  | [d1, d2] => { results := [.lit (.bool true)], args := [d1, d2] }
  | _ => none }
def fnExactPassedStagesRow : OpenClaim := { program := "ytlcmkgbabffmeaa", sum := "203c830908f45c3961f9505650d3ebfec4b2eed06e0c00bff575eb143dc6b438", func := "loop.example/g03000/laws.FnExactPassedStages", spec := "fnExactPassedStages", apart := false }
def FnExactPassedStagesSaid : Prop := fnExactPassedStagesRow.holds Try.pinned (OpenSpec.ofChange fnExactPassedStagesSpec)

/-- ITS FALSE NEIGHBOUR: 'it returns false'. Refute it at one input. -/
def fnExactPassedStagesWrong : ChangeSpec := { name := "fnExactPassedStages", fn := fun _ => fun
  | [d1, d2] => { results := [.lit (.bool false)], args := [d1, d2] }
  | _ => none }
def FnExactPassedStagesWrongFalsely : Prop := fnExactPassedStagesRow.holds Try.pinned (OpenSpec.ofChange fnExactPassedStagesWrong)

/-- 'laws.FnExactStageAfter': WHATEVER THE INPUT: true; the input reads as it did. -/
def fnExactStageAfterSpec : ChangeSpec := { name := "fnExactStageAfter", fn := fun _ => fun
  | [d1, d2] => { results := [.lit (.bool true)], args := [d1, d2] }
  | _ => none }
def fnExactStageAfterRow : OpenClaim := { program := "ytlcmkgbabffmeaa", sum := "203c830908f45c3961f9505650d3ebfec4b2eed06e0c00bff575eb143dc6b438", func := "loop.example/g03000/laws.FnExactStageAfter", spec := "fnExactStageAfter", apart := false }
def FnExactStageAfterSaid : Prop := fnExactStageAfterRow.holds Try.pinned (OpenSpec.ofChange fnExactStageAfterSpec)

/-- ITS FALSE NEIGHBOUR: 'it returns false'. Refute it at one input. -/
def fnExactStageAfterWrong : ChangeSpec := { name := "fnExactStageAfter", fn := fun _ => fun
  | [d1, d2] => { results := [.lit (.bool false)], args := [d1, d2] }
  | _ => none }
def FnExactStageAfterWrongFalsely : Prop := fnExactStageAfterRow.holds Try.pinned (OpenSpec.ofChange fnExactStageAfterWrong)

/-- 'laws.FnDamage': WHATEVER THE INPUT: true; the input reads as it did. -/
def fnDamageSpec : ChangeSpec := { name := "fnDamage", fn := fun _ => fun
  | [d] => { results := [.lit (.bool true)], args := [d] }
  | _ => none }
def fnDamageRow : OpenClaim := { program := "ytlcmkgbabffmeaa", sum := "203c830908f45c3961f9505650d3ebfec4b2eed06e0c00bff575eb143dc6b438", func := "loop.example/g03000/laws.FnDamage", spec := "fnDamage", apart := false }
def FnDamageSaid : Prop := fnDamageRow.holds Try.pinned (OpenSpec.ofChange fnDamageSpec)

/-- ITS FALSE NEIGHBOUR: 'it returns false'. Refute it at one input. -/
def fnDamageWrong : ChangeSpec := { name := "fnDamage", fn := fun _ => fun
  | [d] => { results := [.lit (.bool false)], args := [d] }
  | _ => none }
def FnDamageWrongFalsely : Prop := fnDamageRow.holds Try.pinned (OpenSpec.ofChange fnDamageWrong)

/- THE SECOND FORM. 'bulk': how many values and letters a reading holds, each counted each time it is reached (what is shared counts as often as it is met; a slice's spare places count too). A statement '..UptoSaid' is the law's where the arguments, and the package variables that the reading takes, are together of bulk at most 1048576: NARROWER than '..Said'. Prove '..Said' where nothing that the law and all that it calls make is longer than what came in: it says more and counts as full. Else prove '..UptoSaid'. A law counts once. -/
mutual
def uptoBulk {H : Type} : DataW H → Nat
  | .lit (.string bytes) => bytes.length + 1
  | .lit _ => 1
  | .nil => 1
  | .ptr d => uptoBulk d + 1
  | .slice elems spare => uptoBulkAll elems + uptoBulkAll spare + 1
  | .agg parts => uptoBulkAll parts + 1
  | .iface _ d => uptoBulk d + 1
  | .map entries => uptoBulkEntries entries + 1
  | .held _ => 1
def uptoBulkAll {H : Type} : List (DataW H) → Nat
  | [] => 0
  | d :: r => uptoBulk d + uptoBulkAll r
def uptoBulkEntries {H : Type} : List (Lit × DataW H) → Nat
  | [] => 0
  | x :: r => uptoBulkEntry x + uptoBulkEntries r
def uptoBulkEntry {H : Type} : Lit × DataW H → Nat
  | (.string bytes, d) => bytes.length + uptoBulk d + 1
  | (_, d) => uptoBulk d + 1
 end
def uptoSmall : (H : Type) → List (DataW H) → Bool := fun _ ds => decide (uptoBulkAll ds ≤ 1048576)
def OpenSpec.upto (s : _root_.Go.ChangeSpec) : _root_.Go.OpenSpec := { _root_.Go.OpenSpec.ofChange s with cond := some uptoSmall }

/-- 'laws.FnExactIsRollout', WHERE WHAT IT READS IS OF BULK AT MOST 1048576: true; the input reads as it did. -/
def fnExactIsRolloutUptoRow : OpenClaim := { program := "ytlcmkgbabffmeaa", sum := "203c830908f45c3961f9505650d3ebfec4b2eed06e0c00bff575eb143dc6b438", func := "loop.example/g03000/laws.FnExactIsRollout", spec := "fnExactIsRollout", apart := false, narrowed := true }
def FnExactIsRolloutUptoSaid : Prop := fnExactIsRolloutUptoRow.holds Try.pinned (OpenSpec.upto fnExactIsRolloutSpec)

/-- 'laws.FnExactEqualRollouts', WHERE WHAT IT READS IS OF BULK AT MOST 1048576: true; the input reads as it did. -/
def fnExactEqualRolloutsUptoRow : OpenClaim := { program := "ytlcmkgbabffmeaa", sum := "203c830908f45c3961f9505650d3ebfec4b2eed06e0c00bff575eb143dc6b438", func := "loop.example/g03000/laws.FnExactEqualRollouts", spec := "fnExactEqualRollouts", apart := false, narrowed := true }
def FnExactEqualRolloutsUptoSaid : Prop := fnExactEqualRolloutsUptoRow.holds Try.pinned (OpenSpec.upto fnExactEqualRolloutsSpec)

/-- 'laws.FnExactCountIn', WHERE WHAT IT READS IS OF BULK AT MOST 1048576: true; the input reads as it did. -/
def fnExactCountInUptoRow : OpenClaim := { program := "ytlcmkgbabffmeaa", sum := "203c830908f45c3961f9505650d3ebfec4b2eed06e0c00bff575eb143dc6b438", func := "loop.example/g03000/laws.FnExactCountIn", spec := "fnExactCountIn", apart := false, narrowed := true }
def FnExactCountInUptoSaid : Prop := fnExactCountInUptoRow.holds Try.pinned (OpenSpec.upto fnExactCountInSpec)

/-- 'laws.FnExactIsIn', WHERE WHAT IT READS IS OF BULK AT MOST 1048576: true; the input reads as it did. -/
def fnExactIsInUptoRow : OpenClaim := { program := "ytlcmkgbabffmeaa", sum := "203c830908f45c3961f9505650d3ebfec4b2eed06e0c00bff575eb143dc6b438", func := "loop.example/g03000/laws.FnExactIsIn", spec := "fnExactIsIn", apart := false, narrowed := true }
def FnExactIsInUptoSaid : Prop := fnExactIsInUptoRow.holds Try.pinned (OpenSpec.upto fnExactIsInSpec)

/-- 'laws.FnExactNextStage', WHERE WHAT IT READS IS OF BULK AT MOST 1048576: true; the input reads as it did. -/
def fnExactNextStageUptoRow : OpenClaim := { program := "ytlcmkgbabffmeaa", sum := "203c830908f45c3961f9505650d3ebfec4b2eed06e0c00bff575eb143dc6b438", func := "loop.example/g03000/laws.FnExactNextStage", spec := "fnExactNextStage", apart := false, narrowed := true }
def FnExactNextStageUptoSaid : Prop := fnExactNextStageUptoRow.holds Try.pinned (OpenSpec.upto fnExactNextStageSpec)

/-- 'laws.FnExactBackStage', WHERE WHAT IT READS IS OF BULK AT MOST 1048576: true; the input reads as it did. -/
def fnExactBackStageUptoRow : OpenClaim := { program := "ytlcmkgbabffmeaa", sum := "203c830908f45c3961f9505650d3ebfec4b2eed06e0c00bff575eb143dc6b438", func := "loop.example/g03000/laws.FnExactBackStage", spec := "fnExactBackStage", apart := false, narrowed := true }
def FnExactBackStageUptoSaid : Prop := fnExactBackStageUptoRow.holds Try.pinned (OpenSpec.upto fnExactBackStageSpec)

/-- 'laws.FnRollouts', WHERE WHAT IT READS IS OF BULK AT MOST 1048576: true; the input reads as it did. -/
def fnRolloutsUptoRow : OpenClaim := { program := "ytlcmkgbabffmeaa", sum := "203c830908f45c3961f9505650d3ebfec4b2eed06e0c00bff575eb143dc6b438", func := "loop.example/g03000/laws.FnRollouts", spec := "fnRollouts", apart := false, narrowed := true }
def FnRolloutsUptoSaid : Prop := fnRolloutsUptoRow.holds Try.pinned (OpenSpec.upto fnRolloutsSpec)

/-- 'laws.FnExactMostHurt', WHERE WHAT IT READS IS OF BULK AT MOST 1048576: true; the input reads as it did. -/
def fnExactMostHurtUptoRow : OpenClaim := { program := "ytlcmkgbabffmeaa", sum := "203c830908f45c3961f9505650d3ebfec4b2eed06e0c00bff575eb143dc6b438", func := "loop.example/g03000/laws.FnExactMostHurt", spec := "fnExactMostHurt", apart := false, narrowed := true }
def FnExactMostHurtUptoSaid : Prop := fnExactMostHurtUptoRow.holds Try.pinned (OpenSpec.upto fnExactMostHurtSpec)

/-- 'laws.FnExactHurtAt', WHERE WHAT IT READS IS OF BULK AT MOST 1048576: true; the input reads as it did. -/
def fnExactHurtAtUptoRow : OpenClaim := { program := "ytlcmkgbabffmeaa", sum := "203c830908f45c3961f9505650d3ebfec4b2eed06e0c00bff575eb143dc6b438", func := "loop.example/g03000/laws.FnExactHurtAt", spec := "fnExactHurtAt", apart := false, narrowed := true }
def FnExactHurtAtUptoSaid : Prop := fnExactHurtAtUptoRow.holds Try.pinned (OpenSpec.upto fnExactHurtAtSpec)

/-- 'laws.FnExactPassedStages', WHERE WHAT IT READS IS OF BULK AT MOST 1048576: true; the input reads as it did. -/
def fnExactPassedStagesUptoRow : OpenClaim := { program := "ytlcmkgbabffmeaa", sum := "203c830908f45c3961f9505650d3ebfec4b2eed06e0c00bff575eb143dc6b438", func := "loop.example/g03000/laws.FnExactPassedStages", spec := "fnExactPassedStages", apart := false, narrowed := true }
def FnExactPassedStagesUptoSaid : Prop := fnExactPassedStagesUptoRow.holds Try.pinned (OpenSpec.upto fnExactPassedStagesSpec)

/-- 'laws.FnExactStageAfter', WHERE WHAT IT READS IS OF BULK AT MOST 1048576: true; the input reads as it did. -/
def fnExactStageAfterUptoRow : OpenClaim := { program := "ytlcmkgbabffmeaa", sum := "203c830908f45c3961f9505650d3ebfec4b2eed06e0c00bff575eb143dc6b438", func := "loop.example/g03000/laws.FnExactStageAfter", spec := "fnExactStageAfter", apart := false, narrowed := true }
def FnExactStageAfterUptoSaid : Prop := fnExactStageAfterUptoRow.holds Try.pinned (OpenSpec.upto fnExactStageAfterSpec)

/-- 'laws.FnDamage', WHERE WHAT IT READS IS OF BULK AT MOST 1048576: true; the input reads as it did. -/
def fnDamageUptoRow : OpenClaim := { program := "ytlcmkgbabffmeaa", sum := "203c830908f45c3961f9505650d3ebfec4b2eed06e0c00bff575eb143dc6b438", func := "loop.example/g03000/laws.FnDamage", spec := "fnDamage", apart := false, narrowed := true }
def FnDamageUptoSaid : Prop := fnDamageUptoRow.holds Try.pinned (OpenSpec.upto fnDamageSpec)

end Rows
end Go.Proofs.Ytlcmkgbabffmeaa
