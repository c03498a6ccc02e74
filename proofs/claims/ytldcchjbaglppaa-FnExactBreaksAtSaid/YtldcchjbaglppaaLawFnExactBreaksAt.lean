-- Written by a program of this session (printx.py) out of the translation; Lean checks it. The row of the law laws_FnExactBreaksAt.
import Derived.Test.YtldcchjbaglppaaRows
import Derived.Test.YtldcchjbaglppaaPrint26
import Derived.Test.YtldcchjbaglppaaRds
import Derived.Test.YtldcchjbaglppaaPureFnExactBreaksAt
import Derived.WalkKit
import Derived.ProofKit
import Derived.OpenShut
import Derived.ShutString
import Derived.ChangeOld
import Derived.Below
import Derived.SizedLaws
namespace Go.Proofs.Ytldcchjbaglppaa.fnExactBreaksAt
open Go.ChangeShapes Go.WideShapes Go.ChangeAt Go.RowKit Go.Proofs.Ytldcchjbaglppaa.Open Go.Proofs.Ytldcchjbaglppaa.Print Go.Proofs.YtldcchjbaglppaaW.PrintWords
open Go.ChangeMaps (open_string shut_string)
set_option linter.unusedVariables false
theorem own : ownKnob Try.prog.godebug = none := by kernel_rfl
theorem laidOut : laidOutB Try.prog = true := by kernel_rfl
set_option maxRecDepth 100000 in
theorem lifted (os : Os) (started : os.Started) (H : Type) (enc : TypeId × Value → H) :
    ReturnsInHanded {} Try.checked os 7 .any (Rows.fnExactBreaksAtSpec.pre6 enc Try.prog Try.f7 Rows.fnExactBreaksAtRow.domain false) (Rows.fnExactBreaksAtSpec.post enc Try.prog Try.f7 false true false false) := by
  refine returnsInHanded_of_change_sized (C := Try.checked) own started (by kernel_rfl) Try.func7
    (ChangeSpec.witness6 (enc := enc) (C := Try.checked) false ⟨#[], #[.slice none 0 0], []⟩ 8 (by kernel_rfl) (by kernel_rfl) (by kernel_rfl) (by kernel_rfl)) ?_
  intro W base args ds gs before hval0 hW hcnd hsz0 _
  have hsz : (DataW.weightsEach Try.prog (Try.f7.params.toList ++ Rows.fnExactBreaksAtSpec.plain.varTypes Try.prog) (ds ++ gs)).all (· ≤ reachBytes) = true := hsz0
  have hval : ∀ (j : Nat) t v, Try.f7.params[j]? = some t → args[j]? = some v → Value.okWide Try.prog W .any base t v := hval0
  have hW' := hW
  obtain ⟨p, q, hA0, hV, rfl, hfz, hnd⟩ := hW
  have hA : DataW.TrodAll enc Try.prog W 0 (fun _ => true) true Try.f7.params.toList args.toList ds p := hA0
  rw [Try.params7] at hA hval hsz
  obtain ⟨v0, vs0, d0, ds0, p0, q0, hargs, rfl, rfl, h0, r0⟩ := trodAll_cons hA
  obtain ⟨rfl, rfl, rfl⟩ := trodAll_nil r0
  obtain rfl : args = #[v0] := by cases args; simp_all
  obtain ⟨rfl, rfl⟩ := trodVars_none hV
  have k0 := h0
  have lt0 : ∀ x ∈ p0, x.block < W.heap.size := by obtain ⟨m, hm⟩ := k0; exact DataW.trod_lt m _ _ _ hm
  have wt0 := weights_at hsz (j := 0) (t := 22) rfl rfl
  obtain ⟨a0, len0, cap0, rfl⟩ := okWide_slice Try.underlying22 (hval 0 22 v0 rfl rfl)
  obtain ⟨x0, hK0, w0⟩ : ∃ x : List (S26), (Kd.slice 26 k26).K W x [.slice a0 len0 cap0] ∧ (x.length * 56 ≤ 140737488351232 ∧ ∀ y ∈ x, Q26 y) := by
    obtain ⟨fuel, hf⟩ := h0
    exact (rds_slice Try.underlying22 (by kernel_rfl) (by kernel_rfl) (rds26 (enc := enc) (w := W))) fuel _ _ (by simpa [Value.cells] using hf) wt0
  obtain ⟨A0, c0, eK0, l0, g0⟩ := hK0
  injection eK0 with eK0 _
  injection eK0 with e1_0 e2_0 e3_0
  subst e1_0; subst e2_0; subst e3_0
  clear hA0 hval0 hsz0 hsz
  obtain ⟨k, hp⟩ := Pure.FnExactBreaksAt x0 w0
  refine (laws_FnExactBreaksAt.calls k _ _ x0 true W g0 l0 hp).mono ?_
  rintro e W' ⟨rfl, hd⟩
  have bel : Below W.heap.size W W' := hd
  exact ⟨_, rfl, _, _, _, [], _, [], hW', trodAll_mk1 (shut_bool Try.underlying4 _), (trodAll_cons_mk (Below.trod laidOut (by kernel_rfl) (of_decide_eq_true (by kernel_rfl)) k0 bel lt0) trodAll_mk0), rfl, bel.frame _, fun h => by cases h⟩
theorem over : Rows.fnExactBreaksAtRow.holds Try.pinned (OpenSpec.ofChange Rows.fnExactBreaksAtSpec) :=
  OpenClaim.holds_of_wide 7 Try.f7 rfl rfl rfl rfl rfl rfl rfl ⟨rfl, rfl, rfl, rfl, rfl⟩ rfl rfl rfl rfl rfl (by kernel_rfl) Try.func7 (by kernel_rfl)
    (of_decide_eq_true (by kernel_rfl)) (by unfold Func.isWrapper; first | (rw [if_pos (by decide +kernel)]; kernel_rfl) | (rw [if_neg (by decide +kernel)]; exact ⟨rfl, rfl⟩))
    (fun os started H enc _ => lifted os started H enc)
theorem proved : Rows.FnExactBreaksAtSaid := over
#print axioms proved
end Go.Proofs.Ytldcchjbaglppaa.fnExactBreaksAt
namespace Go.Proofs.Ytldcchjbaglppaa
/-- The row, under a short name, for the claim. -/
theorem fnExactBreaksAt_holds : Rows.FnExactBreaksAtSaid := fnExactBreaksAt.proved
end Go.Proofs.Ytldcchjbaglppaa
