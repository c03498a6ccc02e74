-- Written by a program of this session (printx.py) out of the translation; Lean checks it. The row of the law laws_FnExactListsOf.
import Derived.Test.YtfhndlgbjhffiaaRows
import Derived.Test.YtfhndlgbjhffiaaPrint9
import Derived.Test.YtfhndlgbjhffiaaRds
import Derived.Test.YtfhndlgbjhffiaaPureFnExactListsOf
import Derived.WalkKit
import Derived.ProofKit
import Derived.OpenShut
import Derived.ShutString
import Derived.ChangeOld
import Derived.Below
import Derived.SizedLaws
namespace Go.Proofs.Ytfhndlgbjhffiaa.fnExactListsOf
open Go.ChangeShapes Go.WideShapes Go.ChangeAt Go.RowKit Go.Proofs.Ytfhndlgbjhffiaa.Open Go.Proofs.Ytfhndlgbjhffiaa.Print Go.Proofs.YtfhndlgbjhffiaaW.PrintWords
open Go.ChangeMaps (open_string shut_string)
set_option linter.unusedVariables false
theorem own : ownKnob Try.prog.godebug = none := by kernel_rfl
theorem laidOut : laidOutB Try.prog = true := by kernel_rfl
set_option maxRecDepth 100000 in
theorem lifted (os : Os) (started : os.Started) (H : Type) (enc : TypeId × Value → H) :
    ReturnsInHanded {} Try.checked os 4 .any (Rows.fnExactListsOfSpec.pre6 enc Try.prog Try.f4 Rows.fnExactListsOfRow.domain false) (Rows.fnExactListsOfSpec.post enc Try.prog Try.f4 false true false false) := by
  refine returnsInHanded_of_change_sized (C := Try.checked) own started (by kernel_rfl) Try.func4
    (ChangeSpec.witness6 (enc := enc) (C := Try.checked) false ⟨#[], #[.agg #[.slice none 0 0, .slice none 0 0, .int .i64 0, .slice none 0 0, .int .i64 0, .slice none 0 0, .int .i64 0, .bool false, .int .i64 0, .int .i64 0, .slice none 0 0, .slice none 0 0, .int .i64 0, .int .i64 0, .int .i64 0]], []⟩ 8 (by kernel_rfl) (by kernel_rfl) (by kernel_rfl) (by kernel_rfl)) ?_
  intro W base args ds gs before hval0 hW hcnd hsz0 _
  have hsz : (DataW.weightsEach Try.prog (Try.f4.params.toList ++ Rows.fnExactListsOfSpec.plain.varTypes Try.prog) (ds ++ gs)).all (· ≤ reachBytes) = true := hsz0
  have hval : ∀ (j : Nat) t v, Try.f4.params[j]? = some t → args[j]? = some v → Value.okWide Try.prog W .any base t v := hval0
  have hW' := hW
  obtain ⟨p, q, hA0, hV, rfl, hfz, hnd⟩ := hW
  have hA : DataW.TrodAll enc Try.prog W 0 (fun _ => true) true Try.f4.params.toList args.toList ds p := hA0
  rw [Try.params4] at hA hval hsz
  obtain ⟨v0, vs0, d0, ds0, p0, q0, hargs, rfl, rfl, h0, r0⟩ := trodAll_cons hA
  obtain ⟨rfl, rfl, rfl⟩ := trodAll_nil r0
  obtain rfl : args = #[v0] := by cases args; simp_all
  obtain ⟨rfl, rfl⟩ := trodVars_none hV
  have k0 := h0
  have lt0 : ∀ x ∈ p0, x.block < W.heap.size := by obtain ⟨m, hm⟩ := k0; exact DataW.trod_lt m _ _ _ hm
  have wt0 := weights_at hsz (j := 0) (t := 29) rfl rfl
  obtain ⟨ca0, rfl, _⟩ := okWide_struct Try.underlying29 (hval 0 29 v0 rfl rfl)
  obtain ⟨x0, hK0, w0⟩ : ∃ x : S29, k29.K W x ca0.toList ∧ Q29 x := by
    obtain ⟨fuel, hf⟩ := h0
    exact rds29 fuel _ _ (by simpa [Value.cells] using hf) wt0
  obtain ⟨A0_0, c0_0, A0_1, c0_1, A0_3, c0_3, A0_5, c0_5, A0_10, c0_10, A0_11, c0_11, eK0, l0_0, g0_0, l0_1, g0_1, l0_3, g0_3, l0_5, g0_5, l0_10, g0_10, l0_11, g0_11⟩ := k29_open hK0
  replace eK0 := arr_of eK0
  subst eK0
  clear hA0 hval0 hsz0 hsz
  obtain ⟨k, hp⟩ := Pure.FnExactListsOf x0 w0
  refine (laws_FnExactListsOf.calls k _ _ (x0.f0) _ _ (x0.f1) (x0.f2) _ _ (x0.f3) (x0.f4.f0) _ _ (x0.f4.f1) (x0.f4.f2) (x0.f4.f3) (x0.f5) (x0.f6) _ _ (x0.f7) _ _ (x0.f8) (x0.f9) (x0.f10) (x0.f11) true W g0_0 l0_0 g0_1 l0_1 g0_3 l0_3 g0_5 l0_5 g0_10 l0_10 g0_11 l0_11 hp).mono ?_
  rintro e W' ⟨rfl, hd⟩
  have bel : Below W.heap.size W W' := hd
  exact ⟨_, rfl, _, _, _, [], _, [], hW', trodAll_mk1 (shut_bool Try.underlying4 _), (trodAll_cons_mk (Below.trod laidOut (by kernel_rfl) (of_decide_eq_true (by kernel_rfl)) k0 bel lt0) trodAll_mk0), rfl, bel.frame _, fun h => by cases h⟩
theorem over : Rows.fnExactListsOfRow.holds Try.pinned (OpenSpec.ofChange Rows.fnExactListsOfSpec) :=
  OpenClaim.holds_of_wide 4 Try.f4 rfl rfl rfl rfl rfl rfl rfl ⟨rfl, rfl, rfl, rfl, rfl⟩ rfl rfl rfl rfl rfl (by kernel_rfl) Try.func4 (by kernel_rfl)
    (of_decide_eq_true (by kernel_rfl)) (by unfold Func.isWrapper; first | (rw [if_pos (by decide +kernel)]; kernel_rfl) | (rw [if_neg (by decide +kernel)]; exact ⟨rfl, rfl⟩))
    (fun os started H enc _ => lifted os started H enc)
theorem proved : Rows.FnExactListsOfSaid := over
#print axioms proved
end Go.Proofs.Ytfhndlgbjhffiaa.fnExactListsOf
namespace Go.Proofs.Ytfhndlgbjhffiaa
/-- The row, under a short name, for the claim. -/
theorem fnExactListsOf_holds : Rows.FnExactListsOfSaid := fnExactListsOf.proved
end Go.Proofs.Ytfhndlgbjhffiaa
