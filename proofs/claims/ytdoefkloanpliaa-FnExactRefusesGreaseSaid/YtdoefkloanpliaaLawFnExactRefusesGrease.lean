-- Written by a program of this session (printx.py) out of the translation; Lean checks it. The row of the law laws_FnExactRefusesGrease.
import Derived.Test.YtdoefkloanpliaaRows
import Derived.Test.YtdoefkloanpliaaPrint15
import Derived.Test.YtdoefkloanpliaaRds
import Derived.Test.YtdoefkloanpliaaPureFnExactRefusesGrease
import Derived.WalkKit
import Derived.ProofKit
import Derived.OpenShut
import Derived.ShutString
import Derived.ChangeOld
import Derived.Below
import Derived.SizedLaws
namespace Go.Proofs.Ytdoefkloanpliaa.fnExactRefusesGrease
open Go.ChangeShapes Go.WideShapes Go.ChangeAt Go.RowKit Go.Proofs.Ytdoefkloanpliaa.Open Go.Proofs.Ytdoefkloanpliaa.Print Go.Proofs.YtdoefkloanpliaaW.PrintWords
open Go.ChangeMaps (open_string shut_string)
set_option linter.unusedVariables false
theorem own : ownKnob Try.prog.godebug = none := by kernel_rfl
theorem laidOut : laidOutB Try.prog = true := by kernel_rfl
set_option maxRecDepth 100000 in
theorem lifted (os : Os) (started : os.Started) (H : Type) (enc : TypeId × Value → H) :
    ReturnsInHanded {} Try.checked os 12 .any (Rows.fnExactRefusesGreaseSpec.pre6 enc Try.prog Try.f12 Rows.fnExactRefusesGreaseRow.domain false) (Rows.fnExactRefusesGreaseSpec.post enc Try.prog Try.f12 false true false false) := by
  refine returnsInHanded_of_change_sized (C := Try.checked) own started (by kernel_rfl) Try.func12
    (ChangeSpec.witness6 (enc := enc) (C := Try.checked) false ⟨#[], #[.agg #[.int .i64 0, .slice none 0 0, .slice none 0 0, .bool false]], []⟩ 8 (by kernel_rfl) (by kernel_rfl) (by kernel_rfl) (by kernel_rfl)) ?_
  intro W base args ds gs before hval0 hW hcnd hsz0 _
  have hsz : (DataW.weightsEach Try.prog (Try.f12.params.toList ++ Rows.fnExactRefusesGreaseSpec.plain.varTypes Try.prog) (ds ++ gs)).all (· ≤ reachBytes) = true := hsz0
  have hval : ∀ (j : Nat) t v, Try.f12.params[j]? = some t → args[j]? = some v → Value.okWide Try.prog W .any base t v := hval0
  have hW' := hW
  obtain ⟨p, q, hA0, hV, rfl, hfz, hnd⟩ := hW
  have hA : DataW.TrodAll enc Try.prog W 0 (fun _ => true) true Try.f12.params.toList args.toList ds p := hA0
  rw [Try.params12] at hA hval hsz
  obtain ⟨v0, vs0, d0, ds0, p0, q0, hargs, rfl, rfl, h0, r0⟩ := trodAll_cons hA
  obtain ⟨rfl, rfl, rfl⟩ := trodAll_nil r0
  obtain rfl : args = #[v0] := by cases args; simp_all
  obtain ⟨rfl, rfl⟩ := trodVars_none hV
  have k0 := h0
  have lt0 : ∀ x ∈ p0, x.block < W.heap.size := by obtain ⟨m, hm⟩ := k0; exact DataW.trod_lt m _ _ _ hm
  have wt0 := weights_at hsz (j := 0) (t := 64) rfl rfl
  obtain ⟨ca0, rfl, _⟩ := okWide_struct Try.underlying64 (hval 0 64 v0 rfl rfl)
  obtain ⟨x0, hK0, w0⟩ : ∃ x : S64, k64.K W x ca0.toList ∧ Q64 x := by
    obtain ⟨fuel, hf⟩ := h0
    exact rds64 fuel _ _ (by simpa [Value.cells] using hf) wt0
  obtain ⟨A0_1, c0_1, A0_2, c0_2, eK0, l0_1, g0_1, l0_2, g0_2⟩ := k64_open hK0
  replace eK0 := arr_of eK0
  subst eK0
  clear hA0 hval0 hsz0 hsz
  obtain ⟨k, hp⟩ := Pure.FnExactRefusesGrease x0 w0
  refine (laws_FnExactRefusesGrease.calls k (x0.f0) _ _ (x0.f1) _ _ (x0.f2) (x0.f3) true W g0_1 l0_1 g0_2 l0_2 hp).mono ?_
  rintro e W' ⟨rfl, hd⟩
  have bel : Below W.heap.size W W' := hd
  exact ⟨_, rfl, _, _, _, [], _, [], hW', trodAll_mk1 (shut_bool Try.underlying4 _), (trodAll_cons_mk (Below.trod laidOut (by kernel_rfl) (of_decide_eq_true (by kernel_rfl)) k0 bel lt0) trodAll_mk0), rfl, bel.frame _, fun h => by cases h⟩
theorem over : Rows.fnExactRefusesGreaseRow.holds Try.pinned (OpenSpec.ofChange Rows.fnExactRefusesGreaseSpec) :=
  OpenClaim.holds_of_wide 12 Try.f12 rfl rfl rfl rfl rfl rfl rfl ⟨rfl, rfl, rfl, rfl, rfl⟩ rfl rfl rfl rfl rfl (by kernel_rfl) Try.func12 (by kernel_rfl)
    (of_decide_eq_true (by kernel_rfl)) (by unfold Func.isWrapper; first | (rw [if_pos (by decide +kernel)]; kernel_rfl) | (rw [if_neg (by decide +kernel)]; exact ⟨rfl, rfl⟩))
    (fun os started H enc _ => lifted os started H enc)
theorem proved : Rows.FnExactRefusesGreaseSaid := over
#print axioms proved
end Go.Proofs.Ytdoefkloanpliaa.fnExactRefusesGrease
namespace Go.Proofs.Ytdoefkloanpliaa
/-- The row, under a short name, for the claim. -/
theorem fnExactRefusesGrease_holds : Rows.FnExactRefusesGreaseSaid := fnExactRefusesGrease.proved
end Go.Proofs.Ytdoefkloanpliaa
