-- Written by a program of this session (printx.py) out of the translation; Lean checks it. The row of the law laws_FnExactEqualWorlds.
import Derived.Test.YtchnkakjjbfklaaRows
import Derived.Test.YtchnkakjjbfklaaPrint13
import Derived.Test.YtchnkakjjbfklaaRds
import Derived.Test.YtchnkakjjbfklaaPureFnExactEqualWorlds
import Derived.WalkKit
import Derived.ProofKit
import Derived.OpenShut
import Derived.ShutString
import Derived.ChangeOld
import Derived.Below
import Derived.SizedLaws
namespace Go.Proofs.Ytchnkakjjbfklaa.fnExactEqualWorlds
open Go.ChangeShapes Go.WideShapes Go.ChangeAt Go.RowKit Go.Proofs.Ytchnkakjjbfklaa.Open Go.Proofs.Ytchnkakjjbfklaa.Print Go.Proofs.YtchnkakjjbfklaaW.PrintWords
open Go.ChangeMaps (open_string shut_string)
set_option linter.unusedVariables false
theorem own : ownKnob Try.prog.godebug = none := by kernel_rfl
theorem laidOut : laidOutB Try.prog = true := by kernel_rfl
set_option maxRecDepth 100000 in
theorem lifted (os : Os) (started : os.Started) (H : Type) (enc : TypeId × Value → H) :
    ReturnsInHanded {} Try.checked os 3 .any (Rows.fnExactEqualWorldsSpec.pre6 enc Try.prog Try.f3 Rows.fnExactEqualWorldsRow.domain false) (Rows.fnExactEqualWorldsSpec.post enc Try.prog Try.f3 false true false false) := by
  refine returnsInHanded_of_change_sized (C := Try.checked) own started (by kernel_rfl) Try.func3
    (ChangeSpec.witness6 (enc := enc) (C := Try.checked) false ⟨#[], #[.agg #[.slice none 0 0, .slice none 0 0, .int .i64 0, .slice none 0 0, .int .i64 0, .slice none 0 0, .int .i64 0, .bool false, .int .i64 0, .int .i64 0, .slice none 0 0, .slice none 0 0, .int .i64 0, .int .i64 0, .int .i64 0], .agg #[.slice none 0 0, .slice none 0 0, .int .i64 0, .slice none 0 0, .int .i64 0, .slice none 0 0, .int .i64 0, .bool false, .int .i64 0, .int .i64 0, .slice none 0 0, .slice none 0 0, .int .i64 0, .int .i64 0, .int .i64 0]], []⟩ 8 (by kernel_rfl) (by kernel_rfl) (by kernel_rfl) (by kernel_rfl)) ?_
  intro W base args ds gs before hval0 hW hcnd hsz0 _
  have hsz : (DataW.weightsEach Try.prog (Try.f3.params.toList ++ Rows.fnExactEqualWorldsSpec.plain.varTypes Try.prog) (ds ++ gs)).all (· ≤ reachBytes) = true := hsz0
  have hval : ∀ (j : Nat) t v, Try.f3.params[j]? = some t → args[j]? = some v → Value.okWide Try.prog W .any base t v := hval0
  have hW' := hW
  obtain ⟨p, q, hA0, hV, rfl, hfz, hnd⟩ := hW
  have hA : DataW.TrodAll enc Try.prog W 0 (fun _ => true) true Try.f3.params.toList args.toList ds p := hA0
  rw [Try.params3] at hA hval hsz
  obtain ⟨v0, vs0, d0, ds0, p0, q0, hargs, rfl, rfl, h0, r0⟩ := trodAll_cons hA
  obtain ⟨v1, vs1, d1, ds1, p1, q1, rfl, rfl, rfl, h1, r1⟩ := trodAll_cons r0
  obtain ⟨rfl, rfl, rfl⟩ := trodAll_nil r1
  obtain rfl : args = #[v0, v1] := by cases args; simp_all
  obtain ⟨rfl, rfl⟩ := trodVars_none hV
  have k0 := h0
  have lt0 : ∀ x ∈ p0, x.block < W.heap.size := by obtain ⟨m, hm⟩ := k0; exact DataW.trod_lt m _ _ _ hm
  have wt0 := weights_at hsz (j := 0) (t := 29) rfl rfl
  obtain ⟨ca0, rfl, _⟩ := okWide_struct Try.underlying29 (hval 0 29 v0 rfl rfl)
  obtain ⟨x0, hK0, w0⟩ : ∃ x : S29, k29.K W x ca0.toList ∧ Q29 x := by
    obtain ⟨fuel, hf⟩ := h0
    exact rds29 fuel _ _ (by simpa [Value.cells] using hf) wt0
  obtain ⟨A0_0, c0_0, A0_1, c0_1, A0_3, c0_3, A0_5, c0_5, A0_10, c0_10, A0_11, c0_11, eK0, l0_0, g0_0, l0_1, g0_1, l0_3, g0_3, l0_5, g0_5, l0_10, g0_10, l0_11, g0_11⟩ := k29_open hK0
  replace eK0 := arr_of eK0
  subst eK0
  have k1 := h1
  have lt1 : ∀ x ∈ p1, x.block < W.heap.size := by obtain ⟨m, hm⟩ := k1; exact DataW.trod_lt m _ _ _ hm
  have wt1 := weights_at hsz (j := 1) (t := 29) rfl rfl
  obtain ⟨ca1, rfl, _⟩ := okWide_struct Try.underlying29 (hval 1 29 v1 rfl rfl)
  obtain ⟨x1, hK1, w1⟩ : ∃ x : S29, k29.K W x ca1.toList ∧ Q29 x := by
    obtain ⟨fuel, hf⟩ := h1
    exact rds29 fuel _ _ (by simpa [Value.cells] using hf) wt1
  obtain ⟨A1_0, c1_0, A1_1, c1_1, A1_3, c1_3, A1_5, c1_5, A1_10, c1_10, A1_11, c1_11, eK1, l1_0, g1_0, l1_1, g1_1, l1_3, g1_3, l1_5, g1_5, l1_10, g1_10, l1_11, g1_11⟩ := k29_open hK1
  replace eK1 := arr_of eK1
  subst eK1
  clear hA0 hval0 hsz0 hsz
  obtain ⟨k, hp⟩ := Pure.FnExactEqualWorlds x0 x1 w0 w1
  refine (laws_FnExactEqualWorlds.calls k _ _ (x0.f0) _ _ (x0.f1) (x0.f2) _ _ (x0.f3) (x0.f4.f0) _ _ (x0.f4.f1) (x0.f4.f2) (x0.f4.f3) (x0.f5) (x0.f6) _ _ (x0.f7) _ _ (x0.f8) (x0.f9) (x0.f10) (x0.f11) _ _ (x1.f0) _ _ (x1.f1) (x1.f2) _ _ (x1.f3) (x1.f4.f0) _ _ (x1.f4.f1) (x1.f4.f2) (x1.f4.f3) (x1.f5) (x1.f6) _ _ (x1.f7) _ _ (x1.f8) (x1.f9) (x1.f10) (x1.f11) true W g0_0 l0_0 g0_1 l0_1 g0_3 l0_3 g0_5 l0_5 g0_10 l0_10 g0_11 l0_11 g1_0 l1_0 g1_1 l1_1 g1_3 l1_3 g1_5 l1_5 g1_10 l1_10 g1_11 l1_11 hp).mono ?_
  rintro e W' ⟨rfl, hd⟩
  have bel : Below W.heap.size W W' := hd
  exact ⟨_, rfl, _, _, _, [], _, [], hW', trodAll_mk1 (shut_bool Try.underlying4 _), (trodAll_cons_mk (Below.trod laidOut (by kernel_rfl) (of_decide_eq_true (by kernel_rfl)) k0 bel lt0) (trodAll_cons_mk (Below.trod laidOut (by kernel_rfl) (of_decide_eq_true (by kernel_rfl)) k1 bel lt1) trodAll_mk0)), rfl, bel.frame _, fun h => by cases h⟩
theorem over : Rows.fnExactEqualWorldsRow.holds Try.pinned (OpenSpec.ofChange Rows.fnExactEqualWorldsSpec) :=
  OpenClaim.holds_of_wide 3 Try.f3 rfl rfl rfl rfl rfl rfl rfl ⟨rfl, rfl, rfl, rfl, rfl⟩ rfl rfl rfl rfl rfl (by kernel_rfl) Try.func3 (by kernel_rfl)
    (of_decide_eq_true (by kernel_rfl)) (by unfold Func.isWrapper; first | (rw [if_pos (by decide +kernel)]; kernel_rfl) | (rw [if_neg (by decide +kernel)]; exact ⟨rfl, rfl⟩))
    (fun os started H enc _ => lifted os started H enc)
theorem proved : Rows.FnExactEqualWorldsSaid := over
#print axioms proved
end Go.Proofs.Ytchnkakjjbfklaa.fnExactEqualWorlds
namespace Go.Proofs.Ytchnkakjjbfklaa
/-- The row, under a short name, for the claim. -/
theorem fnExactEqualWorlds_holds : Rows.FnExactEqualWorldsSaid := fnExactEqualWorlds.proved
end Go.Proofs.Ytchnkakjjbfklaa
