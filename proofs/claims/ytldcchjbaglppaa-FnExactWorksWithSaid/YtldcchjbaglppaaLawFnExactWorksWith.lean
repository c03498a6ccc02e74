-- Written by a program of this session (printx.py) out of the translation; Lean checks it. The row of the law laws_FnExactWorksWith.
import Derived.Test.YtldcchjbaglppaaRows
import Derived.Test.YtldcchjbaglppaaPrint17
import Derived.Test.YtldcchjbaglppaaRds
import Derived.Test.YtldcchjbaglppaaPureFnExactWorksWith
import Derived.WalkKit
import Derived.ProofKit
import Derived.OpenShut
import Derived.ShutString
import Derived.ChangeOld
import Derived.Below
import Derived.SizedLaws
namespace Go.Proofs.Ytldcchjbaglppaa.fnExactWorksWith
open Go.ChangeShapes Go.WideShapes Go.ChangeAt Go.RowKit Go.Proofs.Ytldcchjbaglppaa.Open Go.Proofs.Ytldcchjbaglppaa.Print Go.Proofs.YtldcchjbaglppaaW.PrintWords
open Go.ChangeMaps (open_string shut_string)
set_option linter.unusedVariables false
theorem own : ownKnob Try.prog.godebug = none := by kernel_rfl
theorem laidOut : laidOutB Try.prog = true := by kernel_rfl
set_option maxRecDepth 100000 in
theorem lifted (os : Os) (started : os.Started) (H : Type) (enc : TypeId × Value → H) :
    ReturnsInHanded {} Try.checked os 4 .any (Rows.fnExactWorksWithSpec.pre6 enc Try.prog Try.f4 Rows.fnExactWorksWithRow.domain false) (Rows.fnExactWorksWithSpec.post enc Try.prog Try.f4 false true false false) := by
  refine returnsInHanded_of_change_sized (C := Try.checked) own started (by kernel_rfl) Try.func4
    (ChangeSpec.witness6 (enc := enc) (C := Try.checked) false ⟨#[], #[.slice none 0 0, .agg #[.int .i64 0, .slice none 0 0, .slice none 0 0]], []⟩ 8 (by kernel_rfl) (by kernel_rfl) (by kernel_rfl) (by kernel_rfl)) ?_
  intro W base args ds gs before hval0 hW hcnd hsz0 _
  have hsz : (DataW.weightsEach Try.prog (Try.f4.params.toList ++ Rows.fnExactWorksWithSpec.plain.varTypes Try.prog) (ds ++ gs)).all (· ≤ reachBytes) = true := hsz0
  have hval : ∀ (j : Nat) t v, Try.f4.params[j]? = some t → args[j]? = some v → Value.okWide Try.prog W .any base t v := hval0
  have hW' := hW
  obtain ⟨p, q, hA0, hV, rfl, hfz, hnd⟩ := hW
  have hA : DataW.TrodAll enc Try.prog W 0 (fun _ => true) true Try.f4.params.toList args.toList ds p := hA0
  rw [Try.params4] at hA hval hsz
  obtain ⟨v0, vs0, d0, ds0, p0, q0, hargs, rfl, rfl, h0, r0⟩ := trodAll_cons hA
  obtain ⟨v1, vs1, d1, ds1, p1, q1, rfl, rfl, rfl, h1, r1⟩ := trodAll_cons r0
  obtain ⟨rfl, rfl, rfl⟩ := trodAll_nil r1
  obtain rfl : args = #[v0, v1] := by cases args; simp_all
  obtain ⟨rfl, rfl⟩ := trodVars_none hV
  have k0 := h0
  have lt0 : ∀ x ∈ p0, x.block < W.heap.size := by obtain ⟨m, hm⟩ := k0; exact DataW.trod_lt m _ _ _ hm
  have wt0 := weights_at hsz (j := 0) (t := 22) rfl rfl
  obtain ⟨a0, len0, cap0, rfl⟩ := okWide_slice Try.underlying22 (hval 0 22 v0 rfl rfl)
  obtain ⟨x0, hK0, w0⟩ : ∃ x : List (S26), (Kd.slice 26 k26).K W x [.slice a0 len0 cap0] ∧ (x.length * 56 ≤ 140737488351232 ∧ ∀ y ∈ x, Q26 y) := by
    obtain ⟨fuel, hf⟩ := h0
    exact (rds_slice Try.underlying22 (by kernel_rfl) (by kernel_rfl) (rds26 (enc := enc) (w := W))) fuel _ _ (by simpa [Value.cells] using hf) wt0
  obtain ⟨A0, c0, eK0, l0, g0⟩ := hK0
  injection eK0 with eK0 _
  injection eK0 with e1_0 e2_0 e3_0
  subst e1_0; subst e2_0; subst e3_0
  have k1 := h1
  have lt1 : ∀ x ∈ p1, x.block < W.heap.size := by obtain ⟨m, hm⟩ := k1; exact DataW.trod_lt m _ _ _ hm
  have wt1 := weights_at hsz (j := 1) (t := 26) rfl rfl
  obtain ⟨ca1, rfl, _⟩ := okWide_struct Try.underlying26 (hval 1 26 v1 rfl rfl)
  obtain ⟨x1, hK1, w1⟩ : ∃ x : S26, k26.K W x ca1.toList ∧ Q26 x := by
    obtain ⟨fuel, hf⟩ := h1
    exact rds26 fuel _ _ (by simpa [Value.cells] using hf) wt1
  obtain ⟨A1_1, c1_1, A1_2, c1_2, eK1, l1_1, g1_1, l1_2, g1_2⟩ := k26_open hK1
  replace eK1 := arr_of eK1
  subst eK1
  clear hA0 hval0 hsz0 hsz
  obtain ⟨k, hp⟩ := Pure.FnExactWorksWith x0 x1 w0 w1
  refine (laws_FnExactWorksWith.calls k _ _ x0 (x1.f0) _ _ (x1.f1) _ _ (x1.f2) true W g0 l0 g1_1 l1_1 g1_2 l1_2 hp).mono ?_
  rintro e W' ⟨rfl, hd⟩
  have bel : Below W.heap.size W W' := hd
  exact ⟨_, rfl, _, _, _, [], _, [], hW', trodAll_mk1 (shut_bool Try.underlying4 _), (trodAll_cons_mk (Below.trod laidOut (by kernel_rfl) (of_decide_eq_true (by kernel_rfl)) k0 bel lt0) (trodAll_cons_mk (Below.trod laidOut (by kernel_rfl) (of_decide_eq_true (by kernel_rfl)) k1 bel lt1) trodAll_mk0)), rfl, bel.frame _, fun h => by cases h⟩
theorem over : Rows.fnExactWorksWithRow.holds Try.pinned (OpenSpec.ofChange Rows.fnExactWorksWithSpec) :=
  OpenClaim.holds_of_wide 4 Try.f4 rfl rfl rfl rfl rfl rfl rfl ⟨rfl, rfl, rfl, rfl, rfl⟩ rfl rfl rfl rfl rfl (by kernel_rfl) Try.func4 (by kernel_rfl)
    (of_decide_eq_true (by kernel_rfl)) (by unfold Func.isWrapper; first | (rw [if_pos (by decide +kernel)]; kernel_rfl) | (rw [if_neg (by decide +kernel)]; exact ⟨rfl, rfl⟩))
    (fun os started H enc _ => lifted os started H enc)
theorem proved : Rows.FnExactWorksWithSaid := over
#print axioms proved
end Go.Proofs.Ytldcchjbaglppaa.fnExactWorksWith
namespace Go.Proofs.Ytldcchjbaglppaa
/-- The row, under a short name, for the claim. -/
theorem fnExactWorksWith_holds : Rows.FnExactWorksWithSaid := fnExactWorksWith.proved
end Go.Proofs.Ytldcchjbaglppaa
