/- FnExactSignalOf: whatever the four numbers, the program's SignalOf and the reference's SignalOf return the same. No condition. -/
import Derived.Test.YtaggmlokldaclaaRange
import Derived.Test.YtaggmlokldaclaaLim10
import Derived.Test.YtaggmlokldaclaaLim2
import Derived.Test.YtaggmlokldaclaaLim1
set_option linter.unusedSimpArgs false
set_option linter.unusedVariables false
namespace Go.Proofs.Ytaggmlokldaclaa.Pure
open Go.RowKit Go.Proofs.YtaggmlokldaclaaW.PrintWords Go.Proofs.Ytaggmlokldaclaa.Base Go.Proofs.Ytaggmlokldaclaa.Print Go.Proofs.Ytaggmlokldaclaa.Plain

/-- The signal of counts that can be counts. -/
def sigIn (x0 x1 x2 x3 : Int) : Int :=
  if wrap64 (100 * x1) > wrap64 (x3 * x2) ∧ wrap64 (100 * x1) > wrap64 (x3 * wrap64 (x0 + x1)) then 2
  else if wrap64 (x0 + x1) < x2 then 0
  else if wrap64 (100 * x1) ≤ wrap64 (x3 * wrap64 (x0 + x1)) then 1 else 2
/-- The signal, of whatever numbers. -/
def sigOf (x0 x1 x2 x3 : Int) : Int := if inR 0 10000 x0 && (inR 0 10000 x1 && (inR 1 10000 x2 && inR 0 100 x3)) then sigIn x0 x1 x2 x3 else 0

theorem spec_j0 (x0 x1 x2 x3 : Int) (b : Bool) : spec_SignalOf.j0v x0 x1 x2 x3 b = some (if b then 0 else sigIn x0 x1 x2 x3) := by
  rw [spec_SignalOf.j0v_eq]
  cases b with
  | true => rfl
  | false =>
    rw [if_neg (by simp)]
    simp only [spec_SignalOf.j1v_eq, sigIn]
    by_cases h1 : wrap64 (100 * x1) > wrap64 (x3 * x2)
    · by_cases h2 : wrap64 (100 * x1) > wrap64 (x3 * wrap64 (x0 + x1))
      · simp [h1, h2]
      · simp only [h1, h2, if_true, decide_false, Bool.false_eq_true, if_false, true_and, and_false]
        by_cases h3 : wrap64 (x0 + x1) < x2
        · simp [h3]
        · by_cases h4 : wrap64 (100 * x1) ≤ wrap64 (x3 * wrap64 (x0 + x1)) <;> simp [h3, h4]
    · simp only [h1, if_false, Bool.false_eq_true, false_and]
      by_cases h3 : wrap64 (x0 + x1) < x2
      · simp [h3]
      · by_cases h4 : wrap64 (100 * x1) ≤ wrap64 (x3 * wrap64 (x0 + x1)) <;> simp [h3, h4]
theorem impl_j0 (x0 x1 x2 x3 : Int) (b : Bool) : impl_SignalOf.j0v x0 x1 x2 x3 b = some (if b then 0 else sigIn x0 x1 x2 x3) := by
  rw [← spec_j0, spec_SignalOf.j0v_eq, impl_SignalOf.j0v_eq]
  simp only [spec_SignalOf.j1v_eq, impl_SignalOf.j1v_eq]
theorem spec_v (x0 x1 x2 x3 : Int) : spec_SignalOf.fv x0 x1 x2 x3 = some (sigOf x0 x1 x2 x3) := by
  rw [spec_SignalOf.fv_eq]
  simp only [l1In_f, Option.bind_some, spec_j0, sigOf]
  cases inR 0 10000 x0 with
  | false => simp
  | true =>
    cases inR 0 10000 x1 with
    | false => simp
    | true =>
      cases inR 1 10000 x2 with
      | false => simp
      | true => cases inR 0 100 x3 <;> simp
theorem impl_v (x0 x1 x2 x3 : Int) : impl_SignalOf.fv x0 x1 x2 x3 = some (sigOf x0 x1 x2 x3) := by
  have h : inR 1 10000 x2 = (inR 0 10000 x2 && !decide (x2 = 0)) := by
    rw [Bool.eq_iff_iff]
    simp only [inR, Bool.and_eq_true, decide_eq_true_eq, Bool.not_eq_true', decide_eq_false_iff_not]
    omega
  rw [impl_SignalOf.fv_eq]
  simp only [areNumbers_v [x0, x1, x2] 0 10000 (by simp), inRange_f, Option.bind_some, impl_j0, sigOf, h, List.all_cons, List.all_nil, Bool.and_true]
  cases inR 0 10000 x0 with
  | false => simp
  | true =>
    cases inR 0 10000 x1 with
    | false => simp
    | true =>
      cases inR 0 10000 x2 with
      | false => simp
      | true => by_cases h0 : x2 = 0 <;> cases inR 0 100 x3 <;> simp [h0]

theorem FnExactSignalOf : laws_FnExactSignalOf.Pure := by
  intro a0 a1 a2 a3 _ _ _ _
  refine ends (g := fun k => laws_FnExactSignalOf.f k a0 a1 a2 a3) ?_
  show laws_FnExactSignalOf.fv a0 a1 a2 a3 = some true
  rw [laws_FnExactSignalOf.fv_eq, spec_v, impl_v]
  simp
end Go.Proofs.Ytaggmlokldaclaa.Pure
