/- Ranges, of the program and of the reference. No condition. -/
import Derived.Test.YtdoefkloanpliaaPlain
import Derived.Test.YtdoefkloanpliaaPrint2
import Derived.Test.YtdoefkloanpliaaPrint1
set_option linter.unusedSimpArgs false
set_option linter.unusedVariables false
namespace Go.Proofs.Ytdoefkloanpliaa.Plain
open Go.RowKit Go.Proofs.YtdoefkloanpliaaW.PrintWords Go.Proofs.Ytdoefkloanpliaa.Base Go.Proofs.Ytdoefkloanpliaa.Print

/-- lo ≤ n ≤ hi -/
def inR (lo hi n : Int) : Bool := decide (lo ≤ n) && decide (n ≤ hi)
theorem inR_true {lo hi n : Int} : inR lo hi n = true ↔ lo ≤ n ∧ n ≤ hi := by simp [inR]
theorem inR_false {lo hi n : Int} : inR lo hi n = false ↔ n < lo ∨ hi < n := by
  simp only [inR, Bool.and_eq_false_iff, decide_eq_false_iff_not]
  omega
theorem inRange_f (n lo hi : Int) : impl_InRange.f n lo hi = some (inR lo hi n) := by
  unfold impl_InRange.f inR
  by_cases h : lo ≤ n <;> simp [h]
theorem l1In_f (n lo hi : Int) : spec_l1In.f n lo hi = some (inR lo hi n) := by
  unfold spec_l1In.f inR
  by_cases h : lo ≤ n <;> simp [h]

end Go.Proofs.Ytdoefkloanpliaa.Plain
