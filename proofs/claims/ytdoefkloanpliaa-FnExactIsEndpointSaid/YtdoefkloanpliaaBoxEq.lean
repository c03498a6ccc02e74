/- When two boxes, and two paths, are the same. No program. No condition. -/
import Derived.Test.YtdoefkloanpliaaPlain
import Derived.Test.YtdoefkloanpliaaPrint0
set_option linter.unusedSimpArgs false
set_option linter.unusedVariables false
namespace Go.Proofs.Ytdoefkloanpliaa.Plain
open Go.RowKit Go.Proofs.YtdoefkloanpliaaW.PrintWords Go.Proofs.Ytdoefkloanpliaa.Base Go.Proofs.Ytdoefkloanpliaa.Print

theorem rdBox_mid (pre suf : List S67) (x : S67) : rd_T67 (pre ++ x :: suf) (pre.length : Int) = x := by simp [rd_T67]
/-- Its rows are not too long. -/
def okB (b : S67) : Prop := b.f1.length ≤ 1000000000000 ∧ b.f2.length ≤ 1000000000000
def eqB (a b : S67) : Bool := decide (a.f0 = b.f0) && (decide (a.f1 = b.f1) && (decide (a.f2 = b.f2) && (a.f3 == b.f3)))
def eqBs : List S67 → List S67 → Bool
  | [], [] => true
  | a :: l, b :: m => eqB a b && eqBs l m
  | _, _ => false
theorem eqBs_len {l m : List S67} : l.length ≠ m.length → eqBs l m = false := by
  induction l generalizing m with
  | nil =>
    intro h
    cases m with
    | nil => exact absurd rfl h
    | cons b m => rfl
  | cons a l ih =>
    intro h
    cases m with
    | nil => rfl
    | cons b m =>
      simp only [eqBs]
      rw [ih (by simpa using h), Bool.and_false]
end Go.Proofs.Ytdoefkloanpliaa.Plain
