/- How many lists reach the server, and by which version. No program. No condition. -/
import Derived.Test.YtdoefkloanpliaaVersions
set_option linter.unusedSimpArgs false
set_option linter.unusedVariables false
namespace Go.Proofs.Ytdoefkloanpliaa.Plain
open Go.RowKit Go.Proofs.YtdoefkloanpliaaW.PrintWords Go.Proofs.Ytdoefkloanpliaa.Base Go.Proofs.Ytdoefkloanpliaa.Print

/-- How many lists have v as their best version with the server. -/
def uses (s : List Int) (v : Int) : List (List Int) → Int
  | [] => 0
  | l :: r => (if best s l = v then 1 else 0) + uses s v r
/-- Does none fail? -/
def allR (s : List Int) (r : List (List Int)) : Bool := r.all (fun l => decide (best s l ≠ 0))
theorem uses_in (s : List Int) (v : Int) (r : List (List Int)) : 0 ≤ uses s v r ∧ uses s v r ≤ r.length := by
  induction r with
  | nil => simp [uses]
  | cons l r ih =>
    simp only [uses, List.length_cons]
    split <;> omega
end Go.Proofs.Ytdoefkloanpliaa.Plain
