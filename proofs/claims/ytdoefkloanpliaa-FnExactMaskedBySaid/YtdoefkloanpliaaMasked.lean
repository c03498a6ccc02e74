/- How many dials went well and how many badly. No program. No condition. -/
import Derived.Test.YtdoefkloanpliaaVersions
import Derived.Test.YtdoefkloanpliaaPrint0
set_option linter.unusedSimpArgs false
set_option linter.unusedVariables false
namespace Go.Proofs.Ytdoefkloanpliaa.Plain
open Go.RowKit Go.Proofs.YtdoefkloanpliaaW.PrintWords Go.Proofs.Ytdoefkloanpliaa.Base Go.Proofs.Ytdoefkloanpliaa.Print

def badD (v : Int) (d : S97) : Bool := !d.f0.f0 || (decide (d.f0.f1 < v) && mem d.f2 v)
def masks (v : Int) : Int → Int → List S97 → Int × Int
  | g, b, [] => (g, b)
  | g, b, d :: l => if badD v d then masks v g (wrap64 (b + 1)) l else if d.f0.f1 ≥ v then masks v (wrap64 (g + 1)) b l else masks v g b l
end Go.Proofs.Ytdoefkloanpliaa.Plain
