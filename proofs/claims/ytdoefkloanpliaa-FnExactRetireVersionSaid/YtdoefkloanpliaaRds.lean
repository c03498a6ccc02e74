/- The readings of this program's types of arguments, out of what reads as their data. No condition. -/
import Derived.Test.YtdoefkloanpliaaOpen
import Derived.Test.YtdoefkloanpliaaPrint0
import Derived.KernelRfl
namespace Go.Proofs.Ytdoefkloanpliaa.Print
open Go.RowKit Go.Proofs.Ytdoefkloanpliaa.Open Go.Proofs.YtdoefkloanpliaaW.PrintWords Go.ChangeShapes Go.WideShapes
set_option linter.unusedVariables false
set_option linter.unusedSimpArgs false
end Go.Proofs.Ytdoefkloanpliaa.Print
