-- Written by a program of this session (prune.py): the words that the kit's print laid for this seat, as far as its texts use them; Lean checks it.
import Derived.Test.YtibmehnippjakaaGreatWInv
import Derived.Test.YtibmehnippjakaaGreatWFootNe
namespace Go.Proofs.YtibmehnippjakaaGreatW.PrintWords
open Go.RowKit
end Go.Proofs.YtibmehnippjakaaGreatW.PrintWords
namespace Go.Proofs.YtibmehnippjakaaGreatW.PrintLast
section
variable {ops : Array Oper} {a : Act} {o og : Oper} {g : Nat} {t : Tmp} {u : Bool}
end
end Go.Proofs.YtibmehnippjakaaGreatW.PrintLast
