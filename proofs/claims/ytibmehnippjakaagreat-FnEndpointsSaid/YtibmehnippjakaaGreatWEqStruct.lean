-- Written by a program of this session (prune.py): the words that the kit's print laid for this seat, as far as its texts use them; Lean checks it.
import Derived.Test.YtibmehnippjakaaGreatWWords
import Derived.Laws.StructEq
namespace Go.Proofs.YtibmehnippjakaaGreatW.PrintWords
open Go.RowKit
section
variable {P : Program} {d : Nat} {xs ys : Array Value} {f : Field} {fs : List Field} {a b : Value} {r s : Bool} {w : World}
end
end Go.Proofs.YtibmehnippjakaaGreatW.PrintWords
