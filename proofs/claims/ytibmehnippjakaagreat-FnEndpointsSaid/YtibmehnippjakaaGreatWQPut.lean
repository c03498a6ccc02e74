-- Written by a program of this session (prune.py): the words that the kit's print laid for this seat, as far as its texts use them; Lean checks it.
import Derived.Test.YtibmehnippjakaaGreatWWords
import Derived.Test.YtibmehnippjakaaGreatWLast
namespace Go.Proofs.YtibmehnippjakaaGreatW.PrintWords
open Go.RowKit
namespace Kd
section
variable {α : Type} {d : Kd α} {e base g o n cap : Nat} {ok okp : Nat → Prop} {w W : World} {v : Value} {xs : List α}
end
section
variable {α : Type} {enc : α → Value} {h1 : ∀ x, (enc x).oneCell' = true} {e base g o n cap : Nat} {ok : Nat → Prop} {W : World} {xs : List α}
end
end Kd
end Go.Proofs.YtibmehnippjakaaGreatW.PrintWords
