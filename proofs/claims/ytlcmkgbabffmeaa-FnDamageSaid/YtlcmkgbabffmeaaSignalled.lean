/- One signal, and many, of the program. Condition: the stages are at most 10 to the 12. -/
import Derived.Test.YtlcmkgbabffmeaaMoves
import Derived.Test.YtlcmkgbabffmeaaLim3
set_option linter.unusedSimpArgs false
set_option linter.unusedVariables false
namespace Go.Proofs.Ytlcmkgbabffmeaa.Plain
open Go.RowKit Go.Proofs.YtlcmkgbabffmeaaW.PrintWords Go.Proofs.Ytlcmkgbabffmeaa.Base Go.Proofs.Ytlcmkgbabffmeaa.Print

/-- Where a rollout stands after one signal. -/
def sigAt (v : Int) (l : List Int) (s : Int × Bool) (x : Int) : Int × Bool := if x = 1 then (nextAt v l s.1 s.2, s.2) else if x = 2 then (backAt v l s.1 s.2, backOff v l s.1 s.2) else s
/-- .. and after many. -/
def sigsAt (v : Int) (l : List Int) (s : Int × Bool) (xs : List Int) : Int × Bool := xs.foldl (sigAt v l) s
theorem signalled_v (v : Int) (l : List Int) (t : Int) (f : Bool) (x : Int) (hl : l.length ≤ 1000000000000) : impl_signalled.fv v l t f x = some (v, l, (sigAt v l (t, f) x).1, (sigAt v l (t, f) x).2) := by
  rw [impl_signalled.fv_eq, implNext_v v l t f hl, implBack_v v l t f hl]
  unfold sigAt
  by_cases h1 : x = 1
  · simp [h1]
  · by_cases h2 : x = 2 <;> simp [h1, h2]
end Go.Proofs.Ytlcmkgbabffmeaa.Plain
