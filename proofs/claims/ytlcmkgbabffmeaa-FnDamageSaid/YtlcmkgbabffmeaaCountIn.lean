/- CountIn and IsIn, of the program. Condition: the stages are at most 10 to the 12. -/
import Derived.Test.YtlcmkgbabffmeaaRoll
import Derived.Test.YtlcmkgbabffmeaaCDiv
import Derived.Test.YtlcmkgbabffmeaaLim2
set_option linter.unusedSimpArgs false
set_option linter.unusedVariables false
namespace Go.Proofs.Ytlcmkgbabffmeaa.Plain
open Go.RowKit Go.Proofs.YtlcmkgbabffmeaaW.PrintWords Go.Proofs.Ytlcmkgbabffmeaa.Base Go.Proofs.Ytlcmkgbabffmeaa.Print

/-- How many of n a rollout reaches. -/
def cnt (v : Int) (l : List Int) (t : Int) (f : Bool) (n : Int) : Int := if isR v l t && (!f && inR 0 10000 n) then cdiv (wrap64 (n * rd l t)) 100 else 0
theorem implCountIn_v (v : Int) (l : List Int) (t : Int) (f : Bool) (n : Int) (hl : l.length ≤ 1000000000000) : impl_CountIn.fv v l t f n = some (cnt v l t f n) := by
  rw [impl_CountIn.fv_eq, implIsR_v v l t f hl, inRange_f, implCeilDiv_f]
  simp only [Option.bind_some, cnt]
  cases h : isR v l t with
  | false => simp
  | true =>
    have := isR_facts h
    rw [if_pos (show (0 : Int) ≤ t by omega), if_pos (show t < (l.length : Int) by omega)]
    cases f <;> cases inR 0 10000 n <;> simp
/-- Is the endpoint i of n in? -/
def isIn (v : Int) (l : List Int) (t : Int) (f : Bool) (i n : Int) : Bool := decide (0 ≤ i) && (decide (i < n) && decide (i < cnt v l t f n))
theorem implIsIn_v (v : Int) (l : List Int) (t : Int) (f : Bool) (i n : Int) (hl : l.length ≤ 1000000000000) : impl_IsIn.fv v l t f i n = some (isIn v l t f i n) := by
  rw [impl_IsIn.fv_eq, implCountIn_v v l t f n hl]
  unfold isIn
  by_cases h0 : i ≥ 0
  · by_cases h1 : i < n <;> simp [h0, h1]
  · simp [h0]
end Go.Proofs.Ytlcmkgbabffmeaa.Plain
