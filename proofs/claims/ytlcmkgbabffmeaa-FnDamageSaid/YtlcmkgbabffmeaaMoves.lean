/- NextStage and BackStage, of the program. Condition: the stages are at most 10 to the 12. -/
import Derived.Test.YtlcmkgbabffmeaaRoll
import Derived.Test.YtlcmkgbabffmeaaLim2
import Derived.Test.YtlcmkgbabffmeaaPrint2
set_option linter.unusedSimpArgs false
set_option linter.unusedVariables false
namespace Go.Proofs.Ytlcmkgbabffmeaa.Plain
open Go.RowKit Go.Proofs.YtlcmkgbabffmeaaW.PrintWords Go.Proofs.Ytlcmkgbabffmeaa.Base Go.Proofs.Ytlcmkgbabffmeaa.Print

theorem copyRollout_f (v : Int) (l : List Int) (t : Int) (f : Bool) (hl : l.length ≤ 1000000000000) : impl_copyRollout.f v l t f = some (v, l, t, f) := by
  unfold impl_copyRollout.f
  simp only [Option.bind_some, List.length_nil, List.nil_append]
  rw [if_pos (by omega)]
/-- Does a rollout go on? -/
def goesOn (v : Int) (l : List Int) (t : Int) (f : Bool) : Bool := isR v l t && (!f && !decide (t = (l.length : Int) - 1))
/-- Where the next stage is. -/
def nextAt (v : Int) (l : List Int) (t : Int) (f : Bool) : Int := if goesOn v l t f then t + 1 else t
def goesBack (v : Int) (l : List Int) (t : Int) (f : Bool) : Bool := isR v l t && !f
def backAt (v : Int) (l : List Int) (t : Int) (f : Bool) : Int := if goesBack v l t f then 0 else t
def backOff (v : Int) (l : List Int) (t : Int) (f : Bool) : Bool := f || goesBack v l t f
theorem implNext_v (v : Int) (l : List Int) (t : Int) (f : Bool) (hl : l.length ≤ 1000000000000) : impl_NextStage.fv v l t f = some (v, l, nextAt v l t f, f, goesOn v l t f) := by
  rw [impl_NextStage.fv_eq, copyRollout_f v l t f hl, implIsR_v v l t f hl, w64 (by omega) (by omega)]
  simp only [Option.bind_some, nextAt, goesOn]
  by_cases h : isR v l t = true
  · have := isR_facts h
    rw [w64 (x := t + 1) (by omega) (by omega)]
    simp only [h]
    cases f with
    | true => simp
    | false => by_cases ht : t = (l.length : Int) - 1 <;> simp [ht]
  · have h' : isR v l t = false := by simpa using h
    simp [h']
theorem implBack_v (v : Int) (l : List Int) (t : Int) (f : Bool) (hl : l.length ≤ 1000000000000) : impl_BackStage.fv v l t f = some (v, l, backAt v l t f, backOff v l t f, goesBack v l t f) := by
  rw [impl_BackStage.fv_eq, copyRollout_f v l t f hl, implIsR_v v l t f hl]
  simp only [Option.bind_some, backAt, backOff, goesBack]
  by_cases h : isR v l t = true
  · cases f <;> simp [h]
  · have h' : isR v l t = false := by simpa using h
    cases f <;> simp [h']
end Go.Proofs.Ytlcmkgbabffmeaa.Plain
