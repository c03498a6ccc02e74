/- NextStage and BackStage, of the reference. Condition: the stages are at most 10 to the 12. -/
import Derived.Test.YtlcmkgbabffmeaaMoves
import Derived.Test.YtlcmkgbabffmeaaLim2
import Derived.Test.YtlcmkgbabffmeaaPrint1
set_option linter.unusedSimpArgs false
set_option linter.unusedVariables false
namespace Go.Proofs.Ytlcmkgbabffmeaa.Plain
open Go.RowKit Go.Proofs.YtlcmkgbabffmeaaW.PrintWords Go.Proofs.Ytlcmkgbabffmeaa.Base Go.Proofs.Ytlcmkgbabffmeaa.Print

theorem l26Copied_f (v : Int) (l : List Int) (t : Int) (f : Bool) (hl : l.length ≤ 1000000000000) : spec_l26Copy.f v l t f = some (v, l, t, f) := by
  unfold spec_l26Copy.f
  simp only [Option.bind_some, List.length_nil, List.nil_append]
  rw [if_pos (by omega)]
theorem specNext_v (v : Int) (l : List Int) (t : Int) (f : Bool) (hl : l.length ≤ 1000000000000) : spec_NextStage.fv v l t f = some (v, l, nextAt v l t f, f, goesOn v l t f) := by
  rw [spec_NextStage.fv_eq, l26Copied_f v l t f hl, specIsR_v v l t f hl, w64 (by omega) (by omega)]
  simp only [Option.bind_some, nextAt, goesOn]
  by_cases h : isR v l t = true
  · have := isR_facts h
    rw [w64 (x := t + 1) (by omega) (by omega)]
    simp only [h]
    cases f with
    | true => simp
    | false => by_cases ht : t = (l.length : Int) - 1 <;> simp [ht]
  · have h' : isR v l t = false := by simpa using h
    simp [h']
theorem specBack_v (v : Int) (l : List Int) (t : Int) (f : Bool) (hl : l.length ≤ 1000000000000) : spec_BackStage.fv v l t f = some (v, l, backAt v l t f, backOff v l t f, goesBack v l t f) := by
  rw [spec_BackStage.fv_eq, l26Copied_f v l t f hl, specIsR_v v l t f hl]
  simp only [Option.bind_some, backAt, backOff, goesBack]
  by_cases h : isR v l t = true
  · cases f <;> simp [h]
  · have h' : isR v l t = false := by simpa using h
    cases f <;> simp [h']
end Go.Proofs.Ytlcmkgbabffmeaa.Plain
