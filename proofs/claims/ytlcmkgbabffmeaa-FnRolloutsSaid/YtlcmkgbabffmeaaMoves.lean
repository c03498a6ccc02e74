/- NextStage and BackStage, of the program and of the reference. Condition: the stages are at most 10 to the 12. -/
import Derived.Test.YtlcmkgbabffmeaaRoll
import Derived.Test.YtlcmkgbabffmeaaMarks
import Derived.Test.YtlcmkgbabffmeaaLim2
import Derived.Test.YtlcmkgbabffmeaaLim3
import Derived.Test.YtlcmkgbabffmeaaPrint2
import Derived.Test.YtlcmkgbabffmeaaLim1
set_option linter.unusedSimpArgs false
set_option linter.unusedVariables false
namespace Go.Proofs.Ytlcmkgbabffmeaa.Plain
open Go.RowKit Go.Proofs.YtlcmkgbabffmeaaW.PrintWords Go.Proofs.Ytlcmkgbabffmeaa.Base Go.Proofs.Ytlcmkgbabffmeaa.Print

theorem copyRollout_f (v : Int) (l : List Int) (t : Int) (f : Bool) (hl : l.length ≤ 1000000000000) : impl_copyRollout.f v l t f = some (v, l, t, f) := by
  unfold impl_copyRollout.f
  simp only [Option.bind_some, List.length_nil, List.nil_append]
  rw [if_pos (by omega)]
theorem l26Copied_f (v : Int) (l : List Int) (t : Int) (f : Bool) (hl : l.length ≤ 1000000000000) : spec_l26Copy.f v l t f = some (v, l, t, f) := by
  unfold spec_l26Copy.f
  simp only [Option.bind_some, List.length_nil, List.nil_append]
  rw [if_pos (by omega)]
/-- Does a rollout go on? -/
def goesOn (v : Int) (l : List Int) (t : Int) (f : Bool) : Bool := isR v l t && (!f && !decide (t = (l.length : Int) - 1))
/-- Where the next stage is. -/
def nextAt (v : Int) (l : List Int) (t : Int) (f : Bool) : Int := if goesOn v l t f then t + 1 else t
def goesBack (v : Int) (l : List Int) (t : Int) (f : Bool) : Bool := isR v l t && !f
def backAt (v : Int) (l : List Int) (t : Int) (f : Bool) : Int := if goesBack v l t f then 0 else t
def backOff (v : Int) (l : List Int) (t : Int) (f : Bool) : Bool := f || goesBack v l t f
theorem specNext_v (v : Int) (l : List Int) (t : Int) (f : Bool) (hl : l.length ≤ 1000000000000) : spec_NextStage.fv v l t f = some (v, l, nextAt v l t f, f, goesOn v l t f) := by
  rw [spec_NextStage.fv_eq, l26Copied_f v l t f hl, specIsR_v v l t f hl, w64 (by omega) (by omega)]
  simp only [Option.bind_some, nextAt, goesOn]
  by_cases h : isR v l t = true
  · have := isR_facts h
    rw [w64 (x := t + 1) (by omega) (by omega)]
    simp only [h]
    cases f with
    | true => simp
    | false => by_cases ht : t = (l.length : Int) - 1 <;> simp [ht]
  · have h' : isR v l t = false := by simpa using h
    simp [h']
theorem implNext_v (v : Int) (l : List Int) (t : Int) (f : Bool) (hl : l.length ≤ 1000000000000) : impl_NextStage.fv v l t f = some (v, l, nextAt v l t f, f, goesOn v l t f) := by
  rw [impl_NextStage.fv_eq, copyRollout_f v l t f hl, implIsR_v v l t f hl, w64 (by omega) (by omega)]
  simp only [Option.bind_some, nextAt, goesOn]
  by_cases h : isR v l t = true
  · have := isR_facts h
    rw [w64 (x := t + 1) (by omega) (by omega)]
    simp only [h]
    cases f with
    | true => simp
    | false => by_cases ht : t = (l.length : Int) - 1 <;> simp [ht]
  · have h' : isR v l t = false := by simpa using h
    simp [h']
theorem specBack_v (v : Int) (l : List Int) (t : Int) (f : Bool) (hl : l.length ≤ 1000000000000) : spec_BackStage.fv v l t f = some (v, l, backAt v l t f, backOff v l t f, goesBack v l t f) := by
  rw [spec_BackStage.fv_eq, l26Copied_f v l t f hl, specIsR_v v l t f hl]
  simp only [Option.bind_some, backAt, backOff, goesBack]
  by_cases h : isR v l t = true
  · cases f <;> simp [h]
  · have h' : isR v l t = false := by simpa using h
    cases f <;> simp [h']
theorem implBack_v (v : Int) (l : List Int) (t : Int) (f : Bool) (hl : l.length ≤ 1000000000000) : impl_BackStage.fv v l t f = some (v, l, backAt v l t f, backOff v l t f, goesBack v l t f) := by
  rw [impl_BackStage.fv_eq, copyRollout_f v l t f hl, implIsR_v v l t f hl]
  simp only [Option.bind_some, backAt, backOff, goesBack]
  by_cases h : isR v l t = true
  · cases f <;> simp [h]
  · have h' : isR v l t = false := by simpa using h
    cases f <;> simp [h']
theorem markRollout_v (v : Int) (l : List Int) (t : Int) (f : Bool) (a : Int) (hl : l.length ≤ 1000000000000) (h0 : 0 ≤ a) (ha : a ≤ 3000000000000000000) : laws_markRollout.fv v l t f a = some (a + l.length, marks a l.length) := by
  rw [laws_markRollout.fv_eq, markIntS_v l a hl h0 ha]
  rfl
theorem heldRollout_v (v : Int) (n : Nat) (t : Int) (f : Bool) (a : Int) (hl : n ≤ 1000000000000) (h0 : 0 ≤ a) (ha : a ≤ 3000000000000000000) : laws_heldRollout.fv v (marks a n) t f a = some (a + n) := by
  rw [laws_heldRollout.fv_eq, heldIntS_v n a hl h0 ha]
  simp only [Option.bind_some]
  rw [if_neg (by omega)]
end Go.Proofs.Ytlcmkgbabffmeaa.Plain
