/- PassedStages, of the reference. Condition: the stages and the signals are at most 10 to the 12. -/
import Derived.Test.YtlcmkgbabffmeaaPassed
import Derived.Test.YtlcmkgbabffmeaaSpecAfter
import Derived.Test.YtlcmkgbabffmeaaLim2
import Derived.Test.YtlcmkgbabffmeaaPrint2
import Derived.Test.YtlcmkgbabffmeaaWMore
set_option linter.unusedSimpArgs false
set_option linter.unusedVariables false
namespace Go.Proofs.Ytlcmkgbabffmeaa.Plain
open Go.RowKit Go.Proofs.YtlcmkgbabffmeaaW.PrintWords Go.Proofs.YtlcmkgbabffmeaaW.PrintMore Go.Proofs.Ytlcmkgbabffmeaa.Base Go.Proofs.Ytlcmkgbabffmeaa.Print

theorem specMax_mx (a b : Int) : spec_Max.f a b = some (mx a b) := by
  unfold spec_Max.f mx
  by_cases h : b > a
  · rw [if_pos h, if_pos h]
  · rw [if_neg h, if_neg h]
def topS (v : Int) (l : List Int) : Int × Bool → Int → List Int → Int
  | _, h, [] => h
  | s, h, x :: xs => topS v l (sigAt v l s x) (mx h ((sigAt v l s x).1 + 1)) xs
theorem topS_topF (v : Int) (l : List Int) (xs : List Int) : ∀ (s : Int × Bool) (h : Int), topS v l s (h + 1) xs = topF v l s h xs + 1 := by
  induction xs with
  | nil =>
    intro s h
    rfl
  | cons x xs ih =>
    intro s h
    have e : mx (h + 1) ((sigAt v l s x).1 + 1) = mx h (sigAt v l s x).1 + 1 := by
      unfold mx
      split <;> split <;> omega
    rw [topS, topF, e, ih]
theorem specPassed_l0 (v : Int) (l : List Int) (t : Int) (f : Bool) (hl : l.length ≤ 1000000000000) (ht : isR v l t = true) (suf : List Int) : ∀ (pre : List Int) (h : Int), (pre ++ suf).length ≤ 1000000000000 →
    spec_PassedStages.l0v (pre ++ suf) h (pre.length : Int) v l t f = some (topS v l (sigsAt v l (t, f) pre) (mx h ((sigsAt v l (t, f) pre).1 + 1)) suf) := by
  induction suf with
  | nil =>
    intro pre h hx
    have hr := isR_facts (isR_sigs pre (t, f) ht)
    have hp : pre.length ≤ 1000000000000 := by simpa using hx
    rw [spec_PassedStages.l0v_eq, if_pos (by simp), if_pos (by omega), Int.toNat_natCast, List.take_left, specAfter_v v l t f pre hl hp]
    simp only [Option.bind_some, specMax_mx]
    rw [w64 (x := (sigsAt v l (t, f) pre).1 + 1) (by omega) (by omega), w64 (x := (pre.length : Int) + 1) (by omega) (by omega), spec_PassedStages.l0v_eq, if_neg (by simp only [List.append_nil]; omega)]
    rfl
  | cons x suf ih =>
    intro pre h hx
    have hr := isR_facts (isR_sigs pre (t, f) ht)
    have hn : pre.length < (pre ++ x :: suf).length := by simp
    have hp : pre.length ≤ 1000000000000 := by omega
    rw [spec_PassedStages.l0v_eq, if_pos (by omega), if_pos (by omega), Int.toNat_natCast, List.take_left, specAfter_v v l t f pre hl hp]
    simp only [Option.bind_some, specMax_mx]
    rw [w64 (x := (sigsAt v l (t, f) pre).1 + 1) (by omega) (by omega), up_mid pre x hn hx]
    rw [mid_snoc pre suf x] at hx ⊢
    rw [ih (pre ++ [x]) _ hx]
    have e : sigsAt v l (t, f) (pre ++ [x]) = sigAt v l (sigsAt v l (t, f) pre) x := by simp [sigsAt]
    rw [e]
    rfl
theorem specPassed_v (v : Int) (l : List Int) (t : Int) (f : Bool) (xs : List Int) (hl : l.length ≤ 1000000000000) (hx : xs.length ≤ 1000000000000) : spec_PassedStages.fv v l t f xs = some (passed v l t f xs) := by
  rw [spec_PassedStages.fv_eq, specIsR_v v l t f hl]
  simp only [Option.bind_some, passed]
  by_cases h : isR v l t = true
  · have hf := isR_facts h
    have h1 := specPassed_l0 v l t f hl h xs [] (t + 1) (by simpa using hx)
    have e : mx (t + 1) (t + 1) = t + 1 := by
      unfold mx
      split <;> rfl
    rw [show sigsAt v l (t, f) [] = (t, f) from rfl, e, topS_topF] at h1
    rw [w64 (x := t + 1) (by omega) (by omega)]
    simp only [h, if_true]
    simpa using h1
  · have h' : isR v l t = false := by simpa using h
    simp [h']
end Go.Proofs.Ytlcmkgbabffmeaa.Plain
