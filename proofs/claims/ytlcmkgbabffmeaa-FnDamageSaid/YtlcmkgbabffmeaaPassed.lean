/- PassedStages, of the program. Condition: the stages and the signals are at most 10 to the 12. -/
import Derived.Test.YtlcmkgbabffmeaaRollLaw
import Derived.Test.YtlcmkgbabffmeaaSignalled
import Derived.Test.YtlcmkgbabffmeaaLim3
import Derived.Test.YtlcmkgbabffmeaaWMore
set_option linter.unusedSimpArgs false
set_option linter.unusedVariables false
namespace Go.Proofs.Ytlcmkgbabffmeaa.Plain
open Go.RowKit Go.Proofs.YtlcmkgbabffmeaaW.PrintWords Go.Proofs.YtlcmkgbabffmeaaW.PrintMore Go.Proofs.Ytlcmkgbabffmeaa.Base Go.Proofs.Ytlcmkgbabffmeaa.Print

theorem isR_sig {v : Int} {l : List Int} {s : Int × Bool} (x : Int) (h : isR v l s.1 = true) : isR v l (sigAt v l s x).1 = true := by
  have hf := isR_facts h
  unfold sigAt
  split
  · show isR v l (nextAt v l s.1 s.2) = true
    unfold nextAt
    split
    · rename_i hg
      simp only [goesOn, Bool.and_eq_true, Bool.not_eq_true', decide_eq_false_iff_not] at hg
      exact isR_move _ h (by omega) (by omega)
    · exact h
  · split
    · show isR v l (backAt v l s.1 s.2) = true
      unfold backAt
      split
      · exact isR_move _ h (by omega) (by omega)
      · exact h
    · exact h
theorem isR_sigs {v : Int} {l : List Int} (xs : List Int) : ∀ s : Int × Bool, isR v l s.1 = true → isR v l (sigsAt v l s xs).1 = true := by
  induction xs with
  | nil =>
    intro s h
    exact h
  | cons x xs ih =>
    intro s h
    exact ih _ (isR_sig x h)
/-- The highest stage on the way. -/
def topF (v : Int) (l : List Int) : Int × Bool → Int → List Int → Int
  | _, h, [] => h
  | s, h, x :: xs => topF v l (sigAt v l s x) (mx h (sigAt v l s x).1) xs
theorem topF_le {v : Int} {l : List Int} (b : Int) (hb : (l.length : Int) - 1 ≤ b) (xs : List Int) : ∀ (s : Int × Bool) (h : Int), isR v l s.1 = true → h ≤ b → topF v l s h xs ≤ b := by
  induction xs with
  | nil =>
    intro s h _ hh
    exact hh
  | cons x xs ih =>
    intro s h hs hh
    have h1 := isR_sig x hs
    have h2 := isR_facts h1
    refine ih _ _ h1 ?_
    unfold mx
    split <;> omega
theorem le_topF {v : Int} {l : List Int} (xs : List Int) : ∀ (s : Int × Bool) (h : Int), h ≤ topF v l s h xs := by
  induction xs with
  | nil =>
    intro s h
    exact Int.le_refl _
  | cons x xs ih =>
    intro s h
    refine Int.le_trans ?_ (ih _ _)
    unfold mx
    split <;> omega
theorem implPassed_l0 (v : Int) (l : List Int) (hl : l.length ≤ 1000000000000) (suf : List Int) : ∀ (pre : List Int) (t : Int) (f : Bool) (h : Int), (pre ++ suf).length ≤ 1000000000000 →
    impl_PassedStages.l0v h (pre ++ suf) ((pre ++ suf).length : Int) (pre.length : Int) v l t f = some (wrap64 (topF v l (t, f) h suf + 1)) := by
  induction suf with
  | nil =>
    intro pre t f h _
    rw [impl_PassedStages.l0v_eq, if_neg (nlt_end pre)]
    rfl
  | cons x suf ih =>
    intro pre t f h hx
    have hn : pre.length < (pre ++ x :: suf).length := by simp
    rw [impl_PassedStages.l0v_eq, if_pos (lt_mid pre suf x), if_pos (by omega), if_pos (lt_mid pre suf x), rd_mid, up_mid pre x hn hx, signalled_v v l t f x hl]
    rw [mid_snoc pre suf x] at hx ⊢
    simp only [Option.bind_some, ih (pre ++ [x]) _ _ _ hx]
    rfl
/-- How many stages are passed. -/
def passed (v : Int) (l : List Int) (t : Int) (f : Bool) (xs : List Int) : Int := if isR v l t then topF v l (t, f) t xs + 1 else 0
theorem implPassed_v (v : Int) (l : List Int) (t : Int) (f : Bool) (xs : List Int) (hl : l.length ≤ 1000000000000) (hx : xs.length ≤ 1000000000000) : impl_PassedStages.fv v l t f xs = some (passed v l t f xs) := by
  rw [impl_PassedStages.fv_eq, implIsR_v v l t f hl]
  simp only [Option.bind_some, passed]
  by_cases h : isR v l t = true
  · have hf := isR_facts h
    have h1 := implPassed_l0 v l hl xs [] t f t (by simpa using hx)
    have h2 := topF_le (v := v) (l := l) 4 (by omega) xs (t, f) t h (by omega)
    have h3 := le_topF (v := v) (l := l) xs (t, f) t
    rw [w64 (by omega) (by omega)] at h1
    simp only [h, if_true]
    simpa using h1
  · have h' : isR v l t = false := by simpa using h
    simp [h']
end Go.Proofs.Ytlcmkgbabffmeaa.Plain
