/- StageAfter, of the reference. Condition: the stages and the signals are at most 10 to the 12. -/
import Derived.Test.YtlcmkgbabffmeaaSignalled
import Derived.Test.YtlcmkgbabffmeaaSpecMoves
import Derived.Test.YtlcmkgbabffmeaaLim2
set_option linter.unusedSimpArgs false
set_option linter.unusedVariables false
namespace Go.Proofs.Ytlcmkgbabffmeaa.Plain
open Go.RowKit Go.Proofs.YtlcmkgbabffmeaaW.PrintWords Go.Proofs.Ytlcmkgbabffmeaa.Base Go.Proofs.Ytlcmkgbabffmeaa.Print

theorem specAfter_l0 (v : Int) (l : List Int) (hl : l.length ≤ 1000000000000) (suf : List Int) : ∀ (pre : List Int) (t : Int) (f : Bool), (pre ++ suf).length ≤ 1000000000000 →
    spec_StageAfter.l0v (pre ++ suf) (pre.length : Int) v l t f = some (v, l, (sigsAt v l (t, f) suf).1, (sigsAt v l (t, f) suf).2) := by
  induction suf with
  | nil =>
    intro pre t f _
    rw [spec_StageAfter.l0v_eq, if_neg (nlt_end pre)]
    rfl
  | cons x suf ih =>
    intro pre t f h
    have hn : pre.length < (pre ++ x :: suf).length := by simp
    rw [spec_StageAfter.l0v_eq, if_pos (lt_mid pre suf x), if_pos (by omega), rd_mid, up_mid pre x hn h, specNext_v v l t f hl, specBack_v v l t f hl]
    rw [mid_snoc pre suf x] at h ⊢
    simp only [Option.bind_some, ih (pre ++ [x]) _ _ h]
    unfold sigsAt
    rw [List.foldl_cons]
    by_cases h1 : x = 1
    · simp [h1, sigAt]
    · by_cases h2 : x = 2 <;> simp [h1, h2, sigAt]
theorem specAfter_v (v : Int) (l : List Int) (t : Int) (f : Bool) (xs : List Int) (hl : l.length ≤ 1000000000000) (hx : xs.length ≤ 1000000000000) : spec_StageAfter.fv v l t f xs = some (v, l, (sigsAt v l (t, f) xs).1, (sigsAt v l (t, f) xs).2) := by
  rw [spec_StageAfter.fv_eq, l26Copied_f v l t f hl]
  simp only [Option.bind_some]
  simpa using specAfter_l0 v l hl xs [] t f (by simpa using hx)
end Go.Proofs.Ytlcmkgbabffmeaa.Plain
