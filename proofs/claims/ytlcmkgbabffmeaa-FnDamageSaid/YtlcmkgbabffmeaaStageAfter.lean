/- StageAfter, of the program. Condition: the stages and the signals are at most 10 to the 12. -/
import Derived.Test.YtlcmkgbabffmeaaSignalled
import Derived.Test.YtlcmkgbabffmeaaLim3
set_option linter.unusedSimpArgs false
set_option linter.unusedVariables false
namespace Go.Proofs.Ytlcmkgbabffmeaa.Plain
open Go.RowKit Go.Proofs.YtlcmkgbabffmeaaW.PrintWords Go.Proofs.Ytlcmkgbabffmeaa.Base Go.Proofs.Ytlcmkgbabffmeaa.Print

theorem implAfter_l0 (v : Int) (l : List Int) (hl : l.length ≤ 1000000000000) (suf : List Int) : ∀ (pre : List Int) (t : Int) (f : Bool), (pre ++ suf).length ≤ 1000000000000 →
    impl_StageAfter.l0v (pre ++ suf) ((pre ++ suf).length : Int) (pre.length : Int) v l t f = some (v, l, (sigsAt v l (t, f) suf).1, (sigsAt v l (t, f) suf).2) := by
  induction suf with
  | nil =>
    intro pre t f _
    rw [impl_StageAfter.l0v_eq, if_neg (nlt_end pre)]
    rfl
  | cons x suf ih =>
    intro pre t f h
    have hn : pre.length < (pre ++ x :: suf).length := by simp
    rw [impl_StageAfter.l0v_eq, if_pos (lt_mid pre suf x), if_pos (by omega), if_pos (lt_mid pre suf x), rd_mid, up_mid pre x hn h, signalled_v v l t f x hl]
    rw [mid_snoc pre suf x] at h ⊢
    simp only [Option.bind_some, ih (pre ++ [x]) _ _ h]
    rfl
theorem implAfter_v (v : Int) (l : List Int) (t : Int) (f : Bool) (xs : List Int) (hl : l.length ≤ 1000000000000) (hx : xs.length ≤ 1000000000000) : impl_StageAfter.fv v l t f xs = some (v, l, (sigsAt v l (t, f) xs).1, (sigsAt v l (t, f) xs).2) := by
  rw [impl_StageAfter.fv_eq, copyRollout_f v l t f hl]
  simp only [Option.bind_some]
  simpa using implAfter_l0 v l hl xs [] t f (by simpa using hx)
end Go.Proofs.Ytlcmkgbabffmeaa.Plain
