/- AllReach, of the reference. Condition: at most 10 to the 12 of each. -/
import Derived.Test.YtdoefkloanpliaaUseOf
import Derived.Test.YtdoefkloanpliaaIntRows
import Derived.Test.YtdoefkloanpliaaSpecBest
import Derived.Test.YtdoefkloanpliaaLim4
set_option linter.unusedSimpArgs false
set_option linter.unusedVariables false
namespace Go.Proofs.Ytdoefkloanpliaa.Plain
open Go.RowKit Go.Proofs.YtdoefkloanpliaaW.PrintWords Go.Proofs.Ytdoefkloanpliaa.Base Go.Proofs.Ytdoefkloanpliaa.Print

theorem specReach_l0 (s : List Int) (hs : s.length ≤ 1000000000000) (r : List (List Int)) : ∀ (pre : List (List Int)), (pre ++ r).length ≤ 1000000000000 → (∀ x ∈ r, x.length ≤ 1000000000000) →
    spec_AllReach.l0v s (pre ++ r) (pre.length : Int) = some (areV s && allR s r) := by
  induction r with
  | nil =>
    intro pre _ _
    rw [spec_AllReach.l0v_eq, if_neg (nlt_end pre), specVers_v s hs]
    simp [allR]
  | cons x r ih =>
    intro pre hl hr
    have hn : pre.length < (pre ++ x :: r).length := by simp
    rw [spec_AllReach.l0v_eq, if_pos (lt_mid pre r x), if_pos (by omega), rdL1_mid, specBest_v s x hs (hr x List.mem_cons_self)]
    simp only [Option.bind_some]
    by_cases hx : best s x = 0
    · rw [if_pos hx]
      simp [allR, hx]
    · rw [if_neg hx, up_mid pre x hn hl]
      rw [mid_snoc pre r x] at hl ⊢
      rw [ih (pre ++ [x]) hl (fun y hy => hr y (List.mem_cons_of_mem _ hy))]
      simp [allR, hx]
theorem specReach_v (s : List Int) (r : List (List Int)) (hs : s.length ≤ 1000000000000) (hl : r.length ≤ 1000000000000) (hr : ∀ x ∈ r, x.length ≤ 1000000000000) : spec_AllReach.fv s r = some (areV s && allR s r) := by
  rw [spec_AllReach.fv_eq]
  simpa using specReach_l0 s hs r [] (by simpa using hl) hr
end Go.Proofs.Ytdoefkloanpliaa.Plain
