/- Membership, of the reference. Condition: at most 10 to the 12 numbers. -/
import Derived.Test.YtdoefkloanpliaaVersions
import Derived.Test.YtdoefkloanpliaaLim2
set_option linter.unusedSimpArgs false
set_option linter.unusedVariables false
namespace Go.Proofs.Ytdoefkloanpliaa.Plain
open Go.RowKit Go.Proofs.YtdoefkloanpliaaW.PrintWords Go.Proofs.Ytdoefkloanpliaa.Base Go.Proofs.Ytdoefkloanpliaa.Print

theorem l9Has_l0 (x : Int) (suf : List Int) : ∀ (pre : List Int), (pre ++ suf).length ≤ 1000000000000 →
    spec_l9Has.l0v (pre ++ suf) x (pre.length : Int) = some (mem suf x) := by
  induction suf with
  | nil =>
    intro pre _
    rw [spec_l9Has.l0v_eq, if_neg (nlt_end pre)]
    simp [mem]
  | cons y suf ih =>
    intro pre hl
    have hn : pre.length < (pre ++ y :: suf).length := by simp
    rw [spec_l9Has.l0v_eq, if_pos (lt_mid pre suf y), if_pos (by omega), rd_mid, mem_cons]
    by_cases hxy : y = x
    · rw [if_pos hxy]
      simp [hxy]
    · rw [if_neg hxy, up_mid pre y hn hl]
      rw [mid_snoc pre suf y] at hl ⊢
      rw [ih (pre ++ [y]) hl]
      simp [hxy]
theorem l9Has_v (l : List Int) (x : Int) (hl : l.length ≤ 1000000000000) : spec_l9Has.fv l x = some (mem l x) := by
  rw [spec_l9Has.fv_eq]
  simpa using l9Has_l0 x l [] (by simpa using hl)
end Go.Proofs.Ytdoefkloanpliaa.Plain
