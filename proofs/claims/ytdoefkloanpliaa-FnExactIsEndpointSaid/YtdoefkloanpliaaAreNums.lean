/- Lists of numbers in a range. Condition: the slice has at most 10 to the 12 numbers. -/
import Derived.Test.YtdoefkloanpliaaRange
import Derived.Test.YtdoefkloanpliaaLim5
set_option linter.unusedSimpArgs false
set_option linter.unusedVariables false
namespace Go.Proofs.Ytdoefkloanpliaa.Plain
open Go.RowKit Go.Proofs.YtdoefkloanpliaaW.PrintWords Go.Proofs.Ytdoefkloanpliaa.Base Go.Proofs.Ytdoefkloanpliaa.Print

theorem areNumbers_l0 (lo hi : Int) (suf : List Int) : ∀ (pre : List Int), (pre ++ suf).length ≤ 1000000000000 →
    ∃ r, slices_IndexFunc_int_int_with_impl_areNumbers_1.l0v (pre ++ suf) ((pre ++ suf).length : Int) (pre.length : Int) lo hi = some r ∧ decide (r ≥ 0) = !(suf.all (inR lo hi)) := by
  induction suf with
  | nil =>
    intro pre _
    refine ⟨-1, ?_, by simp⟩
    rw [slices_IndexFunc_int_int_with_impl_areNumbers_1.l0v_eq, if_neg (nlt_end pre)]
  | cons x suf ih =>
    intro pre hl
    have hn : pre.length < (pre ++ x :: suf).length := by simp
    rw [slices_IndexFunc_int_int_with_impl_areNumbers_1.l0v_eq, if_pos (lt_mid pre suf x), if_pos (by omega), if_pos (lt_mid pre suf x), rd_mid]
    unfold impl_areNumbers_1.f
    rw [inRange_f]
    simp only [Option.bind_some]
    cases hx : inR lo hi x with
    | false =>
      refine ⟨(pre.length : Int), by simp, ?_⟩
      simp [hx]
    | true =>
      rw [up_mid pre x hn hl]
      simp only [Bool.not_true, Bool.false_eq_true, if_false]
      rw [mid_snoc pre suf x] at hl ⊢
      obtain ⟨r, h1, h2⟩ := ih (pre ++ [x]) hl
      exact ⟨r, h1, by rw [h2]; simp [hx]⟩

theorem areNumbers_v (l : List Int) (lo hi : Int) (hl : l.length ≤ 1000000000000) : impl_areNumbers.fv l lo hi = some (l.all (inR lo hi)) := by
  obtain ⟨r, h1, h2⟩ := areNumbers_l0 lo hi l [] (by simpa using hl)
  rw [impl_areNumbers.fv_eq, slices_ContainsFunc_int_int_with_impl_areNumbers_1.fv_eq, slices_IndexFunc_int_int_with_impl_areNumbers_1.fv_eq]
  simp only [List.nil_append, List.length_nil, Int.natCast_zero] at h1
  rw [h1]
  simp [h2]
end Go.Proofs.Ytdoefkloanpliaa.Plain
