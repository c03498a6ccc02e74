/- slices.Contains on whole numbers. Condition: at most 10 to the 12 numbers. -/
import Derived.Test.YtdoefkloanpliaaVersions
import Derived.Test.YtdoefkloanpliaaLim3
set_option linter.unusedSimpArgs false
set_option linter.unusedVariables false
namespace Go.Proofs.Ytdoefkloanpliaa.Plain
open Go.RowKit Go.Proofs.YtdoefkloanpliaaW.PrintWords Go.Proofs.Ytdoefkloanpliaa.Base Go.Proofs.Ytdoefkloanpliaa.Print

theorem slIndex_l0 (x : Int) (suf : List Int) : ∀ (pre : List Int), (pre ++ suf).length ≤ 1000000000000 →
    ∃ r, slices_Index_int_int.l0v (pre ++ suf) x ((pre ++ suf).length : Int) (pre.length : Int) = some r ∧ decide (r ≥ 0) = mem suf x := by
  induction suf with
  | nil =>
    intro pre _
    refine ⟨-1, ?_, by simp [mem]⟩
    rw [slices_Index_int_int.l0v_eq, if_neg (nlt_end pre)]
  | cons y suf ih =>
    intro pre hl
    have hn : pre.length < (pre ++ y :: suf).length := by simp
    rw [slices_Index_int_int.l0v_eq, if_pos (lt_mid pre suf y), if_pos (by omega), if_pos (lt_mid pre suf y), rd_mid]
    by_cases hxy : x = y
    · rw [if_pos hxy]
      refine ⟨(pre.length : Int), rfl, ?_⟩
      rw [mem_cons, hxy]
      simp
    · rw [if_neg hxy, up_mid pre y hn hl]
      rw [mid_snoc pre suf y] at hl ⊢
      obtain ⟨r, h1, h2⟩ := ih (pre ++ [y]) hl
      refine ⟨r, h1, ?_⟩
      rw [h2, mem_cons]
      simp [show ¬ y = x from fun e => hxy e.symm]
theorem slHas_v (l : List Int) (x : Int) (hl : l.length ≤ 1000000000000) : slices_Contains_int_int.fv l x = some (mem l x) := by
  obtain ⟨r, h1, h2⟩ := slIndex_l0 x l [] (by simpa using hl)
  rw [slices_Contains_int_int.fv_eq, slices_Index_int_int.fv_eq]
  simp only [List.nil_append, List.length_nil, Int.natCast_zero] at h1
  rw [h1]
  simp [h2]
end Go.Proofs.Ytdoefkloanpliaa.Plain
