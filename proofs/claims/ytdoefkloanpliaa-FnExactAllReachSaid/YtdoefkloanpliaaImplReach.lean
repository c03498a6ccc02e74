/- AllReach, of the program. Condition: at most 10 to the 12 of each. -/
import Derived.Test.YtdoefkloanpliaaUseOf
import Derived.Test.YtdoefkloanpliaaIntRows
import Derived.Test.YtdoefkloanpliaaImplBest
import Derived.Test.YtdoefkloanpliaaLim4
set_option linter.unusedSimpArgs false
set_option linter.unusedVariables false
namespace Go.Proofs.Ytdoefkloanpliaa.Plain
open Go.RowKit Go.Proofs.YtdoefkloanpliaaW.PrintWords Go.Proofs.Ytdoefkloanpliaa.Base Go.Proofs.Ytdoefkloanpliaa.Print

theorem implReach_l0 (s : List Int) (hs : s.length ≤ 1000000000000) (r : List (List Int)) : ∀ (pre : List (List Int)), (pre ++ r).length ≤ 1000000000000 → (∀ x ∈ r, x.length ≤ 1000000000000) →
    ∃ q, slices_IndexFunc_int_int_with_impl_AllReach_1.l0v (pre ++ r) ((pre ++ r).length : Int) (pre.length : Int) s = some q ∧ decide (q ≥ 0) = !(allR s r) := by
  induction r with
  | nil =>
    intro pre _ _
    refine ⟨-1, ?_, by simp [allR]⟩
    rw [slices_IndexFunc_int_int_with_impl_AllReach_1.l0v_eq, if_neg (nlt_end pre)]
  | cons x r ih =>
    intro pre hl hr
    have hn : pre.length < (pre ++ x :: r).length := by simp
    rw [slices_IndexFunc_int_int_with_impl_AllReach_1.l0v_eq, if_pos (lt_mid pre r x), if_pos (by omega), if_pos (lt_mid pre r x), rdL1_mid, impl_AllReach_1.fv_eq, implBest_v s x hs (hr x List.mem_cons_self)]
    simp only [Option.bind_some, beq_iff_eq]
    by_cases hx : best s x = 0
    · rw [if_pos hx]
      refine ⟨(pre.length : Int), rfl, ?_⟩
      simp [allR, hx]
    · rw [if_neg hx, up_mid pre x hn hl]
      rw [mid_snoc pre r x] at hl ⊢
      obtain ⟨q, h1, h2⟩ := ih (pre ++ [x]) hl (fun y hy => hr y (List.mem_cons_of_mem _ hy))
      refine ⟨q, h1, ?_⟩
      rw [h2]
      simp [allR, hx]
theorem implReach_v (s : List Int) (r : List (List Int)) (hs : s.length ≤ 1000000000000) (hl : r.length ≤ 1000000000000) (hr : ∀ x ∈ r, x.length ≤ 1000000000000) : impl_AllReach.fv s r = some (areV s && allR s r) := by
  obtain ⟨q, h1, h2⟩ := implReach_l0 s hs r [] (by simpa using hl) hr
  simp only [List.nil_append, List.length_nil, Int.natCast_zero] at h1
  rw [impl_AllReach.fv_eq, slices_ContainsFunc_int_int_with_impl_AllReach_1.fv_eq, slices_IndexFunc_int_int_with_impl_AllReach_1.fv_eq, implVers_v s hs, h1]
  simp only [Option.bind_some, h2]
  cases areV s <;> simp
end Go.Proofs.Ytdoefkloanpliaa.Plain
