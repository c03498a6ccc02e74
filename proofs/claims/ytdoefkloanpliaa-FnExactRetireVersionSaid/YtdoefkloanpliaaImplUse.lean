/- UseOf, of the program. Condition: at most 10 to the 12 of each. -/
import Derived.Test.YtdoefkloanpliaaUseOf
import Derived.Test.YtdoefkloanpliaaIntRows
import Derived.Test.YtdoefkloanpliaaImplBest
import Derived.Test.YtdoefkloanpliaaLim5
set_option linter.unusedSimpArgs false
set_option linter.unusedVariables false
namespace Go.Proofs.Ytdoefkloanpliaa.Plain
open Go.RowKit Go.Proofs.YtdoefkloanpliaaW.PrintWords Go.Proofs.Ytdoefkloanpliaa.Base Go.Proofs.Ytdoefkloanpliaa.Print

theorem implUse_l0 (s : List Int) (v : Int) (hs : s.length ≤ 1000000000000) (hv : 1 ≤ v) (r : List (List Int)) : ∀ (pre : List (List Int)) (c : Int), (pre ++ r).length ≤ 1000000000000 → (∀ x ∈ r, x.length ≤ 1000000000000) → 0 ≤ c → c ≤ pre.length →
    impl_UseOf.l0v s v c (pre ++ r) ((pre ++ r).length : Int) (pre.length : Int) = some (c + uses s v r) := by
  induction r with
  | nil =>
    intro pre c _ _ _ _
    rw [impl_UseOf.l0v_eq, if_neg (nlt_end pre)]
    simp [uses]
  | cons x r ih =>
    intro pre c hl hr h0 hc
    have hn : pre.length < (pre ++ x :: r).length := by simp
    rw [impl_UseOf.l0v_eq, if_pos (lt_mid pre r x), if_pos (by omega), if_pos (lt_mid pre r x), rdL1_mid, implBest_v s x hs (hr x List.mem_cons_self)]
    simp only [Option.bind_some, uses]
    rw [up_mid pre x hn hl, w64 (x := c + 1) (by omega) (by omega)]
    rw [mid_snoc pre r x] at hl ⊢
    have hr' : ∀ y ∈ r, y.length ≤ 1000000000000 := fun y hy => hr y (List.mem_cons_of_mem _ hy)
    by_cases hx : best s x = v
    · rw [if_pos hx, if_pos hx, ih (pre ++ [x]) (c + 1) hl hr' (by omega) (by simp; omega), Int.add_assoc]
    · rw [if_neg hx, if_neg hx, ih (pre ++ [x]) c hl hr' h0 (by simp; omega), Int.zero_add]
theorem implUse_v (s : List Int) (r : List (List Int)) (v : Int) (hs : s.length ≤ 1000000000000) (hl : r.length ≤ 1000000000000) (hr : ∀ x ∈ r, x.length ≤ 1000000000000) : impl_UseOf.fv s r v = some (if v < 1 then 0 else uses s v r) := by
  rw [impl_UseOf.fv_eq]
  by_cases h : v < 1
  · rw [if_pos h, if_pos h]
  · rw [if_neg h, if_neg h]
    have h1 := implUse_l0 s v hs (by omega) r [] 0 (by simpa using hl) hr (by omega) (by simp)
    simpa using h1
end Go.Proofs.Ytdoefkloanpliaa.Plain
