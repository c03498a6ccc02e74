/- Stranded and MayRetire, of the program. Condition: at most 10 to the 12 of each. -/
import Derived.Test.YtdoefkloanpliaaStrand
import Derived.Test.YtdoefkloanpliaaIntRows
import Derived.Test.YtdoefkloanpliaaImplBest
import Derived.Test.YtdoefkloanpliaaImplUse
import Derived.Test.YtdoefkloanpliaaLim4
import Derived.Test.YtdoefkloanpliaaLim5
import Derived.Test.YtdoefkloanpliaaLim3
set_option linter.unusedSimpArgs false
set_option linter.unusedVariables false
namespace Go.Proofs.Ytdoefkloanpliaa.Plain
open Go.RowKit Go.Proofs.YtdoefkloanpliaaW.PrintWords Go.Proofs.Ytdoefkloanpliaa.Base Go.Proofs.Ytdoefkloanpliaa.Print

theorem implDrop_l0 (v : Int) (suf : List Int) : ∀ (pre out : List Int), (pre ++ suf).length ≤ 1000000000000 → out.length ≤ pre.length →
    impl_without.l0v [v] out (pre ++ suf) ((pre ++ suf).length : Int) (pre.length : Int) = some (out ++ drop suf v) := by
  induction suf with
  | nil =>
    intro pre out _ _
    rw [impl_without.l0v_eq, if_neg (nlt_end pre)]
    simp [drop]
  | cons x suf ih =>
    intro pre out hl ho
    have hn : pre.length < (pre ++ x :: suf).length := by simp
    have hp : pre.length < 1000000000000 := by omega
    rw [impl_without.l0v_eq, if_pos (lt_mid pre suf x), if_pos (by omega), if_pos (lt_mid pre suf x), rd_mid, slHas_v [v] x (by simp), up_mid pre x hn hl]
    simp only [Option.bind_some, mem_cons, mem_nil, Bool.or_false]
    rw [mid_snoc pre suf x] at hl ⊢
    by_cases hx : x = v
    · rw [if_pos (by simp [hx]), ih (pre ++ [x]) out hl (by simp; omega)]
      simp [drop, hx]
    · rw [if_neg (by simp [show ¬ v = x from fun e => hx e.symm]), if_pos (by omega), ih (pre ++ [x]) (out ++ [x]) hl (by simp; omega)]
      simp [drop, hx]
theorem implDrop_v (s : List Int) (v : Int) (hs : s.length ≤ 1000000000000) : impl_without.fv s [v] = some (drop s v) := by
  rw [impl_without.fv_eq]
  simpa using implDrop_l0 v s [] [] (by simpa using hs) (by simp)
theorem implLeft_l0 (s t : List Int) (hs : s.length ≤ 1000000000000) (ht : t.length ≤ 1000000000000) (r : List (List Int)) : ∀ (pre : List (List Int)) (out : List Int), (pre ++ r).length ≤ 1000000000000 → (∀ x ∈ r, x.length ≤ 1000000000000) → out.length ≤ pre.length →
    impl_Stranded.l0v s out t (pre ++ r) ((pre ++ r).length : Int) (pre.length : Int) = some (out ++ lefts s t (pre.length : Int) r) := by
  induction r with
  | nil =>
    intro pre out _ _ _
    rw [impl_Stranded.l0v_eq, if_neg (nlt_end pre)]
    simp [lefts]
  | cons x r ih =>
    intro pre out hl hr ho
    have hn : pre.length < (pre ++ x :: r).length := by simp
    have hp : pre.length < 1000000000000 := by omega
    have e1 : ((pre ++ [x]).length : Int) = (pre.length : Int) + 1 := by simp
    rw [impl_Stranded.l0v_eq, if_pos (lt_mid pre r x), if_pos (by omega), if_pos (lt_mid pre r x), rdL1_mid, implBest_v s x hs (hr x List.mem_cons_self), implBest_v t x ht (hr x List.mem_cons_self), up_mid pre x hn hl]
    simp only [Option.bind_some, lefts, left]
    rw [mid_snoc pre r x] at hl ⊢
    have hr' : ∀ y ∈ r, y.length ≤ 1000000000000 := fun y hy => hr y (List.mem_cons_of_mem _ hy)
    by_cases h1 : best s x > 0
    · rw [if_pos h1]
      by_cases h2 : best t x = 0
      · rw [if_pos h2, if_pos (by omega), ih (pre ++ [x]) (out ++ [(pre.length : Int)]) hl hr' (by simp; omega), e1]
        simp [h1, h2]
      · rw [if_neg h2, ih (pre ++ [x]) out hl hr' (by simp; omega), e1]
        simp [h1, h2]
    · rw [if_neg h1, ih (pre ++ [x]) out hl hr' (by simp; omega), e1]
      simp [h1]
theorem implLeft_v (s : List Int) (r : List (List Int)) (v : Int) (hs : s.length ≤ 1000000000000) (hl : r.length ≤ 1000000000000) (hr : ∀ x ∈ r, x.length ≤ 1000000000000) : impl_Stranded.fv s r v = some (lefts s (drop s v) 0 r) := by
  rw [impl_Stranded.fv_eq, implDrop_v s v hs]
  have := drop_len s v
  simpa using implLeft_l0 s (drop s v) hs (by omega) r [] [] (by simpa using hl) hr (by simp)
theorem implMay_v (s : List Int) (r : List (List Int)) (v p : Int) (hs : s.length ≤ 1000000000000) (hl : r.length ≤ 1000000000000) (hr : ∀ x ∈ r, x.length ≤ 1000000000000) : impl_MayRetire.fv s r v p = some (mayR s r v p) := by
  rw [impl_MayRetire.fv_eq, implVers_v s hs, slHas_v s v hs, inRange_f]
  simp only [Option.bind_some, impl_MayRetire.j0v_eq, implLeft_v s r v hs hl hr, implUse_v s r v hs hl hr, mayR]
  cases areV s with
  | false => simp
  | true =>
    cases mem s v with
    | false => simp
    | true =>
      by_cases h1 : s.length = 1
      · simp [h1]
      · have h1' : ¬ (s.length : Int) = 1 := by omega
        cases inR 0 1000 p with
        | false => simp [h1, h1']
        | true =>
          by_cases h2 : (lefts s (drop s v) 0 r).length = 0
          · simp [h1, h1', h2]
          · simp [h1, h1', h2]
end Go.Proofs.Ytdoefkloanpliaa.Plain
