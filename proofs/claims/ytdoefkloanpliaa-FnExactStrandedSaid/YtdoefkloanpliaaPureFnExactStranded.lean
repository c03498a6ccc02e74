/- FnExactStranded: whatever the arguments, the program's Stranded and the reference's Stranded return the same, leave the arguments as they were, and the result shares no memory. No condition. -/
import Derived.Test.YtdoefkloanpliaaImplLeft
import Derived.Test.YtdoefkloanpliaaSpecLeft
import Derived.Test.YtdoefkloanpliaaMarkRows
import Derived.Test.YtdoefkloanpliaaLim6
set_option linter.unusedSimpArgs false
set_option linter.unusedVariables false
namespace Go.Proofs.Ytdoefkloanpliaa.Pure
open Go.RowKit Go.Proofs.YtdoefkloanpliaaW.PrintWords Go.Proofs.Ytdoefkloanpliaa.Base Go.Proofs.Ytdoefkloanpliaa.Print Go.Proofs.Ytdoefkloanpliaa.Plain

theorem FnExactStranded : laws_FnExactStranded.Pure := by
  rintro s r v ⟨hs, _⟩ ⟨hr, hx⟩ _
  refine ends (g := fun k => laws_FnExactStranded.f k s r v) ?_
  show laws_FnExactStranded.fv s r v = some true
  rw [laws_FnExactStranded.fv_eq]
  by_cases h : (s.length : Int) > 1048576
  · rw [if_pos h]
  · rw [if_neg h, szIntSS_v r 1048576 (by omega) (by omega) (by omega) (fun x h => by have := (hx x h).1; omega)]
    simp only [Option.bind_some]
    by_cases hz : sizeOf1 List.length r 1048576 < 0
    · rw [if_pos hz]
    · obtain ⟨_, h1, h2⟩ := sizeOf1_le List.length r 1048576 (by omega)
      have ht := total_le r 1048576 (by omega)
      have hl : ∀ x ∈ r, x.length ≤ 1000000000000 := fun x h => by have := h2 x h; omega
      have hn : r.length ≤ 1000000000000 := by omega
      have hm : s.length ≤ 1000000000000 := by omega
      have hg := lefts_len s (drop s v) r 0
      have e1 := specLeft_v s r v hm hn hl
      have e2 := implLeft_v s r v hm hn hl
      generalize lefts s (drop s v) 0 r = g at hg e1 e2
      have hg1 : g.length ≤ 1000000000000 := by omega
      have n0 : ¬ (1 + (g.length : Int)) < 0 := by omega
      have n1 : ¬ (1 + (s.length : Int) + (total r : Int)) < 0 := by omega
      rw [if_neg hz]
      simp only [toIntS_v s hm, toIntSS_v r hn hl, e1, e2, Option.bind_some, eqIntS_v g g hg1, eqIntS_v s s hm, eqIntSS_v r hn hl, decide_true, if_true, markIntS_v s 1 hm (by omega) (by omega), markIntSS_v r (1 + (s.length : Int)) hn hl (by omega) (by omega), n1, if_false, Bool.not_true, laws_FnExactStranded.j0v_eq, Bool.false_eq_true, markIntS_v g 1 hg1 (by omega) (by omega), heldIntS_v g.length 1 hg1 (by omega) (by omega), n0]
end Go.Proofs.Ytdoefkloanpliaa.Pure
