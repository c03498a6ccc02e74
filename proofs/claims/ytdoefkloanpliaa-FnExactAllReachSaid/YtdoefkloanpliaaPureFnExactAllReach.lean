/- FnExactAllReach: whatever the server and the lists, the program's AllReach and the reference's AllReach return the same and leave the arguments as they were. No condition. -/
import Derived.Test.YtdoefkloanpliaaImplReach
import Derived.Test.YtdoefkloanpliaaSpecReach
import Derived.Test.YtdoefkloanpliaaLim29
set_option linter.unusedSimpArgs false
set_option linter.unusedVariables false
namespace Go.Proofs.Ytdoefkloanpliaa.Pure
open Go.RowKit Go.Proofs.YtdoefkloanpliaaW.PrintWords Go.Proofs.Ytdoefkloanpliaa.Base Go.Proofs.Ytdoefkloanpliaa.Print Go.Proofs.Ytdoefkloanpliaa.Plain

theorem FnExactAllReach : laws_FnExactAllReach.Pure := by
  rintro s r ⟨hs, _⟩ ⟨hr, hx⟩
  refine ends (g := fun k => laws_FnExactAllReach.f k s r) ?_
  show laws_FnExactAllReach.fv s r = some true
  rw [laws_FnExactAllReach.fv_eq]
  by_cases h : (s.length : Int) > 1048576
  · rw [if_pos h]
  · rw [if_neg h, szIntSS_v r 1048576 (by omega) (by omega) (by omega) (fun x h => by have := (hx x h).1; omega)]
    simp only [Option.bind_some]
    by_cases hz : sizeOf1 List.length r 1048576 < 0
    · rw [if_pos hz]
    · obtain ⟨_, h1, h2⟩ := sizeOf1_le List.length r 1048576 (by omega)
      have hl : ∀ x ∈ r, x.length ≤ 1000000000000 := fun x h => by have := h2 x h; omega
      have hn : r.length ≤ 1000000000000 := by omega
      have hm : s.length ≤ 1000000000000 := by omega
      rw [if_neg hz]
      simp [toIntS_v s hm, toIntSS_v r hn hl, specReach_v s r hm hn hl, implReach_v s r hm hn hl, eqIntS_v s s hm, eqIntSS_v r hn hl]
end Go.Proofs.Ytdoefkloanpliaa.Pure
