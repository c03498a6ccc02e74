/- FnExactUseOf: whatever the server, the lists and the version, the program's UseOf and the reference's UseOf return the same and leave the arguments as they were. No condition. -/
import Derived.Test.YtdoefkloanpliaaImplUse
import Derived.Test.YtdoefkloanpliaaSpecUse
import Derived.Test.YtdoefkloanpliaaLim28
set_option linter.unusedSimpArgs false
set_option linter.unusedVariables false
namespace Go.Proofs.Ytdoefkloanpliaa.Pure
open Go.RowKit Go.Proofs.YtdoefkloanpliaaW.PrintWords Go.Proofs.Ytdoefkloanpliaa.Base Go.Proofs.Ytdoefkloanpliaa.Print Go.Proofs.Ytdoefkloanpliaa.Plain

theorem FnExactUseOf : laws_FnExactUseOf.Pure := by
  rintro s r v ⟨hs, _⟩ ⟨hr, hx⟩ _
  refine ends (g := fun k => laws_FnExactUseOf.f k s r v) ?_
  show laws_FnExactUseOf.fv s r v = some true
  rw [laws_FnExactUseOf.fv_eq]
  by_cases h : (s.length : Int) > 1048576
  · rw [if_pos h]
  · rw [if_neg h, szIntSS_v r 1048576 (by omega) (by omega) (by omega) (fun x h => by have := (hx x h).1; omega)]
    simp only [Option.bind_some]
    by_cases hz : sizeOf1 List.length r 1048576 < 0
    · rw [if_pos hz]
    · obtain ⟨_, h1, h2⟩ := sizeOf1_le List.length r 1048576 (by omega)
      have hl : ∀ x ∈ r, x.length ≤ 1000000000000 := fun x h => by have := h2 x h; omega
      have hn : r.length ≤ 1000000000000 := by omega
      have hm : s.length ≤ 1000000000000 := by omega
      rw [if_neg hz]
      simp [toIntS_v s hm, toIntSS_v r hn hl, specUse_v s r v hm hn hl, implUse_v s r v hm hn hl, eqIntS_v s s hm, eqIntSS_v r hn hl]
end Go.Proofs.Ytdoefkloanpliaa.Pure
