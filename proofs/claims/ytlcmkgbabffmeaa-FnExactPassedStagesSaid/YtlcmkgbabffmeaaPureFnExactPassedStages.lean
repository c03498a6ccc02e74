/- FnExactPassedStages: whatever the rollout and the signals, the program's PassedStages and the reference's PassedStages return the same and leave the arguments as they were. No condition. -/
import Derived.Test.YtlcmkgbabffmeaaSpecPassed
import Derived.Test.YtlcmkgbabffmeaaLim9
set_option linter.unusedSimpArgs false
set_option linter.unusedVariables false
namespace Go.Proofs.Ytlcmkgbabffmeaa.Pure
open Go.RowKit Go.Proofs.YtlcmkgbabffmeaaW.PrintWords Go.Proofs.Ytlcmkgbabffmeaa.Base Go.Proofs.Ytlcmkgbabffmeaa.Print Go.Proofs.Ytlcmkgbabffmeaa.Plain

theorem FnExactPassedStages : laws_FnExactPassedStages.Pure := by
  rintro ⟨v, l, t, f⟩ xs ⟨_, ⟨hm, _⟩, _, _⟩ _
  have hm : l.length * 8 ≤ 140737488351232 := hm
  refine ends (g := fun k => laws_FnExactPassedStages.f k v l t f xs) ?_
  show laws_FnExactPassedStages.fv v l t f xs = some true
  rw [laws_FnExactPassedStages.fv_eq]
  by_cases hx0 : (xs.length : Int) > 1048576
  · rw [if_pos hx0]
  · rw [if_neg hx0, szRollout_f v l t f 1048576 (by omega) (by omega) (by omega)]
    simp only [Option.bind_some]
    by_cases hn : (1048576 : Int) < (l.length : Int)
    · simp [hn]
    · rw [if_neg hn, if_neg (by omega)]
      have hl : l.length ≤ 1000000000000 := by omega
      have hx : xs.length ≤ 1000000000000 := by omega
      simp [toRollout_v v l t f hl, toIntS_v xs hx, specPassed_v v l t f xs hl hx, implPassed_v v l t f xs hl hx, eqRollout_v v l t f v l t f hl, eqIntS_v xs xs hx, eqR_refl]
end Go.Proofs.Ytlcmkgbabffmeaa.Pure
