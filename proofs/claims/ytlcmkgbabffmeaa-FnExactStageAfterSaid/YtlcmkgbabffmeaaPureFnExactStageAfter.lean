/- FnExactStageAfter: whatever the rollout and the signals, the program's StageAfter and the reference's StageAfter return the same, leave the arguments as they were, and share nothing with them. No condition. -/
import Derived.Test.YtlcmkgbabffmeaaStageAfter
import Derived.Test.YtlcmkgbabffmeaaLim10
set_option linter.unusedSimpArgs false
set_option linter.unusedVariables false
namespace Go.Proofs.Ytlcmkgbabffmeaa.Pure
open Go.RowKit Go.Proofs.YtlcmkgbabffmeaaW.PrintWords Go.Proofs.Ytlcmkgbabffmeaa.Base Go.Proofs.Ytlcmkgbabffmeaa.Print Go.Proofs.Ytlcmkgbabffmeaa.Plain

theorem FnExactStageAfter : laws_FnExactStageAfter.Pure := by
  rintro ⟨v, l, t, f⟩ xs ⟨_, ⟨hm, _⟩, _, _⟩ _
  have hm : l.length * 8 ≤ 140737488351232 := hm
  refine ends (g := fun k => laws_FnExactStageAfter.f k v l t f xs) ?_
  show laws_FnExactStageAfter.fv v l t f xs = some true
  rw [laws_FnExactStageAfter.fv_eq]
  by_cases hx0 : (xs.length : Int) > 1048576
  · rw [if_pos hx0]
  · rw [if_neg hx0, szRollout_f v l t f 1048576 (by omega) (by omega) (by omega)]
    simp only [Option.bind_some]
    by_cases hn : (1048576 : Int) < (l.length : Int)
    · simp [hn]
    · rw [if_neg hn, if_neg (by omega)]
      have hl : l.length ≤ 1000000000000 := by omega
      have hx : xs.length ≤ 1000000000000 := by omega
      have e1 : ¬ (1 + (l.length : Int) < 0) := by omega
      have e2 : ¬ (1 + (l.length : Int) + (xs.length : Int) < 0) := by omega
      have m1 := fun v t f => markRollout_v v l t f 1 hl (by omega) (by omega)
      have h1 := fun v t f => heldRollout_v v l.length t f 1 hl (by omega) (by omega)
      have m2 := markIntS_v xs (1 + (l.length : Int)) hx (by omega) (by omega)
      simp [toRollout_v v l t f hl, toIntS_v xs hx, specAfter_v v l t f xs hl hx, implAfter_v v l t f xs hl hx, eqRollout_v _ l _ _ _ l _ _ hl, eqIntS_v xs xs hx, eqR_refl, laws_FnExactStageAfter.j0v_eq, m1, m2, h1, e1, e2]
end Go.Proofs.Ytlcmkgbabffmeaa.Pure
