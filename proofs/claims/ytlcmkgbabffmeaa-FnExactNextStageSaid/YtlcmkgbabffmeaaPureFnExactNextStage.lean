/- FnExactNextStage: whatever the rollout, the program's NextStage and the reference's NextStage return the same, leave the rollout as it was, and share nothing with it. No condition. -/
import Derived.Test.YtlcmkgbabffmeaaMoves
import Derived.Test.YtlcmkgbabffmeaaLim18
set_option linter.unusedSimpArgs false
set_option linter.unusedVariables false
namespace Go.Proofs.Ytlcmkgbabffmeaa.Pure
open Go.RowKit Go.Proofs.YtlcmkgbabffmeaaW.PrintWords Go.Proofs.Ytlcmkgbabffmeaa.Base Go.Proofs.Ytlcmkgbabffmeaa.Print Go.Proofs.Ytlcmkgbabffmeaa.Plain

theorem FnExactNextStage : laws_FnExactNextStage.Pure := by
  rintro ⟨v, l, t, f⟩ ⟨_, ⟨hm, _⟩, _, _⟩
  have hm : l.length * 8 ≤ 140737488351232 := hm
  refine ends (g := fun k => laws_FnExactNextStage.f k v l t f) ?_
  show laws_FnExactNextStage.fv v l t f = some true
  rw [laws_FnExactNextStage.fv_eq, szRollout_f v l t f 1048576 (by omega) (by omega) (by omega)]
  simp only [Option.bind_some]
  by_cases hn : (1048576 : Int) < (l.length : Int)
  · simp [hn]
  · rw [if_neg hn, if_neg (by omega)]
    have hl : l.length ≤ 1000000000000 := by omega
    have e1 : ¬ (1 + (l.length : Int) < 0) := by omega
    have m1 := fun v t f => markRollout_v v l t f 1 hl (by omega) (by omega)
    have h1 := fun v t f => heldRollout_v v l.length t f 1 hl (by omega) (by omega)
    simp [toRollout_v v l t f hl, specNext_v v l t f hl, implNext_v v l t f hl, eqRollout_v _ l _ _ _ l _ _ hl, eqR_refl, laws_FnExactNextStage.j0v_eq, laws_FnExactNextStage.j1v_eq, laws_FnExactNextStage.j2v_eq, m1, h1, e1]
end Go.Proofs.Ytlcmkgbabffmeaa.Pure
