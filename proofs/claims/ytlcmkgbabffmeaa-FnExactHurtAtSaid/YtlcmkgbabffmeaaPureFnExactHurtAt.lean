/- FnExactHurtAt: whatever the rollout, the number and the Bools, the program's HurtAt and the reference's HurtAt return the same and leave the arguments as they were. No condition. -/
import Derived.Test.YtlcmkgbabffmeaaHurtAt
import Derived.Test.YtlcmkgbabffmeaaLim22
set_option linter.unusedSimpArgs false
set_option linter.unusedVariables false
namespace Go.Proofs.Ytlcmkgbabffmeaa.Pure
open Go.RowKit Go.Proofs.YtlcmkgbabffmeaaW.PrintWords Go.Proofs.Ytlcmkgbabffmeaa.Base Go.Proofs.Ytlcmkgbabffmeaa.Print Go.Proofs.Ytlcmkgbabffmeaa.Plain

theorem FnExactHurtAt : laws_FnExactHurtAt.Pure := by
  rintro ⟨v, l, t, f⟩ n bs ⟨_, ⟨hm, _⟩, _, _⟩ _ _
  have hm : l.length * 8 ≤ 140737488351232 := hm
  refine ends (g := fun k => laws_FnExactHurtAt.f k v l t f n bs) ?_
  show laws_FnExactHurtAt.fv v l t f n bs = some true
  rw [laws_FnExactHurtAt.fv_eq]
  by_cases hx0 : (bs.length : Int) > 1048576
  · rw [if_pos hx0]
  · rw [if_neg hx0, szRollout_f v l t f 1048576 (by omega) (by omega) (by omega)]
    simp only [Option.bind_some]
    by_cases hn : (1048576 : Int) < (l.length : Int)
    · simp [hn]
    · rw [if_neg hn, if_neg (by omega)]
      have hl : l.length ≤ 1000000000000 := by omega
      have hb : bs.length ≤ 1000000000000 := by omega
      simp [toRollout_v v l t f hl, toBoolS_v bs hb, specHurtAt_v v l t f n bs hl hb, implHurtAt_v v l t f n bs hl hb, eqRollout_v v l t f v l t f hl, eqR_refl, eqBoolS_v bs bs hb]
end Go.Proofs.Ytlcmkgbabffmeaa.Pure
