/- FnExactCountIn: whatever the rollout and the number, the program's CountIn and the reference's CountIn return the same and leave the rollout as it was. No condition. -/
import Derived.Test.YtlcmkgbabffmeaaCountIn
import Derived.Test.YtlcmkgbabffmeaaLim16
set_option linter.unusedSimpArgs false
set_option linter.unusedVariables false
namespace Go.Proofs.Ytlcmkgbabffmeaa.Pure
open Go.RowKit Go.Proofs.YtlcmkgbabffmeaaW.PrintWords Go.Proofs.Ytlcmkgbabffmeaa.Base Go.Proofs.Ytlcmkgbabffmeaa.Print Go.Proofs.Ytlcmkgbabffmeaa.Plain

theorem FnExactCountIn : laws_FnExactCountIn.Pure := by
  rintro ⟨v, l, t, f⟩ x ⟨_, ⟨hm, _⟩, _, _⟩ _
  have hm : l.length * 8 ≤ 140737488351232 := hm
  refine ends (g := fun k => laws_FnExactCountIn.f k v l t f x) ?_
  show laws_FnExactCountIn.fv v l t f x = some true
  rw [laws_FnExactCountIn.fv_eq, szRollout_f v l t f 1048576 (by omega) (by omega) (by omega)]
  simp only [Option.bind_some]
  by_cases hn : (1048576 : Int) < (l.length : Int)
  · simp [hn]
  · rw [if_neg hn, if_neg (by omega)]
    have hl : l.length ≤ 1000000000000 := by omega
    simp [toRollout_v v l t f hl, specCountIn_v v l t f x hl, implCountIn_v v l t f x hl, eqRollout_v v l t f v l t f hl, eqR_refl]
end Go.Proofs.Ytlcmkgbabffmeaa.Pure
