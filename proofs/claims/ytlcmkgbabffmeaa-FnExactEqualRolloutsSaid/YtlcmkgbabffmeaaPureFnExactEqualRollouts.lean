/- FnExactEqualRollouts: whatever the two rollouts, the program's EqualRollouts and the reference's EqualRollouts return the same and leave the rollouts as they were. No condition. -/
import Derived.Test.YtlcmkgbabffmeaaRoll
import Derived.Test.YtlcmkgbabffmeaaEqInts
import Derived.Test.YtlcmkgbabffmeaaLim15
import Derived.Test.YtlcmkgbabffmeaaLim3
set_option linter.unusedSimpArgs false
set_option linter.unusedVariables false
namespace Go.Proofs.Ytlcmkgbabffmeaa.Pure
open Go.RowKit Go.Proofs.YtlcmkgbabffmeaaW.PrintWords Go.Proofs.Ytlcmkgbabffmeaa.Base Go.Proofs.Ytlcmkgbabffmeaa.Print Go.Proofs.Ytlcmkgbabffmeaa.Plain

theorem spec_v (v : Int) (l : List Int) (t : Int) (f : Bool) (v' : Int) (l' : List Int) (t' : Int) (f' : Bool) (hl : l.length ≤ 1000000000000) : spec_EqualRollouts.fv v l t f v' l' t' f' = some (eqR v l t f v' l' t' f') := by
  rw [spec_EqualRollouts.fv_eq, specEqualInts_v l l' hl]
  simp only [Option.bind_some, eqR]
  by_cases h1 : v = v' <;> by_cases h2 : l = l' <;> by_cases h3 : t = t' <;> cases f <;> cases f' <;> simp [h1, h2, h3]
theorem impl_v (v : Int) (l : List Int) (t : Int) (f : Bool) (v' : Int) (l' : List Int) (t' : Int) (f' : Bool) (hl : l.length ≤ 1000000000000) : impl_EqualRollouts.fv v l t f v' l' t' f' = some (eqR v l t f v' l' t' f') := by
  rw [impl_EqualRollouts.fv_eq, slicesEqual_v l l' hl]
  simp only [Option.bind_some, eqR]
  by_cases h1 : v = v' <;> by_cases h2 : l = l' <;> by_cases h3 : t = t' <;> cases f <;> cases f' <;> simp [h1, h2, h3]
theorem FnExactEqualRollouts : laws_FnExactEqualRollouts.Pure := by
  rintro ⟨v, l, t, f⟩ ⟨v', l', t', f'⟩ ⟨_, ⟨hm, _⟩, _, _⟩ ⟨_, ⟨hm', _⟩, _, _⟩
  have hm : l.length * 8 ≤ 140737488351232 := hm
  have hm' : l'.length * 8 ≤ 140737488351232 := hm'
  refine ends (g := fun k => laws_FnExactEqualRollouts.f k v l t f v' l' t' f') ?_
  show laws_FnExactEqualRollouts.fv v l t f v' l' t' f' = some true
  rw [laws_FnExactEqualRollouts.fv_eq, szRollout_f v l t f 1048576 (by omega) (by omega) (by omega)]
  simp only [Option.bind_some]
  by_cases h1 : (1048576 : Int) < (l.length : Int)
  · simp [h1]
  · rw [if_neg h1, if_neg (by omega), szRollout_f v' l' t' f' _ (by omega) (by omega) (by omega)]
    simp only [Option.bind_some]
    by_cases h2 : (1048576 - (l.length : Int)) < (l'.length : Int)
    · simp [h2]
    · rw [if_neg h2, if_neg (by omega)]
      have hl : l.length ≤ 1000000000000 := by omega
      have hl' : l'.length ≤ 1000000000000 := by omega
      simp [toRollout_v v l t f hl, toRollout_v v' l' t' f' hl', spec_v v l t f v' l' t' f' hl, impl_v v l t f v' l' t' f' hl, eqRollout_v v l t f v l t f hl, eqRollout_v v' l' t' f' v' l' t' f' hl', eqR_refl]
end Go.Proofs.Ytlcmkgbabffmeaa.Pure
