/- FnExactIsEndpoint: whatever the endpoint, the program's IsEndpoint and the reference's IsEndpoint return the same and leave the endpoint as it was. No condition. -/
import Derived.Test.YtdoefkloanpliaaEnds
import Derived.Test.YtdoefkloanpliaaImplIsE
import Derived.Test.YtdoefkloanpliaaSpecIsE
import Derived.Test.YtdoefkloanpliaaLim14
set_option linter.unusedSimpArgs false
set_option linter.unusedVariables false
namespace Go.Proofs.Ytdoefkloanpliaa.Pure
open Go.RowKit Go.Proofs.YtdoefkloanpliaaW.PrintWords Go.Proofs.Ytdoefkloanpliaa.Base Go.Proofs.Ytdoefkloanpliaa.Print Go.Proofs.Ytdoefkloanpliaa.Plain

theorem FnExactIsEndpoint : laws_FnExactIsEndpoint.Pure := by
  rintro ⟨v, t, p, c⟩ ⟨⟨hv, _⟩, ⟨ht, _⟩, ⟨hp, hb⟩, _⟩
  have hv : v.length * 8 ≤ 140737488351232 := hv
  have ht : t.length * 8 ≤ 140737488351232 := ht
  have hs : ∀ x ∈ p, x.f1.length ≤ 1000000000000000000 ∧ x.f2.length ≤ 1000000000000000000 := fun x hx => by
    obtain ⟨_, ⟨h1, _⟩, ⟨h2, _⟩, _⟩ := hb x hx
    exact ⟨by omega, by omega⟩
  have hp : p.length * 64 ≤ 140737488351232 := hp
  refine ends (g := fun k => laws_FnExactIsEndpoint.f k v t p c) ?_
  show laws_FnExactIsEndpoint.fv v t p c = some true
  rw [laws_FnExactIsEndpoint.fv_eq, szEnd_v v t p c 1048576 (by omega) (by omega) (by omega) (by omega) (by omega) hs]
  simp only [Option.bind_some]
  by_cases h1 : sizeE v t p 1048576 < 0
  · rw [if_pos h1]
  · obtain ⟨l1, o1⟩ := sizeE_le (by omega) (Int.not_lt.mp h1)
    have hq : (p.map toB).length ≤ 1000000000000 := by
      rw [List.length_map]
      exact o1.2.2.1
    rw [if_neg h1, toEnd_v v t p c o1]
    simp [specIsE_v v t (p.map toB) c o1.1 o1.2.1 hq (okE_boxes o1), implIsE_v v t (p.map toB) c o1.1 o1.2.1 hq (okE_boxes o1), eqEnd_v v t p c o1]
end Go.Proofs.Ytdoefkloanpliaa.Pure
