/- FnExactMaskedBy: whatever the dials and the version, the program's MaskedBy and the reference's MaskedBy return the same and leave the dials as they were. No condition. -/
import Derived.Test.YtdoefkloanpliaaImplMasked
import Derived.Test.YtdoefkloanpliaaSpecMasked
import Derived.Test.YtdoefkloanpliaaLim32
set_option linter.unusedSimpArgs false
set_option linter.unusedVariables false
namespace Go.Proofs.Ytdoefkloanpliaa.Pure
open Go.RowKit Go.Proofs.YtdoefkloanpliaaW.PrintWords Go.Proofs.Ytdoefkloanpliaa.Base Go.Proofs.Ytdoefkloanpliaa.Print Go.Proofs.Ytdoefkloanpliaa.Plain

theorem FnExactMaskedBy : laws_FnExactMaskedBy.Pure := by
  rintro l v ⟨hl, hb⟩ _
  have hs : ∀ x ∈ l, x.f0.f2.length ≤ 1000000000000000000 ∧ x.f2.length ≤ 1000000000000000000 := fun x hx => by
    obtain ⟨⟨_, _, h1, _⟩, _, h2, _⟩ := hb x hx
    exact ⟨by omega, by omega⟩
  refine ends (g := fun k => laws_FnExactMaskedBy.f k l v) ?_
  show laws_FnExactMaskedBy.fv l v = some true
  rw [laws_FnExactMaskedBy.fv_eq, szDialedS_v l 1048576 (by omega) (by omega) (by omega) hs]
  simp only [Option.bind_some]
  by_cases hz : sizeOf1 szD l 1048576 < 0
  · rw [if_pos hz]
  · obtain ⟨_, h1, h2⟩ := sizeOf1_le szD l 1048576 (by omega)
    have hn : l.length ≤ 1000000000000 := by omega
    have hx : ∀ x ∈ l, okD (toD x) := fun x hx => by
      have h3 := h2 x hx
      unfold szD at h3
      exact ⟨by show x.f0.f2.length ≤ _; omega, by show x.f2.length ≤ _; omega⟩
    have hy : ∀ x ∈ l.map toD, okD x := fun x hm => by
      obtain ⟨y, hy, rfl⟩ := List.mem_map.1 hm
      exact hx y hy
    have hm : (l.map toD).length ≤ 1000000000000 := by
      rw [List.length_map]
      exact hn
    rw [if_neg hz, toDialedS_v l hn hx]
    simp [laws_FnExactMaskedBy.j0v_eq, toDialedS_v l hn hx, specMasked_v _ v hm hy, implMasked_v _ v hm hy, eqDialedS_v _ hm hy]
end Go.Proofs.Ytdoefkloanpliaa.Pure
