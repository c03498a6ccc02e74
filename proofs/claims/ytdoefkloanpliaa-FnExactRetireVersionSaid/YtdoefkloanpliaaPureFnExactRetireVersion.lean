/- FnExactRetireVersion: whatever the arguments, the program's RetireVersion and the reference's RetireVersion return the same, leave the arguments as they were, and the result shares no memory. No condition. -/
import Derived.Test.YtdoefkloanpliaaImplLeft
import Derived.Test.YtdoefkloanpliaaSpecLeft
import Derived.Test.YtdoefkloanpliaaMarkRows
import Derived.Test.YtdoefkloanpliaaLim7
import Derived.Test.YtdoefkloanpliaaLim5
set_option linter.unusedSimpArgs false
set_option linter.unusedVariables false
namespace Go.Proofs.Ytdoefkloanpliaa.Pure
open Go.RowKit Go.Proofs.YtdoefkloanpliaaW.PrintWords Go.Proofs.Ytdoefkloanpliaa.Base Go.Proofs.Ytdoefkloanpliaa.Print Go.Proofs.Ytdoefkloanpliaa.Plain

theorem FnExactRetireVersion : laws_FnExactRetireVersion.Pure := by
  rintro s r v p ⟨hs, _⟩ ⟨hr, hx⟩ _ _
  refine ends (g := fun k => laws_FnExactRetireVersion.f k s r v p) ?_
  show laws_FnExactRetireVersion.fv s r v p = some true
  rw [laws_FnExactRetireVersion.fv_eq]
  by_cases h : (s.length : Int) > 1048576
  · rw [if_pos h]
  · rw [if_neg h, szIntSS_v r 1048576 (by omega) (by omega) (by omega) (fun x h => by have := (hx x h).1; omega)]
    simp only [Option.bind_some]
    by_cases hz : sizeOf1 List.length r 1048576 < 0
    · rw [if_pos hz]
    · obtain ⟨_, h1, h2⟩ := sizeOf1_le List.length r 1048576 (by omega)
      have ht := total_le r 1048576 (by omega)
      have hl : ∀ x ∈ r, x.length ≤ 1000000000000 := fun x h => by have := h2 x h; omega
      have hn : r.length ≤ 1000000000000 := by omega
      have hm : s.length ≤ 1000000000000 := by omega
      have hd := drop_len s v
      have e1 : ∃ g o, spec_RetireVersion.fv s r v p = some (g, o) ∧ impl_RetireVersion.fv s r v p = some (g, o) ∧ g.length ≤ s.length := by
        rw [spec_RetireVersion.fv_eq, impl_RetireVersion.fv_eq, specMay_v s r v p hm hn hl, implMay_v s r v p hm hn hl]
        simp only [Option.bind_some, specDrop_v s v hm, implDrop_v s v hm, List.nil_append, List.length_nil, Nat.zero_add]
        cases mayR s r v p with
        | true => exact ⟨drop s v, true, by simp, by simp, hd⟩
        | false => exact ⟨s, false, by simp; omega, by simp; omega, Nat.le_refl _⟩
      obtain ⟨g, o, e1, e2, hg⟩ := e1
      have hg1 : g.length ≤ 1000000000000 := by omega
      have n0 : ¬ (1 + (g.length : Int)) < 0 := by omega
      have n1 : ¬ (1 + (s.length : Int) + (total r : Int)) < 0 := by omega
      rw [if_neg hz]
      simp only [toIntS_v s hm, toIntSS_v r hn hl, e1, e2, Option.bind_some, eqIntS_v g g hg1, eqIntS_v s s hm, eqIntSS_v r hn hl, decide_true, if_true, markIntS_v s 1 hm (by omega) (by omega), markIntSS_v r (1 + (s.length : Int)) hn hl (by omega) (by omega), n1, if_false, Bool.not_true, laws_FnExactRetireVersion.j0v_eq, laws_FnExactRetireVersion.j1v_eq, laws_FnExactRetireVersion.j2v_eq, bne_self_eq_false, Bool.false_eq_true, markIntS_v g 1 hg1 (by omega) (by omega), heldIntS_v g.length 1 hg1 (by omega) (by omega), n0]
end Go.Proofs.Ytdoefkloanpliaa.Pure
