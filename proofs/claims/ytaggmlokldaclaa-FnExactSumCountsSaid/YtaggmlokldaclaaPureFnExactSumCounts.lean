/- FnExactSumCounts: whatever the two slices, the program's SumCounts and the reference's SumCounts return the same, leave the slices as they were, and share nothing with them. No condition. -/
import Derived.Test.YtaggmlokldaclaaInts
import Derived.Test.YtaggmlokldaclaaMarks
import Derived.Test.YtaggmlokldaclaaSumCounts
import Derived.Test.YtaggmlokldaclaaLim15
set_option linter.unusedSimpArgs false
set_option linter.unusedVariables false
namespace Go.Proofs.Ytaggmlokldaclaa.Pure
open Go.RowKit Go.Proofs.YtaggmlokldaclaaW.PrintWords Go.Proofs.Ytaggmlokldaclaa.Base Go.Proofs.Ytaggmlokldaclaa.Print Go.Proofs.Ytaggmlokldaclaa.Plain

theorem FnExactSumCounts : laws_FnExactSumCounts.Pure := by
  intro a b _ _ _ _ _ _
  refine ends (g := fun k => laws_FnExactSumCounts.f k a b) ?_
  show laws_FnExactSumCounts.fv a b = some true
  rw [laws_FnExactSumCounts.fv_eq]
  split
  · rfl
  · split
    · rfl
    · have ha : a.length ≤ 1000000000000 := by omega
      have hb : b.length ≤ 1000000000000 := by omega
      have hs := sumL_len a b
      simp only [toIntS_v a ha, toIntS_v b hb, specSum_v a b ha hb, implSum_v a b ha hb, eqIntS_v a a ha, eqIntS_v b b hb, eqIntS_v (sumL a b) (sumL a b) (by omega), Option.bind_some, decide_true, if_true,
        markIntS_v a 1 ha (by omega) (by omega), markIntS_v b (1 + a.length) hb (by omega) (by omega), laws_FnExactSumCounts.j0v_eq, Bool.not_true, Bool.false_eq_true, if_false,
        markIntS_v (sumL a b) 1 (by omega) (by omega) (by omega), heldIntS_v (sumL a b).length 1 (by omega) (by omega) (by omega)]
      rw [if_neg (by omega), if_neg (by omega), if_neg (by omega)]
end Go.Proofs.Ytaggmlokldaclaa.Pure
