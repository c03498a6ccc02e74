/- FnExactSafeStages: whatever the two numbers, the program's SafeStages and the reference's SafeStages return the same, and what the law writes into one result is not seen in a later one. No condition. -/
import Derived.Test.YtaggmlokldaclaaInts
import Derived.Test.YtaggmlokldaclaaMarks
import Derived.Test.YtaggmlokldaclaaSafeStages
import Derived.Test.YtaggmlokldaclaaLim12
set_option linter.unusedSimpArgs false
set_option linter.unusedVariables false
namespace Go.Proofs.Ytaggmlokldaclaa.Pure
open Go.RowKit Go.Proofs.YtaggmlokldaclaaW.PrintWords Go.Proofs.Ytaggmlokldaclaa.Base Go.Proofs.Ytaggmlokldaclaa.Print Go.Proofs.Ytaggmlokldaclaa.Plain

theorem FnExactSafeStages : laws_FnExactSafeStages.Pure := by
  intro x y _ _
  refine ends (g := fun k => laws_FnExactSafeStages.f k x y) ?_
  show laws_FnExactSafeStages.fv x y = some true
  obtain ⟨r, h1, h2, h3⟩ := safeStages_v x y
  rw [laws_FnExactSafeStages.fv_eq, h1, h2]
  simp only [Option.bind_some, eqIntS_v r r (by omega), markIntS_v r 1 (by omega) (by omega) (by omega), heldIntS_v r.length 1 (by omega) (by omega) (by omega), decide_true, if_true]
  rw [if_neg (by omega), if_neg (by omega)]
end Go.Proofs.Ytaggmlokldaclaa.Pure
