/- FnExactAreCounts: whatever the slice, the program's AreCounts and the reference's AreCounts return the same and leave the slice as it was. No condition. -/
import Derived.Test.YtaggmlokldaclaaInts
import Derived.Test.YtaggmlokldaclaaCounts
import Derived.Test.YtaggmlokldaclaaLim9
namespace Go.Proofs.Ytaggmlokldaclaa.Pure
open Go.RowKit Go.Proofs.YtaggmlokldaclaaW.PrintWords Go.Proofs.Ytaggmlokldaclaa.Base Go.Proofs.Ytaggmlokldaclaa.Print Go.Proofs.Ytaggmlokldaclaa.Plain

theorem FnExactAreCounts : laws_FnExactAreCounts.Pure := by
  intro l _ _ _
  refine ends (g := fun k => laws_FnExactAreCounts.f k l) ?_
  show laws_FnExactAreCounts.fv l = some true
  rw [laws_FnExactAreCounts.fv_eq]
  split
  · rfl
  · have hl : l.length ≤ 1000000000000 := by omega
    simp [toIntS_v l hl, specAreCounts_v l hl, implAreCounts_v l hl, eqIntS_v l l hl]
end Go.Proofs.Ytaggmlokldaclaa.Pure
