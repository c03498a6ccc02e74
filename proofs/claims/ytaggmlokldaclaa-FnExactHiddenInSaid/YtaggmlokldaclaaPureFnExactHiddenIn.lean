/- FnExactHiddenIn: whatever the slice and the number, the program's HiddenIn and the reference's HiddenIn return the same and leave the slice as it was. No condition. -/
import Derived.Test.YtaggmlokldaclaaInts
import Derived.Test.YtaggmlokldaclaaHiddenIn
import Derived.Test.YtaggmlokldaclaaLim14
set_option linter.unusedSimpArgs false
set_option linter.unusedVariables false
namespace Go.Proofs.Ytaggmlokldaclaa.Pure
open Go.RowKit Go.Proofs.YtaggmlokldaclaaW.PrintWords Go.Proofs.Ytaggmlokldaclaa.Base Go.Proofs.Ytaggmlokldaclaa.Print Go.Proofs.Ytaggmlokldaclaa.Plain

theorem FnExactHiddenIn : laws_FnExactHiddenIn.Pure := by
  intro l a _ _ _ _
  refine ends (g := fun k => laws_FnExactHiddenIn.f k l a) ?_
  show laws_FnExactHiddenIn.fv l a = some true
  rw [laws_FnExactHiddenIn.fv_eq]
  split
  · rfl
  · have hl : l.length ≤ 1000000000000 := by omega
    simp [toIntS_v l hl, specHiddenIn_v l a hl, implHiddenIn_v l a hl, eqIntS_v l l hl]
end Go.Proofs.Ytaggmlokldaclaa.Pure
