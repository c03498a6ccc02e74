/- FnExactShareOf: whatever the slice and the number, the program's ShareOf and the reference's ShareOf return the same and leave the slice as it was. No condition. -/
import Derived.Test.YtaggmlokldaclaaInts
import Derived.Test.YtaggmlokldaclaaShareOf
import Derived.Test.YtaggmlokldaclaaLim11
set_option linter.unusedSimpArgs false
set_option linter.unusedVariables false
namespace Go.Proofs.Ytaggmlokldaclaa.Pure
open Go.RowKit Go.Proofs.YtaggmlokldaclaaW.PrintWords Go.Proofs.Ytaggmlokldaclaa.Base Go.Proofs.Ytaggmlokldaclaa.Print Go.Proofs.Ytaggmlokldaclaa.Plain

theorem FnExactShareOf : laws_FnExactShareOf.Pure := by
  intro l a _ _ _ _
  refine ends (g := fun k => laws_FnExactShareOf.f k l a) ?_
  show laws_FnExactShareOf.fv l a = some true
  rw [laws_FnExactShareOf.fv_eq]
  split
  · rfl
  · have hl : l.length ≤ 1000000000000 := by omega
    simp [toIntS_v l hl, specShareOf_v l a hl, implShareOf_v l a hl, eqIntS_v l l hl, laws_FnExactShareOf.j0v_eq]
end Go.Proofs.Ytaggmlokldaclaa.Pure
