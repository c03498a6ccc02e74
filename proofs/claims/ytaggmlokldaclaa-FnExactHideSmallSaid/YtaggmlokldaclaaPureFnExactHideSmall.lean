/- FnExactHideSmall: whatever the slice and the number, the program's HideSmall and the reference's HideSmall return the same, leave the slice as it was, and share nothing with it. No condition. -/
import Derived.Test.YtaggmlokldaclaaInts
import Derived.Test.YtaggmlokldaclaaMarks
import Derived.Test.YtaggmlokldaclaaHides
import Derived.Test.YtaggmlokldaclaaLim13
set_option linter.unusedSimpArgs false
set_option linter.unusedVariables false
namespace Go.Proofs.Ytaggmlokldaclaa.Pure
open Go.RowKit Go.Proofs.YtaggmlokldaclaaW.PrintWords Go.Proofs.Ytaggmlokldaclaa.Base Go.Proofs.Ytaggmlokldaclaa.Print Go.Proofs.Ytaggmlokldaclaa.Plain

theorem FnExactHideSmall : laws_FnExactHideSmall.Pure := by
  intro l a _ _ _ _
  refine ends (g := fun k => laws_FnExactHideSmall.f k l a) ?_
  show laws_FnExactHideSmall.fv l a = some true
  rw [laws_FnExactHideSmall.fv_eq]
  split
  · rfl
  · have hl : l.length ≤ 1000000000000 := by omega
    have hh := hide_len l a
    simp only [toIntS_v l hl, specHide_v l a hl, implHide_v l a hl, eqIntS_v l l hl, eqIntS_v (hide l a) (hide l a) (by omega), Option.bind_some, decide_true, if_true,
      markIntS_v l 1 hl (by omega) (by omega), laws_FnExactHideSmall.j0v_eq, Bool.not_true, Bool.false_eq_true, if_false,
      markIntS_v (hide l a) 1 (by omega) (by omega) (by omega), heldIntS_v (hide l a).length 1 (by omega) (by omega) (by omega)]
    rw [if_neg (by omega), if_neg (by omega), if_neg (by omega)]
end Go.Proofs.Ytaggmlokldaclaa.Pure
