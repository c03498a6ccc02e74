/- Written by a program of this session (limx.py): the equations of what the printed functions come to. No condition. -/
import Derived.Test.YtaggmlokldaclaaBase
import Derived.Test.YtaggmlokldaclaaPrint9
import Derived.Test.YtaggmlokldaclaaLim1
import Derived.Test.YtaggmlokldaclaaLim2
namespace Go.Proofs.Ytaggmlokldaclaa.Print
open Go.RowKit Go.Proofs.YtaggmlokldaclaaW.PrintWords Go.Proofs.YtaggmlokldaclaaW.PrintLast Go.Proofs.Ytaggmlokldaclaa.Base
set_option linter.unusedVariables false
set_option maxRecDepth 20000
noncomputable def laws_FnExactAreCounts.fv (l0 : List Int) : Option (Bool) := Lim fun k => laws_FnExactAreCounts.f k l0
theorem laws_FnExactAreCounts.f_is (l0 : List Int) : Is (fun k => laws_FnExactAreCounts.f k l0) (laws_FnExactAreCounts.fv l0) := ⟨fun k => laws_FnExactAreCounts.mono l0 k, rfl⟩
theorem laws_FnExactAreCounts.fv_eq (l0 : List Int) : laws_FnExactAreCounts.fv l0 = if (l0.length : Int) > 1048576 then (some true) else ((laws_toIntS.fv l0).bind fun t131 => ((spec_AreCounts.fv t131).bind fun t134 => ((laws_toIntS.fv l0).bind fun t135 => ((impl_AreCounts.fv t135).bind fun t138 => (if (t138 != t134) = true then (some false) else ((laws_toIntS.fv l0).bind fun t139 => ((laws_eqIntS.fv t135 t139).bind fun t142 => (if t142 = true then (some true) else (some false))))))))) := by
  refine Is.lim (g := fun k => laws_FnExactAreCounts.f k l0) ?_
  · unfold laws_FnExactAreCounts.f
    repeat' first
    | with_reducible exact impl_AreCounts.f_is _
    | with_reducible exact laws_eqIntS.f_is _ _
    | with_reducible exact laws_toIntS.f_is _
    | with_reducible exact spec_AreCounts.f_is _
    | with_reducible exact Is.now _
    | with_reducible refine Is.ite ?_ ?_
    | with_reducible refine Is.bind ?_ (fun _ => ?_)
end Go.Proofs.Ytaggmlokldaclaa.Print
