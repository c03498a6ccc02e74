/- Written by a program of this session (limx.py): the equations of what the printed functions come to. No condition. -/
import Derived.Test.YtaggmlokldaclaaBase
import Derived.Test.YtaggmlokldaclaaPrint14
import Derived.Test.YtaggmlokldaclaaLim1
import Derived.Test.YtaggmlokldaclaaLim2
import Derived.Test.YtaggmlokldaclaaLim5
namespace Go.Proofs.Ytaggmlokldaclaa.Print
open Go.RowKit Go.Proofs.YtaggmlokldaclaaW.PrintWords Go.Proofs.YtaggmlokldaclaaW.PrintLast Go.Proofs.Ytaggmlokldaclaa.Base
set_option linter.unusedVariables false
set_option maxRecDepth 20000
noncomputable def laws_FnExactHiddenIn.fv (l0 : List Int) (a1 : Int) : Option (Bool) := Lim fun k => laws_FnExactHiddenIn.f k l0 a1
theorem laws_FnExactHiddenIn.f_is (l0 : List Int) (a1 : Int) : Is (fun k => laws_FnExactHiddenIn.f k l0 a1) (laws_FnExactHiddenIn.fv l0 a1) := ⟨fun k => laws_FnExactHiddenIn.mono l0 a1 k, rfl⟩
theorem laws_FnExactHiddenIn.fv_eq (l0 : List Int) (a1 : Int) : laws_FnExactHiddenIn.fv l0 a1 = if (l0.length : Int) > 1048576 then (some true) else ((laws_toIntS.fv l0).bind fun t299 => ((spec_HiddenIn.fv t299 a1).bind fun t302 => ((laws_toIntS.fv l0).bind fun t303 => ((impl_HiddenIn.fv t303 a1).bind fun t306 => (if t306 = t302 then ((laws_toIntS.fv l0).bind fun t307 => ((laws_eqIntS.fv t303 t307).bind fun t310 => (if t310 = true then (some true) else (some false)))) else (some false)))))) := by
  refine Is.lim (g := fun k => laws_FnExactHiddenIn.f k l0 a1) ?_
  · unfold laws_FnExactHiddenIn.f
    repeat' first
    | with_reducible exact impl_HiddenIn.f_is _ _
    | with_reducible exact laws_eqIntS.f_is _ _
    | with_reducible exact laws_toIntS.f_is _
    | with_reducible exact spec_HiddenIn.f_is _ _
    | with_reducible exact Is.now _
    | with_reducible refine Is.ite ?_ ?_
    | with_reducible refine Is.bind ?_ (fun _ => ?_)
end Go.Proofs.Ytaggmlokldaclaa.Print
