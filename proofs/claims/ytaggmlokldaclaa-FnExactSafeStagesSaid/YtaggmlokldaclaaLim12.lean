/- Written by a program of this session (limx.py): the equations of what the printed functions come to. No condition. -/
import Derived.Test.YtaggmlokldaclaaBase
import Derived.Test.YtaggmlokldaclaaPrint12
import Derived.Test.YtaggmlokldaclaaLim2
import Derived.Test.YtaggmlokldaclaaLim3
import Derived.Test.YtaggmlokldaclaaLim4
namespace Go.Proofs.Ytaggmlokldaclaa.Print
open Go.RowKit Go.Proofs.YtaggmlokldaclaaW.PrintWords Go.Proofs.YtaggmlokldaclaaW.PrintLast Go.Proofs.Ytaggmlokldaclaa.Base
set_option linter.unusedVariables false
set_option maxRecDepth 20000
noncomputable def laws_FnExactSafeStages.fv (a0 : Int) (a1 : Int) : Option (Bool) := Lim fun k => laws_FnExactSafeStages.f k a0 a1
theorem laws_FnExactSafeStages.f_is (a0 : Int) (a1 : Int) : Is (fun k => laws_FnExactSafeStages.f k a0 a1) (laws_FnExactSafeStages.fv a0 a1) := ⟨fun k => laws_FnExactSafeStages.mono a0 a1 k, rfl⟩
theorem laws_FnExactSafeStages.fv_eq (a0 : Int) (a1 : Int) : laws_FnExactSafeStages.fv a0 a1 = (spec_SafeStages.fv a0 a1).bind fun t217 => ((impl_SafeStages.fv a0 a1).bind fun t220 => ((laws_eqIntS.fv t220 t217).bind fun t223 => (if t223 = true then ((laws_markIntS.fv t220 1).bind fun bt224 => ((laws_heldIntS.fv bt224.2 1).bind fun t226 => (if t226 < 0 then (some false) else (if t226 = bt224.1 then ((impl_SafeStages.fv a0 a1).bind fun t227 => ((laws_eqIntS.fv t227 t217).bind fun t230 => (if t230 = true then ((laws_heldIntS.fv bt224.2 1).bind fun t231 => (if t231 < 0 then (some false) else (if t231 = bt224.1 then (some true) else (some false)))) else (some false)))) else (some false))))) else (some false)))) := by
  refine Is.lim (g := fun k => laws_FnExactSafeStages.f k a0 a1) ?_
  · unfold laws_FnExactSafeStages.f
    repeat' first
    | with_reducible exact impl_SafeStages.f_is _ _
    | with_reducible exact laws_eqIntS.f_is _ _
    | with_reducible exact laws_heldIntS.f_is _ _
    | with_reducible exact laws_markIntS.f_is _ _
    | with_reducible exact spec_SafeStages.f_is _ _
    | with_reducible exact Is.now _
    | with_reducible refine Is.ite ?_ ?_
    | with_reducible refine Is.bind ?_ (fun _ => ?_)
end Go.Proofs.Ytaggmlokldaclaa.Print
