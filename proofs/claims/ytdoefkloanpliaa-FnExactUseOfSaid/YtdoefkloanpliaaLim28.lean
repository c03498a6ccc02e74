/- Written by a program of this session (limx.py): the equations of what the printed functions come to. No condition. -/
import Derived.Test.YtdoefkloanpliaaBase
import Derived.Test.YtdoefkloanpliaaPrint28
import Derived.Test.YtdoefkloanpliaaLim1
import Derived.Test.YtdoefkloanpliaaLim2
import Derived.Test.YtdoefkloanpliaaLim3
namespace Go.Proofs.Ytdoefkloanpliaa.Print
open Go.RowKit Go.Proofs.YtdoefkloanpliaaW.PrintWords Go.Proofs.YtdoefkloanpliaaW.PrintLast Go.Proofs.Ytdoefkloanpliaa.Base
set_option linter.unusedVariables false
set_option maxRecDepth 20000
noncomputable def laws_FnExactUseOf.fv (l0 : List Int) (l1 : List (List Int)) (a2 : Int) : Option (Bool) := Lim fun k => laws_FnExactUseOf.f k l0 l1 a2
theorem laws_FnExactUseOf.f_is (l0 : List Int) (l1 : List (List Int)) (a2 : Int) : Is (fun k => laws_FnExactUseOf.f k l0 l1 a2) (laws_FnExactUseOf.fv l0 l1 a2) := ⟨fun k => laws_FnExactUseOf.mono l0 l1 a2 k, rfl⟩
theorem laws_FnExactUseOf.fv_eq (l0 : List Int) (l1 : List (List Int)) (a2 : Int) : laws_FnExactUseOf.fv l0 l1 a2 = if (l0.length : Int) > 1048576 then (some true) else ((laws_szIntSS.fv l1 1048576).bind fun t164 => (if t164 < 0 then (some true) else ((laws_toIntS.fv l0).bind fun t165 => ((laws_toIntSS.fv l1).bind fun t168 => ((spec_UseOf.fv t165 t168 a2).bind fun t171 => ((laws_toIntS.fv l0).bind fun t172 => ((laws_toIntSS.fv l1).bind fun t175 => ((impl_UseOf.fv t172 t175 a2).bind fun t178 => (if t178 = t171 then ((laws_toIntS.fv l0).bind fun t179 => ((laws_eqIntS.fv t172 t179).bind fun t182 => (if t182 = true then ((laws_toIntSS.fv l1).bind fun t183 => ((laws_eqIntSS.fv t175 t183).bind fun t186 => (if t186 = true then (some true) else (some false)))) else (some false)))) else (some false)))))))))) := by
  refine Is.lim (g := fun k => laws_FnExactUseOf.f k l0 l1 a2) ?_
  · unfold laws_FnExactUseOf.f
    repeat' first
    | with_reducible exact impl_UseOf.f_is _ _ _
    | with_reducible exact laws_eqIntS.f_is _ _
    | with_reducible exact laws_eqIntSS.f_is _ _
    | with_reducible exact laws_szIntSS.f_is _ _
    | with_reducible exact laws_toIntS.f_is _
    | with_reducible exact laws_toIntSS.f_is _
    | with_reducible exact spec_UseOf.f_is _ _ _
    | with_reducible exact Is.now _
    | with_reducible refine Is.ite ?_ ?_
    | with_reducible refine Is.bind ?_ (fun _ => ?_)
end Go.Proofs.Ytdoefkloanpliaa.Print
