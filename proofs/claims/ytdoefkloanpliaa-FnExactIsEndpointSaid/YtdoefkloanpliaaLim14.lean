/- Written by a program of this session (limx.py): the equations of what the printed functions come to. No condition. -/
import Derived.Test.YtdoefkloanpliaaBase
import Derived.Test.YtdoefkloanpliaaPrint14
import Derived.Test.YtdoefkloanpliaaLim1
import Derived.Test.YtdoefkloanpliaaLim2
import Derived.Test.YtdoefkloanpliaaLim4
import Derived.Test.YtdoefkloanpliaaLim6
namespace Go.Proofs.Ytdoefkloanpliaa.Print
open Go.RowKit Go.Proofs.YtdoefkloanpliaaW.PrintWords Go.Proofs.YtdoefkloanpliaaW.PrintLast Go.Proofs.Ytdoefkloanpliaa.Base
set_option linter.unusedVariables false
set_option maxRecDepth 20000
noncomputable def laws_FnExactIsEndpoint.fv (l0_0 : List Int) (l0_1 : List Int) (l0_2 : List (S64)) (a0_3 : Int) : Option (Bool) := Lim fun k => laws_FnExactIsEndpoint.f k l0_0 l0_1 l0_2 a0_3
theorem laws_FnExactIsEndpoint.f_is (l0_0 : List Int) (l0_1 : List Int) (l0_2 : List (S64)) (a0_3 : Int) : Is (fun k => laws_FnExactIsEndpoint.f k l0_0 l0_1 l0_2 a0_3) (laws_FnExactIsEndpoint.fv l0_0 l0_1 l0_2 a0_3) := ⟨fun k => laws_FnExactIsEndpoint.mono l0_0 l0_1 l0_2 a0_3 k, rfl⟩
theorem laws_FnExactIsEndpoint.fv_eq (l0_0 : List Int) (l0_1 : List Int) (l0_2 : List (S64)) (a0_3 : Int) : laws_FnExactIsEndpoint.fv l0_0 l0_1 l0_2 a0_3 = (laws_szEndpoint.fv l0_0 l0_1 l0_2 a0_3 1048576).bind fun t219 => (if t219 < 0 then (some true) else ((laws_toEndpoint.fv l0_0 l0_1 l0_2 a0_3).bind fun bt220 => ((spec_IsEndpoint.fv bt220.1 bt220.2.1 bt220.2.2.1 bt220.2.2.2).bind fun t230 => ((laws_toEndpoint.fv l0_0 l0_1 l0_2 a0_3).bind fun bt231 => ((impl_IsEndpoint.fv bt231.1 bt231.2.1 bt231.2.2.1 bt231.2.2.2).bind fun t242 => (if (t242 != t230) = true then (some false) else ((laws_toEndpoint.fv l0_0 l0_1 l0_2 a0_3).bind fun bt243 => ((laws_eqEndpoint.fv bt231.1 bt231.2.1 bt231.2.2.1 bt231.2.2.2 bt243.1 bt243.2.1 bt243.2.2.1 bt243.2.2.2).bind fun t253 => (if t253 = true then (some true) else (some false)))))))))) := by
  refine Is.lim (g := fun k => laws_FnExactIsEndpoint.f k l0_0 l0_1 l0_2 a0_3) ?_
  · unfold laws_FnExactIsEndpoint.f
    repeat' first
    | with_reducible exact impl_IsEndpoint.f_is _ _ _ _
    | with_reducible exact laws_eqEndpoint.f_is _ _ _ _ _ _ _ _
    | with_reducible exact laws_szEndpoint.f_is _ _ _ _ _
    | with_reducible exact laws_toEndpoint.f_is _ _ _ _
    | with_reducible exact spec_IsEndpoint.f_is _ _ _ _
    | with_reducible exact Is.now _
    | with_reducible refine Is.ite ?_ ?_
    | with_reducible refine Is.bind ?_ (fun _ => ?_)
end Go.Proofs.Ytdoefkloanpliaa.Print
