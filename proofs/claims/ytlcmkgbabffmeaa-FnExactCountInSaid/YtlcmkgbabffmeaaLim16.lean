/- Written by a program of this session (limx.py): the equations of what the printed functions come to. No condition. -/
import Derived.Test.YtlcmkgbabffmeaaBase
import Derived.Test.YtlcmkgbabffmeaaPrint16
import Derived.Test.YtlcmkgbabffmeaaLim1
import Derived.Test.YtlcmkgbabffmeaaLim2
import Derived.Test.YtlcmkgbabffmeaaLim3
import Derived.Test.YtlcmkgbabffmeaaLim4
namespace Go.Proofs.Ytlcmkgbabffmeaa.Print
open Go.RowKit Go.Proofs.YtlcmkgbabffmeaaW.PrintWords Go.Proofs.YtlcmkgbabffmeaaW.PrintLast Go.Proofs.Ytlcmkgbabffmeaa.Base
set_option linter.unusedVariables false
set_option maxRecDepth 20000
noncomputable def laws_FnExactCountIn.fv (a0_0 : Int) (l0_1 : List Int) (a0_2 : Int) (a0_3 : Bool) (a1 : Int) : Option (Bool) := Lim fun k => laws_FnExactCountIn.f k a0_0 l0_1 a0_2 a0_3 a1
theorem laws_FnExactCountIn.f_is (a0_0 : Int) (l0_1 : List Int) (a0_2 : Int) (a0_3 : Bool) (a1 : Int) : Is (fun k => laws_FnExactCountIn.f k a0_0 l0_1 a0_2 a0_3 a1) (laws_FnExactCountIn.fv a0_0 l0_1 a0_2 a0_3 a1) := ⟨fun k => laws_FnExactCountIn.mono a0_0 l0_1 a0_2 a0_3 a1 k, rfl⟩
theorem laws_FnExactCountIn.fv_eq (a0_0 : Int) (l0_1 : List Int) (a0_2 : Int) (a0_3 : Bool) (a1 : Int) : laws_FnExactCountIn.fv a0_0 l0_1 a0_2 a0_3 a1 = (laws_szRollout.f a0_0 l0_1 a0_2 a0_3 1048576).bind fun t231 => (if t231 < 0 then (some true) else ((laws_toRollout.fv a0_0 l0_1 a0_2 a0_3).bind fun bt232 => ((spec_CountIn.fv bt232.1 bt232.2.1 bt232.2.2.1 bt232.2.2.2 a1).bind fun t238 => ((laws_toRollout.fv a0_0 l0_1 a0_2 a0_3).bind fun bt239 => ((impl_CountIn.fv bt239.1 bt239.2.1 bt239.2.2.1 bt239.2.2.2 a1).bind fun t246 => (if t246 = t238 then ((laws_toRollout.fv a0_0 l0_1 a0_2 a0_3).bind fun bt247 => ((laws_eqRollout.fv bt239.1 bt239.2.1 bt239.2.2.1 bt239.2.2.2 bt247.1 bt247.2.1 bt247.2.2.1 bt247.2.2.2).bind fun t253 => (if t253 = true then (some true) else (some false)))) else (some false))))))) := by
  refine Is.lim (g := fun k => laws_FnExactCountIn.f k a0_0 l0_1 a0_2 a0_3 a1) ?_
  · unfold laws_FnExactCountIn.f
    repeat' first
    | with_reducible exact impl_CountIn.f_is _ _ _ _ _
    | with_reducible exact laws_eqRollout.f_is _ _ _ _ _ _ _ _
    | with_reducible exact laws_toRollout.f_is _ _ _ _
    | with_reducible exact spec_CountIn.f_is _ _ _ _ _
    | with_reducible exact Is.now _
    | with_reducible refine Is.ite ?_ ?_
    | with_reducible refine Is.bind ?_ (fun _ => ?_)
end Go.Proofs.Ytlcmkgbabffmeaa.Print
