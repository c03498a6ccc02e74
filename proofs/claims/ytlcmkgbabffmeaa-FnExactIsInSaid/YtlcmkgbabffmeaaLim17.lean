/- Written by a program of this session (limx.py): the equations of what the printed functions come to. No condition. -/
import Derived.Test.YtlcmkgbabffmeaaBase
import Derived.Test.YtlcmkgbabffmeaaPrint17
import Derived.Test.YtlcmkgbabffmeaaLim1
import Derived.Test.YtlcmkgbabffmeaaLim2
import Derived.Test.YtlcmkgbabffmeaaLim4
namespace Go.Proofs.Ytlcmkgbabffmeaa.Print
open Go.RowKit Go.Proofs.YtlcmkgbabffmeaaW.PrintWords Go.Proofs.YtlcmkgbabffmeaaW.PrintLast Go.Proofs.Ytlcmkgbabffmeaa.Base
set_option linter.unusedVariables false
set_option maxRecDepth 20000
noncomputable def laws_FnExactIsIn.fv (a0_0 : Int) (l0_1 : List Int) (a0_2 : Int) (a0_3 : Bool) (a1 : Int) (a2 : Int) : Option (Bool) := Lim fun k => laws_FnExactIsIn.f k a0_0 l0_1 a0_2 a0_3 a1 a2
theorem laws_FnExactIsIn.f_is (a0_0 : Int) (l0_1 : List Int) (a0_2 : Int) (a0_3 : Bool) (a1 : Int) (a2 : Int) : Is (fun k => laws_FnExactIsIn.f k a0_0 l0_1 a0_2 a0_3 a1 a2) (laws_FnExactIsIn.fv a0_0 l0_1 a0_2 a0_3 a1 a2) := ⟨fun k => laws_FnExactIsIn.mono a0_0 l0_1 a0_2 a0_3 a1 a2 k, rfl⟩
theorem laws_FnExactIsIn.fv_eq (a0_0 : Int) (l0_1 : List Int) (a0_2 : Int) (a0_3 : Bool) (a1 : Int) (a2 : Int) : laws_FnExactIsIn.fv a0_0 l0_1 a0_2 a0_3 a1 a2 = (laws_szRollout.f a0_0 l0_1 a0_2 a0_3 1048576).bind fun t259 => (if t259 < 0 then (some true) else ((laws_toRollout.fv a0_0 l0_1 a0_2 a0_3).bind fun bt260 => ((spec_IsIn.fv bt260.1 bt260.2.1 bt260.2.2.1 bt260.2.2.2 a1 a2).bind fun t266 => ((laws_toRollout.fv a0_0 l0_1 a0_2 a0_3).bind fun bt267 => ((impl_IsIn.fv bt267.1 bt267.2.1 bt267.2.2.1 bt267.2.2.2 a1 a2).bind fun t274 => (if (t274 != t266) = true then (some false) else ((laws_toRollout.fv a0_0 l0_1 a0_2 a0_3).bind fun bt275 => ((laws_eqRollout.fv bt267.1 bt267.2.1 bt267.2.2.1 bt267.2.2.2 bt275.1 bt275.2.1 bt275.2.2.1 bt275.2.2.2).bind fun t281 => (if t281 = true then (some true) else (some false)))))))))) := by
  refine Is.lim (g := fun k => laws_FnExactIsIn.f k a0_0 l0_1 a0_2 a0_3 a1 a2) ?_
  · unfold laws_FnExactIsIn.f
    repeat' first
    | with_reducible exact impl_IsIn.f_is _ _ _ _ _ _
    | with_reducible exact laws_eqRollout.f_is _ _ _ _ _ _ _ _
    | with_reducible exact laws_toRollout.f_is _ _ _ _
    | with_reducible exact spec_IsIn.f_is _ _ _ _ _ _
    | with_reducible exact Is.now _
    | with_reducible refine Is.ite ?_ ?_
    | with_reducible refine Is.bind ?_ (fun _ => ?_)
end Go.Proofs.Ytlcmkgbabffmeaa.Print
