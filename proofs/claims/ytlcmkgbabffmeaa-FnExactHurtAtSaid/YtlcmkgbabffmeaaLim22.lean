/- Written by a program of this session (limx.py): the equations of what the printed functions come to. No condition. -/
import Derived.Test.YtlcmkgbabffmeaaBase
import Derived.Test.YtlcmkgbabffmeaaPrint22
import Derived.Test.YtlcmkgbabffmeaaLim1
import Derived.Test.YtlcmkgbabffmeaaLim2
import Derived.Test.YtlcmkgbabffmeaaLim10
namespace Go.Proofs.Ytlcmkgbabffmeaa.Print
open Go.RowKit Go.Proofs.YtlcmkgbabffmeaaW.PrintWords Go.Proofs.YtlcmkgbabffmeaaW.PrintLast Go.Proofs.Ytlcmkgbabffmeaa.Base
set_option linter.unusedVariables false
set_option maxRecDepth 20000
noncomputable def laws_FnExactHurtAt.fv (a0_0 : Int) (l0_1 : List Int) (a0_2 : Int) (a0_3 : Bool) (a1 : Int) (l2 : List Bool) : Option (Bool) := Lim fun k => laws_FnExactHurtAt.f k a0_0 l0_1 a0_2 a0_3 a1 l2
theorem laws_FnExactHurtAt.f_is (a0_0 : Int) (l0_1 : List Int) (a0_2 : Int) (a0_3 : Bool) (a1 : Int) (l2 : List Bool) : Is (fun k => laws_FnExactHurtAt.f k a0_0 l0_1 a0_2 a0_3 a1 l2) (laws_FnExactHurtAt.fv a0_0 l0_1 a0_2 a0_3 a1 l2) := ⟨fun k => laws_FnExactHurtAt.mono a0_0 l0_1 a0_2 a0_3 a1 l2 k, rfl⟩
theorem laws_FnExactHurtAt.fv_eq (a0_0 : Int) (l0_1 : List Int) (a0_2 : Int) (a0_3 : Bool) (a1 : Int) (l2 : List Bool) : laws_FnExactHurtAt.fv a0_0 l0_1 a0_2 a0_3 a1 l2 = if (l2.length : Int) > 1048576 then (some true) else ((laws_szRollout.f a0_0 l0_1 a0_2 a0_3 1048576).bind fun t698 => (if t698 < 0 then (some true) else ((laws_toRollout.fv a0_0 l0_1 a0_2 a0_3).bind fun bt699 => ((laws_toBoolS.fv l2).bind fun t705 => ((spec_HurtAt.fv bt699.1 bt699.2.1 bt699.2.2.1 bt699.2.2.2 a1 t705).bind fun t708 => ((laws_toRollout.fv a0_0 l0_1 a0_2 a0_3).bind fun bt709 => ((laws_toBoolS.fv l2).bind fun t716 => ((impl_HurtAt.fv bt709.1 bt709.2.1 bt709.2.2.1 bt709.2.2.2 a1 t716).bind fun t719 => (if t719 = t708 then ((laws_toRollout.fv a0_0 l0_1 a0_2 a0_3).bind fun bt720 => ((laws_eqRollout.fv bt709.1 bt709.2.1 bt709.2.2.1 bt709.2.2.2 bt720.1 bt720.2.1 bt720.2.2.1 bt720.2.2.2).bind fun t726 => (if t726 = true then ((laws_toBoolS.fv l2).bind fun t727 => ((laws_eqBoolS.fv t716 t727).bind fun t730 => (if t730 = true then (some true) else (some false)))) else (some false)))) else (some false)))))))))) := by
  refine Is.lim (g := fun k => laws_FnExactHurtAt.f k a0_0 l0_1 a0_2 a0_3 a1 l2) ?_
  · unfold laws_FnExactHurtAt.f
    repeat' first
    | with_reducible exact impl_HurtAt.f_is _ _ _ _ _ _
    | with_reducible exact laws_eqBoolS.f_is _ _
    | with_reducible exact laws_eqRollout.f_is _ _ _ _ _ _ _ _
    | with_reducible exact laws_toBoolS.f_is _
    | with_reducible exact laws_toRollout.f_is _ _ _ _
    | with_reducible exact spec_HurtAt.f_is _ _ _ _ _ _
    | with_reducible exact Is.now _
    | with_reducible refine Is.ite ?_ ?_
    | with_reducible refine Is.bind ?_ (fun _ => ?_)
end Go.Proofs.Ytlcmkgbabffmeaa.Print
