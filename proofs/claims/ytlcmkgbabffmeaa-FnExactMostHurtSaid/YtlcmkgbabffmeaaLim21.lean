/- Written by a program of this session (limx.py): the equations of what the printed functions come to. No condition. -/
import Derived.Test.YtlcmkgbabffmeaaBase
import Derived.Test.YtlcmkgbabffmeaaPrint21
import Derived.Test.YtlcmkgbabffmeaaLim1
import Derived.Test.YtlcmkgbabffmeaaLim2
import Derived.Test.YtlcmkgbabffmeaaLim9
namespace Go.Proofs.Ytlcmkgbabffmeaa.Print
open Go.RowKit Go.Proofs.YtlcmkgbabffmeaaW.PrintWords Go.Proofs.YtlcmkgbabffmeaaW.PrintLast Go.Proofs.Ytlcmkgbabffmeaa.Base
set_option linter.unusedVariables false
set_option maxRecDepth 20000
noncomputable def laws_FnExactMostHurt.fv (a0_0 : Int) (l0_1 : List Int) (a0_2 : Int) (a0_3 : Bool) (a1 : Int) (a2 : Int) : Option (Bool) := Lim fun k => laws_FnExactMostHurt.f k a0_0 l0_1 a0_2 a0_3 a1 a2
theorem laws_FnExactMostHurt.f_is (a0_0 : Int) (l0_1 : List Int) (a0_2 : Int) (a0_3 : Bool) (a1 : Int) (a2 : Int) : Is (fun k => laws_FnExactMostHurt.f k a0_0 l0_1 a0_2 a0_3 a1 a2) (laws_FnExactMostHurt.fv a0_0 l0_1 a0_2 a0_3 a1 a2) := ⟨fun k => laws_FnExactMostHurt.mono a0_0 l0_1 a0_2 a0_3 a1 a2 k, rfl⟩
theorem laws_FnExactMostHurt.fv_eq (a0_0 : Int) (l0_1 : List Int) (a0_2 : Int) (a0_3 : Bool) (a1 : Int) (a2 : Int) : laws_FnExactMostHurt.fv a0_0 l0_1 a0_2 a0_3 a1 a2 = (laws_szRollout.f a0_0 l0_1 a0_2 a0_3 1048576).bind fun t661 => (if t661 < 0 then (some true) else ((laws_toRollout.fv a0_0 l0_1 a0_2 a0_3).bind fun bt662 => ((spec_MostHurt.fv bt662.1 bt662.2.1 bt662.2.2.1 bt662.2.2.2 a1 a2).bind fun t668 => ((laws_toRollout.fv a0_0 l0_1 a0_2 a0_3).bind fun bt669 => ((impl_MostHurt.fv bt669.1 bt669.2.1 bt669.2.2.1 bt669.2.2.2 a1 a2).bind fun t676 => (if t676 = t668 then ((laws_toRollout.fv a0_0 l0_1 a0_2 a0_3).bind fun bt677 => ((laws_eqRollout.fv bt669.1 bt669.2.1 bt669.2.2.1 bt669.2.2.2 bt677.1 bt677.2.1 bt677.2.2.1 bt677.2.2.2).bind fun t683 => (if t683 = true then (some true) else (some false)))) else (some false))))))) := by
  refine Is.lim (g := fun k => laws_FnExactMostHurt.f k a0_0 l0_1 a0_2 a0_3 a1 a2) ?_
  · unfold laws_FnExactMostHurt.f
    repeat' first
    | with_reducible exact impl_MostHurt.f_is _ _ _ _ _ _
    | with_reducible exact laws_eqRollout.f_is _ _ _ _ _ _ _ _
    | with_reducible exact laws_toRollout.f_is _ _ _ _
    | with_reducible exact spec_MostHurt.f_is _ _ _ _ _ _
    | with_reducible exact Is.now _
    | with_reducible refine Is.ite ?_ ?_
    | with_reducible refine Is.bind ?_ (fun _ => ?_)
end Go.Proofs.Ytlcmkgbabffmeaa.Print
