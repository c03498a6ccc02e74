/- Written by a program of this session (limx.py): the equations of what the printed functions come to. No condition. -/
import Derived.Test.YtlcmkgbabffmeaaBase
import Derived.Test.YtlcmkgbabffmeaaPrint14
import Derived.Test.YtlcmkgbabffmeaaLim1
import Derived.Test.YtlcmkgbabffmeaaLim2
namespace Go.Proofs.Ytlcmkgbabffmeaa.Print
open Go.RowKit Go.Proofs.YtlcmkgbabffmeaaW.PrintWords Go.Proofs.YtlcmkgbabffmeaaW.PrintLast Go.Proofs.Ytlcmkgbabffmeaa.Base
set_option linter.unusedVariables false
set_option maxRecDepth 20000
noncomputable def laws_FnExactIsRollout.fv (a0_0 : Int) (l0_1 : List Int) (a0_2 : Int) (a0_3 : Bool) : Option (Bool) := Lim fun k => laws_FnExactIsRollout.f k a0_0 l0_1 a0_2 a0_3
theorem laws_FnExactIsRollout.f_is (a0_0 : Int) (l0_1 : List Int) (a0_2 : Int) (a0_3 : Bool) : Is (fun k => laws_FnExactIsRollout.f k a0_0 l0_1 a0_2 a0_3) (laws_FnExactIsRollout.fv a0_0 l0_1 a0_2 a0_3) := ⟨fun k => laws_FnExactIsRollout.mono a0_0 l0_1 a0_2 a0_3 k, rfl⟩
theorem laws_FnExactIsRollout.fv_eq (a0_0 : Int) (l0_1 : List Int) (a0_2 : Int) (a0_3 : Bool) : laws_FnExactIsRollout.fv a0_0 l0_1 a0_2 a0_3 = (laws_szRollout.f a0_0 l0_1 a0_2 a0_3 1048576).bind fun t137 => (if t137 < 0 then (some true) else ((laws_toRollout.fv a0_0 l0_1 a0_2 a0_3).bind fun bt138 => ((spec_IsRollout.fv bt138.1 bt138.2.1 bt138.2.2.1 bt138.2.2.2).bind fun t144 => ((laws_toRollout.fv a0_0 l0_1 a0_2 a0_3).bind fun bt145 => ((impl_IsRollout.fv bt145.1 bt145.2.1 bt145.2.2.1 bt145.2.2.2).bind fun t152 => (if (t152 != t144) = true then (some false) else ((laws_toRollout.fv a0_0 l0_1 a0_2 a0_3).bind fun bt153 => ((laws_eqRollout.fv bt145.1 bt145.2.1 bt145.2.2.1 bt145.2.2.2 bt153.1 bt153.2.1 bt153.2.2.1 bt153.2.2.2).bind fun t159 => (if t159 = true then (some true) else (some false)))))))))) := by
  refine Is.lim (g := fun k => laws_FnExactIsRollout.f k a0_0 l0_1 a0_2 a0_3) ?_
  · unfold laws_FnExactIsRollout.f
    repeat' first
    | with_reducible exact impl_IsRollout.f_is _ _ _ _
    | with_reducible exact laws_eqRollout.f_is _ _ _ _ _ _ _ _
    | with_reducible exact laws_toRollout.f_is _ _ _ _
    | with_reducible exact spec_IsRollout.f_is _ _ _ _
    | with_reducible exact Is.now _
    | with_reducible refine Is.ite ?_ ?_
    | with_reducible refine Is.bind ?_ (fun _ => ?_)
end Go.Proofs.Ytlcmkgbabffmeaa.Print
