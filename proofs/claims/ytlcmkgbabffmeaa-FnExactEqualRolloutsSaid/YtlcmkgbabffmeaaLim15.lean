/- Written by a program of this session (limx.py): the equations of what the printed functions come to. No condition. -/
import Derived.Test.YtlcmkgbabffmeaaBase
import Derived.Test.YtlcmkgbabffmeaaPrint15
import Derived.Test.YtlcmkgbabffmeaaLim1
import Derived.Test.YtlcmkgbabffmeaaLim2
import Derived.Test.YtlcmkgbabffmeaaLim3
namespace Go.Proofs.Ytlcmkgbabffmeaa.Print
open Go.RowKit Go.Proofs.YtlcmkgbabffmeaaW.PrintWords Go.Proofs.YtlcmkgbabffmeaaW.PrintLast Go.Proofs.Ytlcmkgbabffmeaa.Base
set_option linter.unusedVariables false
set_option maxRecDepth 20000
noncomputable def laws_FnExactEqualRollouts.fv (a0_0 : Int) (l0_1 : List Int) (a0_2 : Int) (a0_3 : Bool) (a1_0 : Int) (l1_1 : List Int) (a1_2 : Int) (a1_3 : Bool) : Option (Bool) := Lim fun k => laws_FnExactEqualRollouts.f k a0_0 l0_1 a0_2 a0_3 a1_0 l1_1 a1_2 a1_3
theorem laws_FnExactEqualRollouts.f_is (a0_0 : Int) (l0_1 : List Int) (a0_2 : Int) (a0_3 : Bool) (a1_0 : Int) (l1_1 : List Int) (a1_2 : Int) (a1_3 : Bool) : Is (fun k => laws_FnExactEqualRollouts.f k a0_0 l0_1 a0_2 a0_3 a1_0 l1_1 a1_2 a1_3) (laws_FnExactEqualRollouts.fv a0_0 l0_1 a0_2 a0_3 a1_0 l1_1 a1_2 a1_3) := ⟨fun k => laws_FnExactEqualRollouts.mono a0_0 l0_1 a0_2 a0_3 a1_0 l1_1 a1_2 a1_3 k, rfl⟩
theorem laws_FnExactEqualRollouts.fv_eq (a0_0 : Int) (l0_1 : List Int) (a0_2 : Int) (a0_3 : Bool) (a1_0 : Int) (l1_1 : List Int) (a1_2 : Int) (a1_3 : Bool) : laws_FnExactEqualRollouts.fv a0_0 l0_1 a0_2 a0_3 a1_0 l1_1 a1_2 a1_3 = (laws_szRollout.f a0_0 l0_1 a0_2 a0_3 1048576).bind fun t172 => (if t172 < 0 then (some true) else ((laws_szRollout.f a1_0 l1_1 a1_2 a1_3 t172).bind fun t173 => (if t173 < 0 then (some true) else ((laws_toRollout.fv a0_0 l0_1 a0_2 a0_3).bind fun bt174 => ((laws_toRollout.fv a1_0 l1_1 a1_2 a1_3).bind fun bt180 => ((spec_EqualRollouts.fv bt174.1 bt174.2.1 bt174.2.2.1 bt174.2.2.2 bt180.1 bt180.2.1 bt180.2.2.1 bt180.2.2.2).bind fun t186 => ((laws_toRollout.fv a0_0 l0_1 a0_2 a0_3).bind fun bt187 => ((laws_toRollout.fv a1_0 l1_1 a1_2 a1_3).bind fun bt194 => ((impl_EqualRollouts.fv bt187.1 bt187.2.1 bt187.2.2.1 bt187.2.2.2 bt194.1 bt194.2.1 bt194.2.2.1 bt194.2.2.2).bind fun t201 => (if (t201 != t186) = true then (some false) else ((laws_toRollout.fv a0_0 l0_1 a0_2 a0_3).bind fun bt202 => ((laws_eqRollout.fv bt187.1 bt187.2.1 bt187.2.2.1 bt187.2.2.2 bt202.1 bt202.2.1 bt202.2.2.1 bt202.2.2.2).bind fun t208 => (if t208 = true then ((laws_toRollout.fv a1_0 l1_1 a1_2 a1_3).bind fun bt209 => ((laws_eqRollout.fv bt194.1 bt194.2.1 bt194.2.2.1 bt194.2.2.2 bt209.1 bt209.2.1 bt209.2.2.1 bt209.2.2.2).bind fun t215 => (if t215 = true then (some true) else (some false)))) else (some false)))))))))))))) := by
  refine Is.lim (g := fun k => laws_FnExactEqualRollouts.f k a0_0 l0_1 a0_2 a0_3 a1_0 l1_1 a1_2 a1_3) ?_
  · unfold laws_FnExactEqualRollouts.f
    repeat' first
    | with_reducible exact impl_EqualRollouts.f_is _ _ _ _ _ _ _ _
    | with_reducible exact laws_eqRollout.f_is _ _ _ _ _ _ _ _
    | with_reducible exact laws_toRollout.f_is _ _ _ _
    | with_reducible exact spec_EqualRollouts.f_is _ _ _ _ _ _ _ _
    | with_reducible exact Is.now _
    | with_reducible refine Is.ite ?_ ?_
    | with_reducible refine Is.bind ?_ (fun _ => ?_)
end Go.Proofs.Ytlcmkgbabffmeaa.Print
