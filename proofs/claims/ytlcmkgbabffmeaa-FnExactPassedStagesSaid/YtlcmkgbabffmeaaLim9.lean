/- Written by a program of this session (limx.py): the equations of what the printed functions come to. No condition. -/
import Derived.Test.YtlcmkgbabffmeaaBase
import Derived.Test.YtlcmkgbabffmeaaPrint9
import Derived.Test.YtlcmkgbabffmeaaLim1
import Derived.Test.YtlcmkgbabffmeaaLim2
import Derived.Test.YtlcmkgbabffmeaaLim3
namespace Go.Proofs.Ytlcmkgbabffmeaa.Print
open Go.RowKit Go.Proofs.YtlcmkgbabffmeaaW.PrintWords Go.Proofs.YtlcmkgbabffmeaaW.PrintLast Go.Proofs.Ytlcmkgbabffmeaa.Base
set_option linter.unusedVariables false
set_option maxRecDepth 20000
noncomputable def laws_FnExactPassedStages.fv (a0_0 : Int) (l0_1 : List Int) (a0_2 : Int) (a0_3 : Bool) (l1 : List Int) : Option (Bool) := Lim fun k => laws_FnExactPassedStages.f k a0_0 l0_1 a0_2 a0_3 l1
theorem laws_FnExactPassedStages.f_is (a0_0 : Int) (l0_1 : List Int) (a0_2 : Int) (a0_3 : Bool) (l1 : List Int) : Is (fun k => laws_FnExactPassedStages.f k a0_0 l0_1 a0_2 a0_3 l1) (laws_FnExactPassedStages.fv a0_0 l0_1 a0_2 a0_3 l1) := ⟨fun k => laws_FnExactPassedStages.mono a0_0 l0_1 a0_2 a0_3 l1 k, rfl⟩
theorem laws_FnExactPassedStages.fv_eq (a0_0 : Int) (l0_1 : List Int) (a0_2 : Int) (a0_3 : Bool) (l1 : List Int) : laws_FnExactPassedStages.fv a0_0 l0_1 a0_2 a0_3 l1 = if (l1.length : Int) > 1048576 then (some true) else ((laws_szRollout.f a0_0 l0_1 a0_2 a0_3 1048576).bind fun t252 => (if t252 < 0 then (some true) else ((laws_toRollout.fv a0_0 l0_1 a0_2 a0_3).bind fun bt253 => ((laws_toIntS.fv l1).bind fun t259 => ((spec_PassedStages.fv bt253.1 bt253.2.1 bt253.2.2.1 bt253.2.2.2 t259).bind fun t262 => ((laws_toRollout.fv a0_0 l0_1 a0_2 a0_3).bind fun bt263 => ((laws_toIntS.fv l1).bind fun t270 => ((impl_PassedStages.fv bt263.1 bt263.2.1 bt263.2.2.1 bt263.2.2.2 t270).bind fun t273 => (if t273 = t262 then ((laws_toRollout.fv a0_0 l0_1 a0_2 a0_3).bind fun bt274 => ((laws_eqRollout.fv bt263.1 bt263.2.1 bt263.2.2.1 bt263.2.2.2 bt274.1 bt274.2.1 bt274.2.2.1 bt274.2.2.2).bind fun t280 => (if t280 = true then ((laws_toIntS.fv l1).bind fun t281 => ((laws_eqIntS.fv t270 t281).bind fun t284 => (if t284 = true then (some true) else (some false)))) else (some false)))) else (some false)))))))))) := by
  refine Is.lim (g := fun k => laws_FnExactPassedStages.f k a0_0 l0_1 a0_2 a0_3 l1) ?_
  · unfold laws_FnExactPassedStages.f
    repeat' first
    | with_reducible exact impl_PassedStages.f_is _ _ _ _ _
    | with_reducible exact laws_eqIntS.f_is _ _
    | with_reducible exact laws_eqRollout.f_is _ _ _ _ _ _ _ _
    | with_reducible exact laws_toIntS.f_is _
    | with_reducible exact laws_toRollout.f_is _ _ _ _
    | with_reducible exact spec_PassedStages.f_is _ _ _ _ _
    | with_reducible exact Is.now _
    | with_reducible refine Is.ite ?_ ?_
    | with_reducible refine Is.bind ?_ (fun _ => ?_)
end Go.Proofs.Ytlcmkgbabffmeaa.Print
