/- Written by a program of this session (limx.py): the equations of what the printed functions come to. No condition. -/
import Derived.Test.YtlcmkgbabffmeaaBase
import Derived.Test.YtlcmkgbabffmeaaPrint19
import Derived.Test.YtlcmkgbabffmeaaLim1
import Derived.Test.YtlcmkgbabffmeaaLim2
import Derived.Test.YtlcmkgbabffmeaaLim5
namespace Go.Proofs.Ytlcmkgbabffmeaa.Print
open Go.RowKit Go.Proofs.YtlcmkgbabffmeaaW.PrintWords Go.Proofs.YtlcmkgbabffmeaaW.PrintLast Go.Proofs.Ytlcmkgbabffmeaa.Base
set_option linter.unusedVariables false
set_option maxRecDepth 20000
noncomputable def laws_FnExactBackStage.j0v (x5 : Bool) (x8 : Bool) (x40 : Bool) (x407000 : Int) (x407001 : List Int) (x407002 : Int) (x407003 : Bool) (x422000 : Int) (x422001 : List Int) (x422002 : Int) (x422003 : Bool) (x429000 : Int) (x429001 : List Int) (x429002 : Int) (x429003 : Bool) (x437000 : Int) (x437001 : List Int) (x437002 : Int) (x437003 : Bool) : Option (Bool) := Lim fun k => laws_FnExactBackStage.j0 k x5 x8 x40 x407000 x407001 x407002 x407003 x422000 x422001 x422002 x422003 x429000 x429001 x429002 x429003 x437000 x437001 x437002 x437003
noncomputable def laws_FnExactBackStage.j1v (x5 : Bool) (x61 : Bool) (x407000 : Int) (x407001 : List Int) (x407002 : Int) (x407003 : Bool) (x422000 : Int) (x422001 : List Int) (x422002 : Int) (x422003 : Bool) (x437000 : Int) (x437001 : List Int) (x437002 : Int) (x437003 : Bool) : Option (Bool) := Lim fun k => laws_FnExactBackStage.j1 k x5 x61 x407000 x407001 x407002 x407003 x422000 x422001 x422002 x422003 x437000 x437001 x437002 x437003
noncomputable def laws_FnExactBackStage.j2v (x10 : Int) (x87 : Bool) (x437000 : Int) (x437001 : List Int) (x437002 : Int) (x437003 : Bool) : Option (Bool) := Lim fun k => laws_FnExactBackStage.j2 k x10 x87 x437000 x437001 x437002 x437003
noncomputable def laws_FnExactBackStage.fv (a0_0 : Int) (l0_1 : List Int) (a0_2 : Int) (a0_3 : Bool) : Option (Bool) := Lim fun k => laws_FnExactBackStage.f k a0_0 l0_1 a0_2 a0_3
theorem laws_FnExactBackStage.j0_is (x5 : Bool) (x8 : Bool) (x40 : Bool) (x407000 : Int) (x407001 : List Int) (x407002 : Int) (x407003 : Bool) (x422000 : Int) (x422001 : List Int) (x422002 : Int) (x422003 : Bool) (x429000 : Int) (x429001 : List Int) (x429002 : Int) (x429003 : Bool) (x437000 : Int) (x437001 : List Int) (x437002 : Int) (x437003 : Bool) : Is (fun k => laws_FnExactBackStage.j0 k x5 x8 x40 x407000 x407001 x407002 x407003 x422000 x422001 x422002 x422003 x429000 x429001 x429002 x429003 x437000 x437001 x437002 x437003) (laws_FnExactBackStage.j0v x5 x8 x40 x407000 x407001 x407002 x407003 x422000 x422001 x422002 x422003 x429000 x429001 x429002 x429003 x437000 x437001 x437002 x437003) := ⟨fun k => (laws_FnExactBackStage.mono_l k).1 x5 x8 x40 x407000 x407001 x407002 x407003 x422000 x422001 x422002 x422003 x429000 x429001 x429002 x429003 x437000 x437001 x437002 x437003, rfl⟩
theorem laws_FnExactBackStage.j1_is (x5 : Bool) (x61 : Bool) (x407000 : Int) (x407001 : List Int) (x407002 : Int) (x407003 : Bool) (x422000 : Int) (x422001 : List Int) (x422002 : Int) (x422003 : Bool) (x437000 : Int) (x437001 : List Int) (x437002 : Int) (x437003 : Bool) : Is (fun k => laws_FnExactBackStage.j1 k x5 x61 x407000 x407001 x407002 x407003 x422000 x422001 x422002 x422003 x437000 x437001 x437002 x437003) (laws_FnExactBackStage.j1v x5 x61 x407000 x407001 x407002 x407003 x422000 x422001 x422002 x422003 x437000 x437001 x437002 x437003) := ⟨fun k => (laws_FnExactBackStage.mono_l k).2.1 x5 x61 x407000 x407001 x407002 x407003 x422000 x422001 x422002 x422003 x437000 x437001 x437002 x437003, rfl⟩
theorem laws_FnExactBackStage.j2_is (x10 : Int) (x87 : Bool) (x437000 : Int) (x437001 : List Int) (x437002 : Int) (x437003 : Bool) : Is (fun k => laws_FnExactBackStage.j2 k x10 x87 x437000 x437001 x437002 x437003) (laws_FnExactBackStage.j2v x10 x87 x437000 x437001 x437002 x437003) := ⟨fun k => (laws_FnExactBackStage.mono_l k).2.2 x10 x87 x437000 x437001 x437002 x437003, rfl⟩
theorem laws_FnExactBackStage.f_is (a0_0 : Int) (l0_1 : List Int) (a0_2 : Int) (a0_3 : Bool) : Is (fun k => laws_FnExactBackStage.f k a0_0 l0_1 a0_2 a0_3) (laws_FnExactBackStage.fv a0_0 l0_1 a0_2 a0_3) := ⟨fun k => laws_FnExactBackStage.mono a0_0 l0_1 a0_2 a0_3 k, rfl⟩
theorem laws_FnExactBackStage.j0v_eq (x5 : Bool) (x8 : Bool) (x40 : Bool) (x407000 : Int) (x407001 : List Int) (x407002 : Int) (x407003 : Bool) (x422000 : Int) (x422001 : List Int) (x422002 : Int) (x422003 : Bool) (x429000 : Int) (x429001 : List Int) (x429002 : Int) (x429003 : Bool) (x437000 : Int) (x437001 : List Int) (x437002 : Int) (x437003 : Bool) : laws_FnExactBackStage.j0v x5 x8 x40 x407000 x407001 x407002 x407003 x422000 x422001 x422002 x422003 x429000 x429001 x429002 x429003 x437000 x437001 x437002 x437003 = if x40 = true then (some false) else ((laws_toRollout.fv x407000 x407001 x407002 x407003).bind fun bt438 => ((laws_eqRollout.fv x429000 x429001 x429002 x429003 bt438.1 bt438.2.1 bt438.2.2.1 bt438.2.2.2).bind fun t444 => (if t444 = true then ((laws_markRollout.fv x429000 x429001 x429002 x429003 1).bind fun bt445 => (if bt445.1 < 0 then (laws_FnExactBackStage.j1v x5 true x407000 x407001 x407002 x407003 x422000 x422001 x422002 x422003 x437000 x437001 x437002 x437003) else ((laws_eqRollout.fv x437000 x437001 x437002 x437003 x422000 x422001 x422002 x422003).bind fun t447 => (if t447 = true then (laws_FnExactBackStage.j1v x5 (x8 != x5) x407000 x407001 x407002 x407003 x422000 x422001 x422002 x422003 x437000 x437001 x437002 x437003) else (laws_FnExactBackStage.j1v x5 true x407000 x407001 x407002 x407003 x422000 x422001 x422002 x422003 x437000 x437001 x437002 x437003))))) else (some false)))) := by
  refine Is.step (laws_FnExactBackStage.j0_is x5 x8 x40 x407000 x407001 x407002 x407003 x422000 x422001 x422002 x422003 x429000 x429001 x429002 x429003 x437000 x437001 x437002 x437003).mo (fun k => by rw [laws_FnExactBackStage.j0]) ?_
  · skip
    repeat' first
    | with_reducible exact laws_FnExactBackStage.j1_is _ _ _ _ _ _ _ _ _ _ _ _ _ _
    | with_reducible exact laws_eqRollout.f_is _ _ _ _ _ _ _ _
    | with_reducible exact laws_markRollout.f_is _ _ _ _ _
    | with_reducible exact laws_toRollout.f_is _ _ _ _
    | with_reducible exact Is.now _
    | with_reducible refine Is.ite ?_ ?_
    | with_reducible refine Is.bind ?_ (fun _ => ?_)
theorem laws_FnExactBackStage.j1v_eq (x5 : Bool) (x61 : Bool) (x407000 : Int) (x407001 : List Int) (x407002 : Int) (x407003 : Bool) (x422000 : Int) (x422001 : List Int) (x422002 : Int) (x422003 : Bool) (x437000 : Int) (x437001 : List Int) (x437002 : Int) (x437003 : Bool) : laws_FnExactBackStage.j1v x5 x61 x407000 x407001 x407002 x407003 x422000 x422001 x422002 x422003 x437000 x437001 x437002 x437003 = if x61 = true then (some false) else ((laws_markRollout.fv x437000 x437001 x437002 x437003 1).bind fun bt448 => ((laws_heldRollout.fv x437000 bt448.2 x437002 x437003 1).bind fun t450 => (if t450 < 0 then (some false) else (if t450 = bt448.1 then ((laws_toRollout.fv x407000 x407001 x407002 x407003).bind fun bt451 => ((impl_BackStage.fv bt451.1 bt451.2.1 bt451.2.2.1 bt451.2.2.2).bind fun bt457 => ((laws_eqRollout.fv bt457.1 bt457.2.1 bt457.2.2.1 bt457.2.2.2.1 x422000 x422001 x422002 x422003).bind fun t465 => (if t465 = true then (laws_FnExactBackStage.j2v bt448.1 (bt457.2.2.2.2 != x5) x437000 bt448.2 x437002 x437003) else (laws_FnExactBackStage.j2v bt448.1 true x437000 bt448.2 x437002 x437003))))) else (some false))))) := by
  refine Is.step (laws_FnExactBackStage.j1_is x5 x61 x407000 x407001 x407002 x407003 x422000 x422001 x422002 x422003 x437000 x437001 x437002 x437003).mo (fun k => by rw [laws_FnExactBackStage.j1]) ?_
  · skip
    repeat' first
    | with_reducible exact impl_BackStage.f_is _ _ _ _
    | with_reducible exact laws_FnExactBackStage.j2_is _ _ _ _ _ _
    | with_reducible exact laws_eqRollout.f_is _ _ _ _ _ _ _ _
    | with_reducible exact laws_heldRollout.f_is _ _ _ _ _
    | with_reducible exact laws_markRollout.f_is _ _ _ _ _
    | with_reducible exact laws_toRollout.f_is _ _ _ _
    | with_reducible exact Is.now _
    | with_reducible refine Is.ite ?_ ?_
    | with_reducible refine Is.bind ?_ (fun _ => ?_)
theorem laws_FnExactBackStage.j2v_eq (x10 : Int) (x87 : Bool) (x437000 : Int) (x437001 : List Int) (x437002 : Int) (x437003 : Bool) : laws_FnExactBackStage.j2v x10 x87 x437000 x437001 x437002 x437003 = if x87 = true then (some false) else ((laws_heldRollout.fv x437000 x437001 x437002 x437003 1).bind fun t466 => (if t466 < 0 then (some false) else (if t466 = x10 then (some true) else (some false)))) := by
  refine Is.step (laws_FnExactBackStage.j2_is x10 x87 x437000 x437001 x437002 x437003).mo (fun k => by rw [laws_FnExactBackStage.j2]) ?_
  · skip
    repeat' first
    | with_reducible exact laws_heldRollout.f_is _ _ _ _ _
    | with_reducible exact Is.now _
    | with_reducible refine Is.ite ?_ ?_
    | with_reducible refine Is.bind ?_ (fun _ => ?_)
theorem laws_FnExactBackStage.fv_eq (a0_0 : Int) (l0_1 : List Int) (a0_2 : Int) (a0_3 : Bool) : laws_FnExactBackStage.fv a0_0 l0_1 a0_2 a0_3 = (laws_szRollout.f a0_0 l0_1 a0_2 a0_3 1048576).bind fun t407 => (if t407 < 0 then (some true) else ((laws_toRollout.fv a0_0 l0_1 a0_2 a0_3).bind fun bt408 => ((spec_BackStage.fv bt408.1 bt408.2.1 bt408.2.2.1 bt408.2.2.2).bind fun bt414 => ((laws_toRollout.fv a0_0 l0_1 a0_2 a0_3).bind fun bt422 => ((impl_BackStage.fv bt422.1 bt422.2.1 bt422.2.2.1 bt422.2.2.2).bind fun bt429 => ((laws_eqRollout.fv bt429.1 bt429.2.1 bt429.2.2.1 bt429.2.2.2.1 bt414.1 bt414.2.1 bt414.2.2.1 bt414.2.2.2.1).bind fun t437 => (if t437 = true then (laws_FnExactBackStage.j0v bt414.2.2.2.2 bt429.2.2.2.2 (bt429.2.2.2.2 != bt414.2.2.2.2) a0_0 l0_1 a0_2 a0_3 bt414.1 bt414.2.1 bt414.2.2.1 bt414.2.2.2.1 bt422.1 bt422.2.1 bt422.2.2.1 bt422.2.2.2 bt429.1 bt429.2.1 bt429.2.2.1 bt429.2.2.2.1) else (laws_FnExactBackStage.j0v bt414.2.2.2.2 bt429.2.2.2.2 true a0_0 l0_1 a0_2 a0_3 bt414.1 bt414.2.1 bt414.2.2.1 bt414.2.2.2.1 bt422.1 bt422.2.1 bt422.2.2.1 bt422.2.2.2 bt429.1 bt429.2.1 bt429.2.2.1 bt429.2.2.2.1)))))))) := by
  refine Is.lim (g := fun k => laws_FnExactBackStage.f k a0_0 l0_1 a0_2 a0_3) ?_
  · unfold laws_FnExactBackStage.f
    repeat' first
    | with_reducible exact impl_BackStage.f_is _ _ _ _
    | with_reducible exact laws_FnExactBackStage.j0_is _ _ _ _ _ _ _ _ _ _ _ _ _ _ _ _ _ _ _
    | with_reducible exact laws_eqRollout.f_is _ _ _ _ _ _ _ _
    | with_reducible exact laws_toRollout.f_is _ _ _ _
    | with_reducible exact spec_BackStage.f_is _ _ _ _
    | with_reducible exact Is.now _
    | with_reducible refine Is.ite ?_ ?_
    | with_reducible refine Is.bind ?_ (fun _ => ?_)
end Go.Proofs.Ytlcmkgbabffmeaa.Print
