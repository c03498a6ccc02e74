/- Written by a program of this session (limx.py): the equations of what the printed functions come to. No condition. -/
import Derived.Test.YtlcmkgbabffmeaaBase
import Derived.Test.YtlcmkgbabffmeaaPrint18
import Derived.Test.YtlcmkgbabffmeaaLim1
import Derived.Test.YtlcmkgbabffmeaaLim2
import Derived.Test.YtlcmkgbabffmeaaLim4
import Derived.Test.YtlcmkgbabffmeaaLim5
namespace Go.Proofs.Ytlcmkgbabffmeaa.Print
open Go.RowKit Go.Proofs.YtlcmkgbabffmeaaW.PrintWords Go.Proofs.YtlcmkgbabffmeaaW.PrintLast Go.Proofs.Ytlcmkgbabffmeaa.Base
set_option linter.unusedVariables false
set_option maxRecDepth 20000
noncomputable def laws_FnExactNextStage.j0v (x5 : Bool) (x8 : Bool) (x40 : Bool) (x326000 : Int) (x326001 : List Int) (x326002 : Int) (x326003 : Bool) (x341000 : Int) (x341001 : List Int) (x341002 : Int) (x341003 : Bool) (x348000 : Int) (x348001 : List Int) (x348002 : Int) (x348003 : Bool) (x356000 : Int) (x356001 : List Int) (x356002 : Int) (x356003 : Bool) : Option (Bool) := Lim fun k => laws_FnExactNextStage.j0 k x5 x8 x40 x326000 x326001 x326002 x326003 x341000 x341001 x341002 x341003 x348000 x348001 x348002 x348003 x356000 x356001 x356002 x356003
noncomputable def laws_FnExactNextStage.j1v (x5 : Bool) (x61 : Bool) (x326000 : Int) (x326001 : List Int) (x326002 : Int) (x326003 : Bool) (x341000 : Int) (x341001 : List Int) (x341002 : Int) (x341003 : Bool) (x356000 : Int) (x356001 : List Int) (x356002 : Int) (x356003 : Bool) : Option (Bool) := Lim fun k => laws_FnExactNextStage.j1 k x5 x61 x326000 x326001 x326002 x326003 x341000 x341001 x341002 x341003 x356000 x356001 x356002 x356003
noncomputable def laws_FnExactNextStage.j2v (x10 : Int) (x87 : Bool) (x356000 : Int) (x356001 : List Int) (x356002 : Int) (x356003 : Bool) : Option (Bool) := Lim fun k => laws_FnExactNextStage.j2 k x10 x87 x356000 x356001 x356002 x356003
noncomputable def laws_FnExactNextStage.fv (a0_0 : Int) (l0_1 : List Int) (a0_2 : Int) (a0_3 : Bool) : Option (Bool) := Lim fun k => laws_FnExactNextStage.f k a0_0 l0_1 a0_2 a0_3
theorem laws_FnExactNextStage.j0_is (x5 : Bool) (x8 : Bool) (x40 : Bool) (x326000 : Int) (x326001 : List Int) (x326002 : Int) (x326003 : Bool) (x341000 : Int) (x341001 : List Int) (x341002 : Int) (x341003 : Bool) (x348000 : Int) (x348001 : List Int) (x348002 : Int) (x348003 : Bool) (x356000 : Int) (x356001 : List Int) (x356002 : Int) (x356003 : Bool) : Is (fun k => laws_FnExactNextStage.j0 k x5 x8 x40 x326000 x326001 x326002 x326003 x341000 x341001 x341002 x341003 x348000 x348001 x348002 x348003 x356000 x356001 x356002 x356003) (laws_FnExactNextStage.j0v x5 x8 x40 x326000 x326001 x326002 x326003 x341000 x341001 x341002 x341003 x348000 x348001 x348002 x348003 x356000 x356001 x356002 x356003) := ⟨fun k => (laws_FnExactNextStage.mono_l k).1 x5 x8 x40 x326000 x326001 x326002 x326003 x341000 x341001 x341002 x341003 x348000 x348001 x348002 x348003 x356000 x356001 x356002 x356003, rfl⟩
theorem laws_FnExactNextStage.j1_is (x5 : Bool) (x61 : Bool) (x326000 : Int) (x326001 : List Int) (x326002 : Int) (x326003 : Bool) (x341000 : Int) (x341001 : List Int) (x341002 : Int) (x341003 : Bool) (x356000 : Int) (x356001 : List Int) (x356002 : Int) (x356003 : Bool) : Is (fun k => laws_FnExactNextStage.j1 k x5 x61 x326000 x326001 x326002 x326003 x341000 x341001 x341002 x341003 x356000 x356001 x356002 x356003) (laws_FnExactNextStage.j1v x5 x61 x326000 x326001 x326002 x326003 x341000 x341001 x341002 x341003 x356000 x356001 x356002 x356003) := ⟨fun k => (laws_FnExactNextStage.mono_l k).2.1 x5 x61 x326000 x326001 x326002 x326003 x341000 x341001 x341002 x341003 x356000 x356001 x356002 x356003, rfl⟩
theorem laws_FnExactNextStage.j2_is (x10 : Int) (x87 : Bool) (x356000 : Int) (x356001 : List Int) (x356002 : Int) (x356003 : Bool) : Is (fun k => laws_FnExactNextStage.j2 k x10 x87 x356000 x356001 x356002 x356003) (laws_FnExactNextStage.j2v x10 x87 x356000 x356001 x356002 x356003) := ⟨fun k => (laws_FnExactNextStage.mono_l k).2.2 x10 x87 x356000 x356001 x356002 x356003, rfl⟩
theorem laws_FnExactNextStage.f_is (a0_0 : Int) (l0_1 : List Int) (a0_2 : Int) (a0_3 : Bool) : Is (fun k => laws_FnExactNextStage.f k a0_0 l0_1 a0_2 a0_3) (laws_FnExactNextStage.fv a0_0 l0_1 a0_2 a0_3) := ⟨fun k => laws_FnExactNextStage.mono a0_0 l0_1 a0_2 a0_3 k, rfl⟩
theorem laws_FnExactNextStage.j0v_eq (x5 : Bool) (x8 : Bool) (x40 : Bool) (x326000 : Int) (x326001 : List Int) (x326002 : Int) (x326003 : Bool) (x341000 : Int) (x341001 : List Int) (x341002 : Int) (x341003 : Bool) (x348000 : Int) (x348001 : List Int) (x348002 : Int) (x348003 : Bool) (x356000 : Int) (x356001 : List Int) (x356002 : Int) (x356003 : Bool) : laws_FnExactNextStage.j0v x5 x8 x40 x326000 x326001 x326002 x326003 x341000 x341001 x341002 x341003 x348000 x348001 x348002 x348003 x356000 x356001 x356002 x356003 = if x40 = true then (some false) else ((laws_toRollout.fv x326000 x326001 x326002 x326003).bind fun bt357 => ((laws_eqRollout.fv x348000 x348001 x348002 x348003 bt357.1 bt357.2.1 bt357.2.2.1 bt357.2.2.2).bind fun t363 => (if t363 = true then ((laws_markRollout.fv x348000 x348001 x348002 x348003 1).bind fun bt364 => (if bt364.1 < 0 then (laws_FnExactNextStage.j1v x5 true x326000 x326001 x326002 x326003 x341000 x341001 x341002 x341003 x356000 x356001 x356002 x356003) else ((laws_eqRollout.fv x356000 x356001 x356002 x356003 x341000 x341001 x341002 x341003).bind fun t366 => (if t366 = true then (laws_FnExactNextStage.j1v x5 (x8 != x5) x326000 x326001 x326002 x326003 x341000 x341001 x341002 x341003 x356000 x356001 x356002 x356003) else (laws_FnExactNextStage.j1v x5 true x326000 x326001 x326002 x326003 x341000 x341001 x341002 x341003 x356000 x356001 x356002 x356003))))) else (some false)))) := by
  refine Is.step (laws_FnExactNextStage.j0_is x5 x8 x40 x326000 x326001 x326002 x326003 x341000 x341001 x341002 x341003 x348000 x348001 x348002 x348003 x356000 x356001 x356002 x356003).mo (fun k => by rw [laws_FnExactNextStage.j0]) ?_
  · skip
    repeat' first
    | with_reducible exact laws_FnExactNextStage.j1_is _ _ _ _ _ _ _ _ _ _ _ _ _ _
    | with_reducible exact laws_eqRollout.f_is _ _ _ _ _ _ _ _
    | with_reducible exact laws_markRollout.f_is _ _ _ _ _
    | with_reducible exact laws_toRollout.f_is _ _ _ _
    | with_reducible exact Is.now _
    | with_reducible refine Is.ite ?_ ?_
    | with_reducible refine Is.bind ?_ (fun _ => ?_)
theorem laws_FnExactNextStage.j1v_eq (x5 : Bool) (x61 : Bool) (x326000 : Int) (x326001 : List Int) (x326002 : Int) (x326003 : Bool) (x341000 : Int) (x341001 : List Int) (x341002 : Int) (x341003 : Bool) (x356000 : Int) (x356001 : List Int) (x356002 : Int) (x356003 : Bool) : laws_FnExactNextStage.j1v x5 x61 x326000 x326001 x326002 x326003 x341000 x341001 x341002 x341003 x356000 x356001 x356002 x356003 = if x61 = true then (some false) else ((laws_markRollout.fv x356000 x356001 x356002 x356003 1).bind fun bt367 => ((laws_heldRollout.fv x356000 bt367.2 x356002 x356003 1).bind fun t369 => (if t369 < 0 then (some false) else (if t369 = bt367.1 then ((laws_toRollout.fv x326000 x326001 x326002 x326003).bind fun bt370 => ((impl_NextStage.fv bt370.1 bt370.2.1 bt370.2.2.1 bt370.2.2.2).bind fun bt376 => ((laws_eqRollout.fv bt376.1 bt376.2.1 bt376.2.2.1 bt376.2.2.2.1 x341000 x341001 x341002 x341003).bind fun t384 => (if t384 = true then (laws_FnExactNextStage.j2v bt367.1 (bt376.2.2.2.2 != x5) x356000 bt367.2 x356002 x356003) else (laws_FnExactNextStage.j2v bt367.1 true x356000 bt367.2 x356002 x356003))))) else (some false))))) := by
  refine Is.step (laws_FnExactNextStage.j1_is x5 x61 x326000 x326001 x326002 x326003 x341000 x341001 x341002 x341003 x356000 x356001 x356002 x356003).mo (fun k => by rw [laws_FnExactNextStage.j1]) ?_
  · skip
    repeat' first
    | with_reducible exact impl_NextStage.f_is _ _ _ _
    | with_reducible exact laws_FnExactNextStage.j2_is _ _ _ _ _ _
    | with_reducible exact laws_eqRollout.f_is _ _ _ _ _ _ _ _
    | with_reducible exact laws_heldRollout.f_is _ _ _ _ _
    | with_reducible exact laws_markRollout.f_is _ _ _ _ _
    | with_reducible exact laws_toRollout.f_is _ _ _ _
    | with_reducible exact Is.now _
    | with_reducible refine Is.ite ?_ ?_
    | with_reducible refine Is.bind ?_ (fun _ => ?_)
theorem laws_FnExactNextStage.j2v_eq (x10 : Int) (x87 : Bool) (x356000 : Int) (x356001 : List Int) (x356002 : Int) (x356003 : Bool) : laws_FnExactNextStage.j2v x10 x87 x356000 x356001 x356002 x356003 = if x87 = true then (some false) else ((laws_heldRollout.fv x356000 x356001 x356002 x356003 1).bind fun t385 => (if t385 < 0 then (some false) else (if t385 = x10 then (some true) else (some false)))) := by
  refine Is.step (laws_FnExactNextStage.j2_is x10 x87 x356000 x356001 x356002 x356003).mo (fun k => by rw [laws_FnExactNextStage.j2]) ?_
  · skip
    repeat' first
    | with_reducible exact laws_heldRollout.f_is _ _ _ _ _
    | with_reducible exact Is.now _
    | with_reducible refine Is.ite ?_ ?_
    | with_reducible refine Is.bind ?_ (fun _ => ?_)
theorem laws_FnExactNextStage.fv_eq (a0_0 : Int) (l0_1 : List Int) (a0_2 : Int) (a0_3 : Bool) : laws_FnExactNextStage.fv a0_0 l0_1 a0_2 a0_3 = (laws_szRollout.f a0_0 l0_1 a0_2 a0_3 1048576).bind fun t326 => (if t326 < 0 then (some true) else ((laws_toRollout.fv a0_0 l0_1 a0_2 a0_3).bind fun bt327 => ((spec_NextStage.fv bt327.1 bt327.2.1 bt327.2.2.1 bt327.2.2.2).bind fun bt333 => ((laws_toRollout.fv a0_0 l0_1 a0_2 a0_3).bind fun bt341 => ((impl_NextStage.fv bt341.1 bt341.2.1 bt341.2.2.1 bt341.2.2.2).bind fun bt348 => ((laws_eqRollout.fv bt348.1 bt348.2.1 bt348.2.2.1 bt348.2.2.2.1 bt333.1 bt333.2.1 bt333.2.2.1 bt333.2.2.2.1).bind fun t356 => (if t356 = true then (laws_FnExactNextStage.j0v bt333.2.2.2.2 bt348.2.2.2.2 (bt348.2.2.2.2 != bt333.2.2.2.2) a0_0 l0_1 a0_2 a0_3 bt333.1 bt333.2.1 bt333.2.2.1 bt333.2.2.2.1 bt341.1 bt341.2.1 bt341.2.2.1 bt341.2.2.2 bt348.1 bt348.2.1 bt348.2.2.1 bt348.2.2.2.1) else (laws_FnExactNextStage.j0v bt333.2.2.2.2 bt348.2.2.2.2 true a0_0 l0_1 a0_2 a0_3 bt333.1 bt333.2.1 bt333.2.2.1 bt333.2.2.2.1 bt341.1 bt341.2.1 bt341.2.2.1 bt341.2.2.2 bt348.1 bt348.2.1 bt348.2.2.1 bt348.2.2.2.1)))))))) := by
  refine Is.lim (g := fun k => laws_FnExactNextStage.f k a0_0 l0_1 a0_2 a0_3) ?_
  · unfold laws_FnExactNextStage.f
    repeat' first
    | with_reducible exact impl_NextStage.f_is _ _ _ _
    | with_reducible exact laws_FnExactNextStage.j0_is _ _ _ _ _ _ _ _ _ _ _ _ _ _ _ _ _ _ _
    | with_reducible exact laws_eqRollout.f_is _ _ _ _ _ _ _ _
    | with_reducible exact laws_toRollout.f_is _ _ _ _
    | with_reducible exact spec_NextStage.f_is _ _ _ _
    | with_reducible exact Is.now _
    | with_reducible refine Is.ite ?_ ?_
    | with_reducible refine Is.bind ?_ (fun _ => ?_)
end Go.Proofs.Ytlcmkgbabffmeaa.Print
