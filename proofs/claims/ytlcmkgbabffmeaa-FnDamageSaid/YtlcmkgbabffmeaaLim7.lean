/- Written by a program of this session (limx.py): the equations of what the printed functions come to. No condition. -/
import Derived.Test.YtlcmkgbabffmeaaBase
import Derived.Test.YtlcmkgbabffmeaaPrint7
import Derived.Test.YtlcmkgbabffmeaaLim1
import Derived.Test.YtlcmkgbabffmeaaLim2
import Derived.Test.YtlcmkgbabffmeaaLim3
import Derived.Test.YtlcmkgbabffmeaaLim5
import Derived.Test.YtlcmkgbabffmeaaLim6
namespace Go.Proofs.Ytlcmkgbabffmeaa.Print
open Go.RowKit Go.Proofs.YtlcmkgbabffmeaaW.PrintWords Go.Proofs.YtlcmkgbabffmeaaW.PrintLast Go.Proofs.Ytlcmkgbabffmeaa.Base
set_option linter.unusedVariables false
set_option maxRecDepth 20000
noncomputable def laws_FnDamage.j0v (x0 : List Int) (x56 : Bool) : Option (Bool) := Lim fun k => laws_FnDamage.j0 k x0 x56
noncomputable def laws_FnDamage.l0v (x0 : List Int) (x8 : List Int) (x9 : Int) (x10 : Int) (x451000 : Int) (x451001 : List Int) (x451002 : Int) (x451003 : Bool) : Option (Bool) := Lim fun k => laws_FnDamage.l0 k x0 x8 x9 x10 x451000 x451001 x451002 x451003
noncomputable def laws_FnDamage.j2v (x0 : List Int) (x108 : Bool) : Option (Bool) := Lim fun k => laws_FnDamage.j2 k x0 x108
noncomputable def laws_FnDamage.fv (l0 : List Int) : Option (Bool) := Lim fun k => laws_FnDamage.f k l0
theorem laws_FnDamage.j0_is (x0 : List Int) (x56 : Bool) : Is (fun k => laws_FnDamage.j0 k x0 x56) (laws_FnDamage.j0v x0 x56) := ⟨fun k => (laws_FnDamage.mono_l k).1 x0 x56, rfl⟩
theorem laws_FnDamage.l0_is (x0 : List Int) (x8 : List Int) (x9 : Int) (x10 : Int) (x451000 : Int) (x451001 : List Int) (x451002 : Int) (x451003 : Bool) : Is (fun k => laws_FnDamage.l0 k x0 x8 x9 x10 x451000 x451001 x451002 x451003) (laws_FnDamage.l0v x0 x8 x9 x10 x451000 x451001 x451002 x451003) := ⟨fun k => (laws_FnDamage.mono_l k).2.1 x0 x8 x9 x10 x451000 x451001 x451002 x451003, rfl⟩
theorem laws_FnDamage.j2_is (x0 : List Int) (x108 : Bool) : Is (fun k => laws_FnDamage.j2 k x0 x108) (laws_FnDamage.j2v x0 x108) := ⟨fun k => (laws_FnDamage.mono_l k).2.2 x0 x108, rfl⟩
theorem laws_FnDamage.f_is (l0 : List Int) : Is (fun k => laws_FnDamage.f k l0) (laws_FnDamage.fv l0) := ⟨fun k => laws_FnDamage.mono l0 k, rfl⟩
theorem laws_FnDamage.j0v_eq (x0 : List Int) (x56 : Bool) : laws_FnDamage.j0v x0 x56 = if x56 = true then (some false) else ((spec_DrawStageAfter.fv x0).bind fun bt441 => (laws_FnDamage.l0v x0 bt441.2.2.2.2 0 0 bt441.1 bt441.2.1 bt441.2.2.1 bt441.2.2.2.1)) := by
  refine Is.step (laws_FnDamage.j0_is x0 x56).mo (fun k => by rw [laws_FnDamage.j0]) ?_
  · skip
    repeat' first
    | with_reducible exact laws_FnDamage.l0_is _ _ _ _ _ _ _ _
    | with_reducible exact spec_DrawStageAfter.f_is _
    | with_reducible exact Is.now _
    | with_reducible refine Is.ite ?_ ?_
    | with_reducible refine Is.bind ?_ (fun _ => ?_)
theorem laws_FnDamage.l0v_eq (x0 : List Int) (x8 : List Int) (x9 : Int) (x10 : Int) (x451000 : Int) (x451001 : List Int) (x451002 : Int) (x451003 : Bool) : laws_FnDamage.l0v x0 x8 x9 x10 x451000 x451001 x451002 x451003 = if x10 < (x8.length : Int) then (if 0 ≤ x10 then (if (rd x8 x10) = 1 then (laws_FnDamage.l0v x0 x8 (wrap64 (x9 + 1)) (wrap64 (x10 + 1)) x451000 x451001 x451002 x451003) else (laws_FnDamage.l0v x0 x8 x9 (wrap64 (x10 + 1)) x451000 x451001 x451002 x451003)) else (none)) else ((impl_StageAfter.fv x451000 x451001 x451002 x451003 x8).bind fun bt452 => ((impl_PassedStages.fv x451000 x451001 x451002 x451003 x8).bind fun t459 => ((impl_IsRollout.fv x451000 x451001 x451002 x451003).bind fun t460 => (if t460 = true then ((impl_IsRollout.fv bt452.1 bt452.2.1 bt452.2.2.1 bt452.2.2.2).bind fun t461 => (if t461 = true then (if t459 < 1 then (laws_FnDamage.j2v x0 true) else (if t459 > (wrap64 ((wrap64 (x451002 + 1)) + x9)) then (laws_FnDamage.j2v x0 true) else ((impl_CountIn.fv bt452.1 bt452.2.1 bt452.2.2.1 bt452.2.2.2 50).bind fun t462 => ((impl_MostHurt.fv x451000 x451001 x451002 x451003 50 t459).bind fun t463 => (laws_FnDamage.j2v x0 (decide (t462 > t463))))))) else (laws_FnDamage.j2v x0 true))) else (laws_FnDamage.j2v x0 false))))) := by
  refine Is.step (laws_FnDamage.l0_is x0 x8 x9 x10 x451000 x451001 x451002 x451003).mo (fun k => by rw [laws_FnDamage.l0]) ?_
  · skip
    repeat' first
    | with_reducible exact impl_CountIn.f_is _ _ _ _ _
    | with_reducible exact impl_IsRollout.f_is _ _ _ _
    | with_reducible exact impl_MostHurt.f_is _ _ _ _ _ _
    | with_reducible exact impl_PassedStages.f_is _ _ _ _ _
    | with_reducible exact impl_StageAfter.f_is _ _ _ _ _
    | with_reducible exact laws_FnDamage.j2_is _ _
    | with_reducible exact laws_FnDamage.l0_is _ _ _ _ _ _ _ _
    | with_reducible exact Is.now _
    | with_reducible refine Is.ite ?_ ?_
    | with_reducible refine Is.bind ?_ (fun _ => ?_)
theorem laws_FnDamage.j2v_eq (x0 : List Int) (x108 : Bool) : laws_FnDamage.j2v x0 x108 = if x108 = true then (some false) else ((spec_DrawSafeStages.fv x0).bind fun bt464 => ((impl_SafeStages.fv bt464.1 bt464.2).bind fun t466 => (if (t466.length : Int) = 0 then (some true) else ((impl_IsRollout.fv 1 t466 0 false).bind fun t470 => (if t470 = true then (if (t466.length : Int) = 1 then (some true) else ((impl_CountIn.fv 1 t466 0 false bt464.1).bind fun t471 => (some (decide (t471 ≤ bt464.2))))) else (some false)))))) := by
  refine Is.step (laws_FnDamage.j2_is x0 x108).mo (fun k => by rw [laws_FnDamage.j2]) ?_
  · skip
    repeat' first
    | with_reducible exact impl_CountIn.f_is _ _ _ _ _
    | with_reducible exact impl_IsRollout.f_is _ _ _ _
    | with_reducible exact impl_SafeStages.f_is _ _
    | with_reducible exact spec_DrawSafeStages.f_is _
    | with_reducible exact Is.now _
    | with_reducible refine Is.ite ?_ ?_
    | with_reducible refine Is.bind ?_ (fun _ => ?_)
theorem laws_FnDamage.fv_eq (l0 : List Int) : laws_FnDamage.fv l0 = (laws_big.f l0).bind fun t423 => (if t423 = true then (some true) else ((spec_DrawHurtAt.fv l0).bind fun bt424 => ((impl_HurtAt.fv bt424.1 bt424.2.1 bt424.2.2.1 bt424.2.2.2.1 bt424.2.2.2.2.1 bt424.2.2.2.2.2).bind fun t435 => ((impl_CountIn.fv bt424.1 bt424.2.1 bt424.2.2.1 bt424.2.2.2.1 bt424.2.2.2.2.1).bind fun t436 => ((spec_CountIn.fv bt424.1 bt424.2.1 bt424.2.2.1 bt424.2.2.2.1 bt424.2.2.2.2.1).bind fun t437 => (if t436 = t437 then ((impl_CountIn.fv bt424.1 bt424.2.1 bt424.2.2.1 bt424.2.2.2.1 bt424.2.2.2.2.1).bind fun t438 => (if t435 > t438 then (laws_FnDamage.j0v l0 true) else ((impl_IsRollout.fv bt424.1 bt424.2.1 bt424.2.2.1 bt424.2.2.2.1).bind fun t439 => (if t439 = true then ((impl_MostHurt.fv bt424.1 bt424.2.1 bt424.2.2.1 bt424.2.2.2.1 bt424.2.2.2.2.1 (wrap64 (bt424.2.2.1 + 1))).bind fun t440 => (laws_FnDamage.j0v l0 (decide (t435 > t440)))) else (laws_FnDamage.j0v l0 false))))) else (laws_FnDamage.j0v l0 true))))))) := by
  refine Is.lim (g := fun k => laws_FnDamage.f k l0) ?_
  · unfold laws_FnDamage.f
    repeat' first
    | with_reducible exact impl_CountIn.f_is _ _ _ _ _
    | with_reducible exact impl_HurtAt.f_is _ _ _ _ _ _
    | with_reducible exact impl_IsRollout.f_is _ _ _ _
    | with_reducible exact impl_MostHurt.f_is _ _ _ _ _ _
    | with_reducible exact laws_FnDamage.j0_is _ _
    | with_reducible exact spec_CountIn.f_is _ _ _ _ _
    | with_reducible exact spec_DrawHurtAt.f_is _
    | with_reducible exact Is.now _
    | with_reducible refine Is.ite ?_ ?_
    | with_reducible refine Is.bind ?_ (fun _ => ?_)
end Go.Proofs.Ytlcmkgbabffmeaa.Print
