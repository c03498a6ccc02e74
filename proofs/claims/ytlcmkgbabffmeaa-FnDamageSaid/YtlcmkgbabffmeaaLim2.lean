/- Written by a program of this session (limx.py): the equations of what the printed functions come to. No condition. -/
import Derived.Test.YtlcmkgbabffmeaaBase
import Derived.Test.YtlcmkgbabffmeaaPrint2
import Derived.Test.YtlcmkgbabffmeaaLim1
namespace Go.Proofs.Ytlcmkgbabffmeaa.Print
open Go.RowKit Go.Proofs.YtlcmkgbabffmeaaW.PrintWords Go.Proofs.YtlcmkgbabffmeaaW.PrintLast Go.Proofs.Ytlcmkgbabffmeaa.Base
set_option linter.unusedVariables false
set_option maxRecDepth 20000
noncomputable def impl_CountIn.fv (a0_0 : Int) (l0_1 : List Int) (a0_2 : Int) (a0_3 : Bool) (a1 : Int) : Option (Int) := Lim fun k => impl_CountIn.f k a0_0 l0_1 a0_2 a0_3 a1
theorem impl_CountIn.f_is (a0_0 : Int) (l0_1 : List Int) (a0_2 : Int) (a0_3 : Bool) (a1 : Int) : Is (fun k => impl_CountIn.f k a0_0 l0_1 a0_2 a0_3 a1) (impl_CountIn.fv a0_0 l0_1 a0_2 a0_3 a1) := ⟨fun k => impl_CountIn.mono a0_0 l0_1 a0_2 a0_3 a1 k, rfl⟩
theorem impl_CountIn.fv_eq (a0_0 : Int) (l0_1 : List Int) (a0_2 : Int) (a0_3 : Bool) (a1 : Int) : impl_CountIn.fv a0_0 l0_1 a0_2 a0_3 a1 = (impl_IsRollout.fv a0_0 l0_1 a0_2 a0_3).bind fun t128 => (if t128 = true then (if a0_3 = true then (some 0) else ((impl_InRange.f a1 0 10000).bind fun t129 => (if t129 = true then (if 0 ≤ a0_2 then (if a0_2 < (l0_1.length : Int) then ((impl_CeilDiv.f (wrap64 (a1 * (rd l0_1 a0_2))) 100).bind fun t131 => (some t131)) else (none)) else (none)) else (some 0)))) else (some 0)) := by
  refine Is.lim (g := fun k => impl_CountIn.f k a0_0 l0_1 a0_2 a0_3 a1) ?_
  · unfold impl_CountIn.f
    repeat' first
    | with_reducible exact impl_IsRollout.f_is _ _ _ _
    | with_reducible exact Is.now _
    | with_reducible refine Is.ite ?_ ?_
    | with_reducible refine Is.bind ?_ (fun _ => ?_)
noncomputable def impl_MostHurt.j0v (x1 : Int) (x2 : Int) (x19 : Bool) (x133000 : Int) (x133001 : List Int) (x133002 : Int) (x133003 : Bool) : Option (Int) := Lim fun k => impl_MostHurt.j0 k x1 x2 x19 x133000 x133001 x133002 x133003
noncomputable def impl_MostHurt.l0v (x1 : Int) (x7 : Int) (x20 : Int) (x21 : Int) (x133000 : Int) (x133001 : List Int) (x133002 : Int) (x133003 : Bool) : Option (Int) := Lim fun k => impl_MostHurt.l0 k x1 x7 x20 x21 x133000 x133001 x133002 x133003
noncomputable def impl_MostHurt.fv (a0_0 : Int) (l0_1 : List Int) (a0_2 : Int) (a0_3 : Bool) (a1 : Int) (a2 : Int) : Option (Int) := Lim fun k => impl_MostHurt.f k a0_0 l0_1 a0_2 a0_3 a1 a2
theorem impl_MostHurt.j0_is (x1 : Int) (x2 : Int) (x19 : Bool) (x133000 : Int) (x133001 : List Int) (x133002 : Int) (x133003 : Bool) : Is (fun k => impl_MostHurt.j0 k x1 x2 x19 x133000 x133001 x133002 x133003) (impl_MostHurt.j0v x1 x2 x19 x133000 x133001 x133002 x133003) := ⟨fun k => (impl_MostHurt.mono_l k).1 x1 x2 x19 x133000 x133001 x133002 x133003, rfl⟩
theorem impl_MostHurt.l0_is (x1 : Int) (x7 : Int) (x20 : Int) (x21 : Int) (x133000 : Int) (x133001 : List Int) (x133002 : Int) (x133003 : Bool) : Is (fun k => impl_MostHurt.l0 k x1 x7 x20 x21 x133000 x133001 x133002 x133003) (impl_MostHurt.l0v x1 x7 x20 x21 x133000 x133001 x133002 x133003) := ⟨fun k => (impl_MostHurt.mono_l k).2 x1 x7 x20 x21 x133000 x133001 x133002 x133003, rfl⟩
theorem impl_MostHurt.f_is (a0_0 : Int) (l0_1 : List Int) (a0_2 : Int) (a0_3 : Bool) (a1 : Int) (a2 : Int) : Is (fun k => impl_MostHurt.f k a0_0 l0_1 a0_2 a0_3 a1 a2) (impl_MostHurt.fv a0_0 l0_1 a0_2 a0_3 a1 a2) := ⟨fun k => impl_MostHurt.mono a0_0 l0_1 a0_2 a0_3 a1 a2 k, rfl⟩
theorem impl_MostHurt.j0v_eq (x1 : Int) (x2 : Int) (x19 : Bool) (x133000 : Int) (x133001 : List Int) (x133002 : Int) (x133003 : Bool) : impl_MostHurt.j0v x1 x2 x19 x133000 x133001 x133002 x133003 = if x19 = true then (some 0) else (impl_MostHurt.l0v x1 0 x2 0 x133000 x133001 x133002 x133003) := by
  refine Is.step (impl_MostHurt.j0_is x1 x2 x19 x133000 x133001 x133002 x133003).mo (fun k => by rw [impl_MostHurt.j0]) ?_
  · skip
    repeat' first
    | with_reducible exact impl_MostHurt.l0_is _ _ _ _ _ _ _ _
    | with_reducible exact Is.now _
    | with_reducible refine Is.ite ?_ ?_
    | with_reducible refine Is.bind ?_ (fun _ => ?_)
theorem impl_MostHurt.l0v_eq (x1 : Int) (x7 : Int) (x20 : Int) (x21 : Int) (x133000 : Int) (x133001 : List Int) (x133002 : Int) (x133003 : Bool) : impl_MostHurt.l0v x1 x7 x20 x21 x133000 x133001 x133002 x133003 = if x21 < x20 then ((impl_CountIn.fv x133000 x133001 x21 x133003 x1).bind fun t135 => (impl_MostHurt.l0v x1 (mx x7 t135) x20 (wrap64 (x21 + 1)) x133000 x133001 x21 x133003)) else (some x7) := by
  refine Is.step (impl_MostHurt.l0_is x1 x7 x20 x21 x133000 x133001 x133002 x133003).mo (fun k => by rw [impl_MostHurt.l0]) ?_
  · skip
    repeat' first
    | with_reducible exact impl_CountIn.f_is _ _ _ _ _
    | with_reducible exact impl_MostHurt.l0_is _ _ _ _ _ _ _ _
    | with_reducible exact Is.now _
    | with_reducible refine Is.ite ?_ ?_
    | with_reducible refine Is.bind ?_ (fun _ => ?_)
theorem impl_MostHurt.fv_eq (a0_0 : Int) (l0_1 : List Int) (a0_2 : Int) (a0_3 : Bool) (a1 : Int) (a2 : Int) : impl_MostHurt.fv a0_0 l0_1 a0_2 a0_3 a1 a2 = (impl_IsRollout.fv a0_0 l0_1 a0_2 a0_3).bind fun t133 => (if t133 = true then ((impl_InRange.f a2 1 (l0_1.length : Int)).bind fun t134 => (impl_MostHurt.j0v a1 a2 (!t134) a0_0 l0_1 a0_2 a0_3)) else (impl_MostHurt.j0v a1 a2 true a0_0 l0_1 a0_2 a0_3)) := by
  refine Is.lim (g := fun k => impl_MostHurt.f k a0_0 l0_1 a0_2 a0_3 a1 a2) ?_
  · unfold impl_MostHurt.f
    repeat' first
    | with_reducible exact impl_IsRollout.f_is _ _ _ _
    | with_reducible exact impl_MostHurt.j0_is _ _ _ _ _ _ _
    | with_reducible exact Is.now _
    | with_reducible refine Is.ite ?_ ?_
    | with_reducible refine Is.bind ?_ (fun _ => ?_)
noncomputable def impl_IsIn.fv (a0_0 : Int) (l0_1 : List Int) (a0_2 : Int) (a0_3 : Bool) (a1 : Int) (a2 : Int) : Option (Bool) := Lim fun k => impl_IsIn.f k a0_0 l0_1 a0_2 a0_3 a1 a2
theorem impl_IsIn.f_is (a0_0 : Int) (l0_1 : List Int) (a0_2 : Int) (a0_3 : Bool) (a1 : Int) (a2 : Int) : Is (fun k => impl_IsIn.f k a0_0 l0_1 a0_2 a0_3 a1 a2) (impl_IsIn.fv a0_0 l0_1 a0_2 a0_3 a1 a2) := ⟨fun k => impl_IsIn.mono a0_0 l0_1 a0_2 a0_3 a1 a2 k, rfl⟩
theorem impl_IsIn.fv_eq (a0_0 : Int) (l0_1 : List Int) (a0_2 : Int) (a0_3 : Bool) (a1 : Int) (a2 : Int) : impl_IsIn.fv a0_0 l0_1 a0_2 a0_3 a1 a2 = if a1 ≥ 0 then (if a1 < a2 then ((impl_CountIn.fv a0_0 l0_1 a0_2 a0_3 a2).bind fun t137 => (some (decide (a1 < t137)))) else (some false)) else (some false) := by
  refine Is.lim (g := fun k => impl_IsIn.f k a0_0 l0_1 a0_2 a0_3 a1 a2) ?_
  · unfold impl_IsIn.f
    repeat' first
    | with_reducible exact impl_CountIn.f_is _ _ _ _ _
    | with_reducible exact Is.now _
    | with_reducible refine Is.ite ?_ ?_
    | with_reducible refine Is.bind ?_ (fun _ => ?_)
noncomputable def impl_HurtAt.l0v (x1 : Int) (x7 : Int) (x14 : List Bool) (x15 : Int) (x16 : Int) (x139000 : Int) (x139001 : List Int) (x139002 : Int) (x139003 : Bool) : Option (Int) := Lim fun k => impl_HurtAt.l0 k x1 x7 x14 x15 x16 x139000 x139001 x139002 x139003
noncomputable def impl_HurtAt.fv (a0_0 : Int) (l0_1 : List Int) (a0_2 : Int) (a0_3 : Bool) (a1 : Int) (l2 : List Bool) : Option (Int) := Lim fun k => impl_HurtAt.f k a0_0 l0_1 a0_2 a0_3 a1 l2
theorem impl_HurtAt.l0_is (x1 : Int) (x7 : Int) (x14 : List Bool) (x15 : Int) (x16 : Int) (x139000 : Int) (x139001 : List Int) (x139002 : Int) (x139003 : Bool) : Is (fun k => impl_HurtAt.l0 k x1 x7 x14 x15 x16 x139000 x139001 x139002 x139003) (impl_HurtAt.l0v x1 x7 x14 x15 x16 x139000 x139001 x139002 x139003) := ⟨fun k => (impl_HurtAt.mono_l k) x1 x7 x14 x15 x16 x139000 x139001 x139002 x139003, rfl⟩
theorem impl_HurtAt.f_is (a0_0 : Int) (l0_1 : List Int) (a0_2 : Int) (a0_3 : Bool) (a1 : Int) (l2 : List Bool) : Is (fun k => impl_HurtAt.f k a0_0 l0_1 a0_2 a0_3 a1 l2) (impl_HurtAt.fv a0_0 l0_1 a0_2 a0_3 a1 l2) := ⟨fun k => impl_HurtAt.mono a0_0 l0_1 a0_2 a0_3 a1 l2 k, rfl⟩
theorem impl_HurtAt.l0v_eq (x1 : Int) (x7 : Int) (x14 : List Bool) (x15 : Int) (x16 : Int) (x139000 : Int) (x139001 : List Int) (x139002 : Int) (x139003 : Bool) : impl_HurtAt.l0v x1 x7 x14 x15 x16 x139000 x139001 x139002 x139003 = if x16 < x15 then (if 0 ≤ x16 then (if x16 < (x14.length : Int) then (if rdOf false x14 x16 = true then ((impl_IsIn.fv x139000 x139001 x139002 x139003 x16 x1).bind fun t140 => (if t140 = true then (impl_HurtAt.l0v x1 (wrap64 (x7 + 1)) x14 x15 (wrap64 (x16 + 1)) x139000 x139001 x139002 x139003) else (impl_HurtAt.l0v x1 x7 x14 x15 (wrap64 (x16 + 1)) x139000 x139001 x139002 x139003))) else (impl_HurtAt.l0v x1 x7 x14 x15 (wrap64 (x16 + 1)) x139000 x139001 x139002 x139003)) else (none)) else (none)) else (some x7) := by
  refine Is.step (impl_HurtAt.l0_is x1 x7 x14 x15 x16 x139000 x139001 x139002 x139003).mo (fun k => by rw [impl_HurtAt.l0]) ?_
  · skip
    repeat' first
    | with_reducible exact impl_HurtAt.l0_is _ _ _ _ _ _ _ _ _
    | with_reducible exact impl_IsIn.f_is _ _ _ _ _ _
    | with_reducible exact Is.now _
    | with_reducible refine Is.ite ?_ ?_
    | with_reducible refine Is.bind ?_ (fun _ => ?_)
theorem impl_HurtAt.fv_eq (a0_0 : Int) (l0_1 : List Int) (a0_2 : Int) (a0_3 : Bool) (a1 : Int) (l2 : List Bool) : impl_HurtAt.fv a0_0 l0_1 a0_2 a0_3 a1 l2 = if a1 = (l2.length : Int) then (impl_HurtAt.l0v a1 0 l2 (l2.length : Int) 0 a0_0 l0_1 a0_2 a0_3) else (some 0) := by
  refine Is.lim (g := fun k => impl_HurtAt.f k a0_0 l0_1 a0_2 a0_3 a1 l2) ?_
  · unfold impl_HurtAt.f
    repeat' first
    | with_reducible exact impl_HurtAt.l0_is _ _ _ _ _ _ _ _ _
    | with_reducible exact Is.now _
    | with_reducible refine Is.ite ?_ ?_
    | with_reducible refine Is.bind ?_ (fun _ => ?_)
noncomputable def impl_NextStage.fv (a0_0 : Int) (l0_1 : List Int) (a0_2 : Int) (a0_3 : Bool) : Option (Int × List Int × Int × Bool × Bool) := Lim fun k => impl_NextStage.f k a0_0 l0_1 a0_2 a0_3
theorem impl_NextStage.f_is (a0_0 : Int) (l0_1 : List Int) (a0_2 : Int) (a0_3 : Bool) : Is (fun k => impl_NextStage.f k a0_0 l0_1 a0_2 a0_3) (impl_NextStage.fv a0_0 l0_1 a0_2 a0_3) := ⟨fun k => impl_NextStage.mono a0_0 l0_1 a0_2 a0_3 k, rfl⟩
theorem impl_NextStage.fv_eq (a0_0 : Int) (l0_1 : List Int) (a0_2 : Int) (a0_3 : Bool) : impl_NextStage.fv a0_0 l0_1 a0_2 a0_3 = (impl_copyRollout.f a0_0 l0_1 a0_2 a0_3).bind fun bt151 => ((impl_IsRollout.fv a0_0 l0_1 a0_2 a0_3).bind fun t158 => (if t158 = true then (if a0_3 = true then (some (bt151.1, bt151.2.1, bt151.2.2.1, bt151.2.2.2, false)) else (if a0_2 = (wrap64 ((l0_1.length : Int) - 1)) then (some (bt151.1, bt151.2.1, bt151.2.2.1, bt151.2.2.2, false)) else (some (bt151.1, bt151.2.1, wrap64 (bt151.2.2.1 + 1), bt151.2.2.2, true)))) else (some (bt151.1, bt151.2.1, bt151.2.2.1, bt151.2.2.2, false)))) := by
  refine Is.lim (g := fun k => impl_NextStage.f k a0_0 l0_1 a0_2 a0_3) ?_
  · unfold impl_NextStage.f
    repeat' first
    | with_reducible exact impl_IsRollout.f_is _ _ _ _
    | with_reducible exact Is.now _
    | with_reducible refine Is.ite ?_ ?_
    | with_reducible refine Is.bind ?_ (fun _ => ?_)
noncomputable def impl_BackStage.fv (a0_0 : Int) (l0_1 : List Int) (a0_2 : Int) (a0_3 : Bool) : Option (Int × List Int × Int × Bool × Bool) := Lim fun k => impl_BackStage.f k a0_0 l0_1 a0_2 a0_3
theorem impl_BackStage.f_is (a0_0 : Int) (l0_1 : List Int) (a0_2 : Int) (a0_3 : Bool) : Is (fun k => impl_BackStage.f k a0_0 l0_1 a0_2 a0_3) (impl_BackStage.fv a0_0 l0_1 a0_2 a0_3) := ⟨fun k => impl_BackStage.mono a0_0 l0_1 a0_2 a0_3 k, rfl⟩
theorem impl_BackStage.fv_eq (a0_0 : Int) (l0_1 : List Int) (a0_2 : Int) (a0_3 : Bool) : impl_BackStage.fv a0_0 l0_1 a0_2 a0_3 = (impl_copyRollout.f a0_0 l0_1 a0_2 a0_3).bind fun bt161 => ((impl_IsRollout.fv a0_0 l0_1 a0_2 a0_3).bind fun t168 => (if t168 = true then (if a0_3 = true then (some (bt161.1, bt161.2.1, bt161.2.2.1, bt161.2.2.2, false)) else (some (bt161.1, bt161.2.1, 0, true, true))) else (some (bt161.1, bt161.2.1, bt161.2.2.1, bt161.2.2.2, false)))) := by
  refine Is.lim (g := fun k => impl_BackStage.f k a0_0 l0_1 a0_2 a0_3) ?_
  · unfold impl_BackStage.f
    repeat' first
    | with_reducible exact impl_IsRollout.f_is _ _ _ _
    | with_reducible exact Is.now _
    | with_reducible refine Is.ite ?_ ?_
    | with_reducible refine Is.bind ?_ (fun _ => ?_)
end Go.Proofs.Ytlcmkgbabffmeaa.Print
