/- Written by a program of this session (limx.py): the equations of what the printed functions come to. No condition. -/
import Derived.Test.YtlcmkgbabffmeaaBase
import Derived.Test.YtlcmkgbabffmeaaPrint3
import Derived.Test.YtlcmkgbabffmeaaLim1
import Derived.Test.YtlcmkgbabffmeaaLim2
namespace Go.Proofs.Ytlcmkgbabffmeaa.Print
open Go.RowKit Go.Proofs.YtlcmkgbabffmeaaW.PrintWords Go.Proofs.YtlcmkgbabffmeaaW.PrintLast Go.Proofs.Ytlcmkgbabffmeaa.Base
set_option linter.unusedVariables false
set_option maxRecDepth 20000
noncomputable def impl_signalled.fv (a0_0 : Int) (l0_1 : List Int) (a0_2 : Int) (a0_3 : Bool) (a1 : Int) : Option (Int × List Int × Int × Bool) := Lim fun k => impl_signalled.f k a0_0 l0_1 a0_2 a0_3 a1
theorem impl_signalled.f_is (a0_0 : Int) (l0_1 : List Int) (a0_2 : Int) (a0_3 : Bool) (a1 : Int) : Is (fun k => impl_signalled.f k a0_0 l0_1 a0_2 a0_3 a1) (impl_signalled.fv a0_0 l0_1 a0_2 a0_3 a1) := ⟨fun k => impl_signalled.mono a0_0 l0_1 a0_2 a0_3 a1 k, rfl⟩
theorem impl_signalled.fv_eq (a0_0 : Int) (l0_1 : List Int) (a0_2 : Int) (a0_3 : Bool) (a1 : Int) : impl_signalled.fv a0_0 l0_1 a0_2 a0_3 a1 = if a1 = 1 then ((impl_NextStage.fv a0_0 l0_1 a0_2 a0_3).bind fun bt171 => (some (bt171.1, bt171.2.1, bt171.2.2.1, bt171.2.2.2.1))) else (if a1 = 2 then ((impl_BackStage.fv a0_0 l0_1 a0_2 a0_3).bind fun bt178 => (some (bt178.1, bt178.2.1, bt178.2.2.1, bt178.2.2.2.1))) else (some (a0_0, l0_1, a0_2, a0_3))) := by
  refine Is.lim (g := fun k => impl_signalled.f k a0_0 l0_1 a0_2 a0_3 a1) ?_
  · unfold impl_signalled.f
    repeat' first
    | with_reducible exact impl_BackStage.f_is _ _ _ _
    | with_reducible exact impl_NextStage.f_is _ _ _ _
    | with_reducible exact Is.now _
    | with_reducible refine Is.ite ?_ ?_
    | with_reducible refine Is.bind ?_ (fun _ => ?_)
noncomputable def impl_PassedStages.l0v (x5 : Int) (x13 : List Int) (x14 : Int) (x15 : Int) (x186000 : Int) (x186001 : List Int) (x186002 : Int) (x186003 : Bool) : Option (Int) := Lim fun k => impl_PassedStages.l0 k x5 x13 x14 x15 x186000 x186001 x186002 x186003
noncomputable def impl_PassedStages.fv (a0_0 : Int) (l0_1 : List Int) (a0_2 : Int) (a0_3 : Bool) (l1 : List Int) : Option (Int) := Lim fun k => impl_PassedStages.f k a0_0 l0_1 a0_2 a0_3 l1
theorem impl_PassedStages.l0_is (x5 : Int) (x13 : List Int) (x14 : Int) (x15 : Int) (x186000 : Int) (x186001 : List Int) (x186002 : Int) (x186003 : Bool) : Is (fun k => impl_PassedStages.l0 k x5 x13 x14 x15 x186000 x186001 x186002 x186003) (impl_PassedStages.l0v x5 x13 x14 x15 x186000 x186001 x186002 x186003) := ⟨fun k => (impl_PassedStages.mono_l k) x5 x13 x14 x15 x186000 x186001 x186002 x186003, rfl⟩
theorem impl_PassedStages.f_is (a0_0 : Int) (l0_1 : List Int) (a0_2 : Int) (a0_3 : Bool) (l1 : List Int) : Is (fun k => impl_PassedStages.f k a0_0 l0_1 a0_2 a0_3 l1) (impl_PassedStages.fv a0_0 l0_1 a0_2 a0_3 l1) := ⟨fun k => impl_PassedStages.mono a0_0 l0_1 a0_2 a0_3 l1 k, rfl⟩
theorem impl_PassedStages.l0v_eq (x5 : Int) (x13 : List Int) (x14 : Int) (x15 : Int) (x186000 : Int) (x186001 : List Int) (x186002 : Int) (x186003 : Bool) : impl_PassedStages.l0v x5 x13 x14 x15 x186000 x186001 x186002 x186003 = if x15 < x14 then (if 0 ≤ x15 then (if x15 < (x13.length : Int) then ((impl_signalled.fv x186000 x186001 x186002 x186003 (rd x13 x15)).bind fun bt188 => (impl_PassedStages.l0v (mx x5 bt188.2.2.1) x13 x14 (wrap64 (x15 + 1)) bt188.1 bt188.2.1 bt188.2.2.1 bt188.2.2.2)) else (none)) else (none)) else (some (wrap64 (x5 + 1))) := by
  refine Is.step (impl_PassedStages.l0_is x5 x13 x14 x15 x186000 x186001 x186002 x186003).mo (fun k => by rw [impl_PassedStages.l0]) ?_
  · skip
    repeat' first
    | with_reducible exact impl_PassedStages.l0_is _ _ _ _ _ _ _ _
    | with_reducible exact impl_signalled.f_is _ _ _ _ _
    | with_reducible exact Is.now _
    | with_reducible refine Is.ite ?_ ?_
    | with_reducible refine Is.bind ?_ (fun _ => ?_)
theorem impl_PassedStages.fv_eq (a0_0 : Int) (l0_1 : List Int) (a0_2 : Int) (a0_3 : Bool) (l1 : List Int) : impl_PassedStages.fv a0_0 l0_1 a0_2 a0_3 l1 = (impl_IsRollout.fv a0_0 l0_1 a0_2 a0_3).bind fun t186 => (if t186 = true then (impl_PassedStages.l0v a0_2 l1 (l1.length : Int) 0 a0_0 l0_1 a0_2 a0_3) else (some 0)) := by
  refine Is.lim (g := fun k => impl_PassedStages.f k a0_0 l0_1 a0_2 a0_3 l1) ?_
  · unfold impl_PassedStages.f
    repeat' first
    | with_reducible exact impl_IsRollout.f_is _ _ _ _
    | with_reducible exact impl_PassedStages.l0_is _ _ _ _ _ _ _ _
    | with_reducible exact Is.now _
    | with_reducible refine Is.ite ?_ ?_
    | with_reducible refine Is.bind ?_ (fun _ => ?_)
noncomputable def impl_StageAfter.l0v (x10 : List Int) (x11 : Int) (x12 : Int) (x203000 : Int) (x203001 : List Int) (x203002 : Int) (x203003 : Bool) : Option (Int × List Int × Int × Bool) := Lim fun k => impl_StageAfter.l0 k x10 x11 x12 x203000 x203001 x203002 x203003
noncomputable def impl_StageAfter.fv (a0_0 : Int) (l0_1 : List Int) (a0_2 : Int) (a0_3 : Bool) (l1 : List Int) : Option (Int × List Int × Int × Bool) := Lim fun k => impl_StageAfter.f k a0_0 l0_1 a0_2 a0_3 l1
theorem impl_StageAfter.l0_is (x10 : List Int) (x11 : Int) (x12 : Int) (x203000 : Int) (x203001 : List Int) (x203002 : Int) (x203003 : Bool) : Is (fun k => impl_StageAfter.l0 k x10 x11 x12 x203000 x203001 x203002 x203003) (impl_StageAfter.l0v x10 x11 x12 x203000 x203001 x203002 x203003) := ⟨fun k => (impl_StageAfter.mono_l k) x10 x11 x12 x203000 x203001 x203002 x203003, rfl⟩
theorem impl_StageAfter.f_is (a0_0 : Int) (l0_1 : List Int) (a0_2 : Int) (a0_3 : Bool) (l1 : List Int) : Is (fun k => impl_StageAfter.f k a0_0 l0_1 a0_2 a0_3 l1) (impl_StageAfter.fv a0_0 l0_1 a0_2 a0_3 l1) := ⟨fun k => impl_StageAfter.mono a0_0 l0_1 a0_2 a0_3 l1 k, rfl⟩
theorem impl_StageAfter.l0v_eq (x10 : List Int) (x11 : Int) (x12 : Int) (x203000 : Int) (x203001 : List Int) (x203002 : Int) (x203003 : Bool) : impl_StageAfter.l0v x10 x11 x12 x203000 x203001 x203002 x203003 = if x12 < x11 then (if 0 ≤ x12 then (if x12 < (x10.length : Int) then ((impl_signalled.fv x203000 x203001 x203002 x203003 (rd x10 x12)).bind fun bt204 => (impl_StageAfter.l0v x10 x11 (wrap64 (x12 + 1)) bt204.1 bt204.2.1 bt204.2.2.1 bt204.2.2.2)) else (none)) else (none)) else (some (x203000, x203001, x203002, x203003)) := by
  refine Is.step (impl_StageAfter.l0_is x10 x11 x12 x203000 x203001 x203002 x203003).mo (fun k => by rw [impl_StageAfter.l0]) ?_
  · skip
    repeat' first
    | with_reducible exact impl_StageAfter.l0_is _ _ _ _ _ _ _
    | with_reducible exact impl_signalled.f_is _ _ _ _ _
    | with_reducible exact Is.now _
    | with_reducible refine Is.ite ?_ ?_
    | with_reducible refine Is.bind ?_ (fun _ => ?_)
theorem impl_StageAfter.fv_eq (a0_0 : Int) (l0_1 : List Int) (a0_2 : Int) (a0_3 : Bool) (l1 : List Int) : impl_StageAfter.fv a0_0 l0_1 a0_2 a0_3 l1 = (impl_copyRollout.f a0_0 l0_1 a0_2 a0_3).bind fun bt196 => (impl_StageAfter.l0v l1 (l1.length : Int) 0 bt196.1 bt196.2.1 bt196.2.2.1 bt196.2.2.2) := by
  refine Is.lim (g := fun k => impl_StageAfter.f k a0_0 l0_1 a0_2 a0_3 l1) ?_
  · unfold impl_StageAfter.f
    repeat' first
    | with_reducible exact impl_StageAfter.l0_is _ _ _ _ _ _ _
    | with_reducible exact Is.now _
    | with_reducible refine Is.ite ?_ ?_
    | with_reducible refine Is.bind ?_ (fun _ => ?_)
noncomputable def spec_l1New.l0v (x0 : List Int) (x3 : Int) (x4 : Int) : Option (List Int × Int × Int) := Lim fun k => spec_l1New.l0 k x0 x3 x4
noncomputable def spec_l1New.fv (l0 : List Int) : Option (List Int × Int × Int) := Lim fun k => spec_l1New.f k l0
theorem spec_l1New.l0_is (x0 : List Int) (x3 : Int) (x4 : Int) : Is (fun k => spec_l1New.l0 k x0 x3 x4) (spec_l1New.l0v x0 x3 x4) := ⟨fun k => (spec_l1New.mono_l k) x0 x3 x4, rfl⟩
theorem spec_l1New.f_is (l0 : List Int) : Is (fun k => spec_l1New.f k l0) (spec_l1New.fv l0) := ⟨fun k => spec_l1New.mono l0 k, rfl⟩
theorem spec_l1New.l0v_eq (x0 : List Int) (x3 : Int) (x4 : Int) : spec_l1New.l0v x0 x3 x4 = if x4 < (x0.length : Int) then (if x4 < 4000 then (if 0 ≤ x4 then (spec_l1New.l0v x0 (Go.bits .and .i64 (wrap64 ((wrap64 ((wrap64 (x3 * 137)) + (wrap64 (rd x0 x4)))) + 11)) 1073741823) (wrap64 (x4 + 1))) else (none)) else (some (x0, 0, x3))) else (some (x0, 0, x3)) := by
  refine Is.step (spec_l1New.l0_is x0 x3 x4).mo (fun k => by rw [spec_l1New.l0]) ?_
  · skip
    repeat' first
    | with_reducible exact spec_l1New.l0_is _ _ _
    | with_reducible exact Is.now _
    | with_reducible refine Is.ite ?_ ?_
    | with_reducible refine Is.bind ?_ (fun _ => ?_)
theorem spec_l1New.fv_eq (l0 : List Int) : spec_l1New.fv l0 = spec_l1New.l0v l0 (wrap64 (193017 + (l0.length : Int))) 0 := by
  refine Is.lim (g := fun k => spec_l1New.f k l0) ?_
  · unfold spec_l1New.f
    repeat' first
    | with_reducible exact spec_l1New.l0_is _ _ _
    | with_reducible exact Is.now _
    | with_reducible refine Is.ite ?_ ?_
    | with_reducible refine Is.bind ?_ (fun _ => ?_)
end Go.Proofs.Ytlcmkgbabffmeaa.Print
