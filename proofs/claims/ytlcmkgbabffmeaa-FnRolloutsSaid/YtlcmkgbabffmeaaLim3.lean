/- Written by a program of this session (limx.py): the equations of what the printed functions come to. No condition. -/
import Derived.Test.YtlcmkgbabffmeaaBase
import Derived.Test.YtlcmkgbabffmeaaPrint3
namespace Go.Proofs.Ytlcmkgbabffmeaa.Print
open Go.RowKit Go.Proofs.YtlcmkgbabffmeaaW.PrintWords Go.Proofs.YtlcmkgbabffmeaaW.PrintLast Go.Proofs.Ytlcmkgbabffmeaa.Base
set_option linter.unusedVariables false
set_option maxRecDepth 20000
noncomputable def impl_IsRollout.l0v (x6 : List Int) (x7 : Int) (x8 : Int) (x196000 : Int) (x196001 : List Int) (x196002 : Int) (x196003 : Bool) : Option (Bool) := Lim fun k => impl_IsRollout.l0 k x6 x7 x8 x196000 x196001 x196002 x196003
noncomputable def impl_IsRollout.fv (a0_0 : Int) (l0_1 : List Int) (a0_2 : Int) (a0_3 : Bool) : Option (Bool) := Lim fun k => impl_IsRollout.f k a0_0 l0_1 a0_2 a0_3
theorem impl_IsRollout.l0_is (x6 : List Int) (x7 : Int) (x8 : Int) (x196000 : Int) (x196001 : List Int) (x196002 : Int) (x196003 : Bool) : Is (fun k => impl_IsRollout.l0 k x6 x7 x8 x196000 x196001 x196002 x196003) (impl_IsRollout.l0v x6 x7 x8 x196000 x196001 x196002 x196003) := ⟨fun k => (impl_IsRollout.mono_l k) x6 x7 x8 x196000 x196001 x196002 x196003, rfl⟩
theorem impl_IsRollout.f_is (a0_0 : Int) (l0_1 : List Int) (a0_2 : Int) (a0_3 : Bool) : Is (fun k => impl_IsRollout.f k a0_0 l0_1 a0_2 a0_3) (impl_IsRollout.fv a0_0 l0_1 a0_2 a0_3) := ⟨fun k => impl_IsRollout.mono a0_0 l0_1 a0_2 a0_3 k, rfl⟩
theorem impl_IsRollout.l0v_eq (x6 : List Int) (x7 : Int) (x8 : Int) (x196000 : Int) (x196001 : List Int) (x196002 : Int) (x196003 : Bool) : impl_IsRollout.l0v x6 x7 x8 x196000 x196001 x196002 x196003 = if x8 < x7 then (if 0 ≤ x8 then (if x8 < (x6.length : Int) then ((impl_InRange.f (rd x6 x8) 1 100).bind fun t197 => (if t197 = true then (if x8 > 0 then (if 0 ≤ (wrap64 (x8 - 1)) then (if (wrap64 (x8 - 1)) < (x196001.length : Int) then (if (rd x196001 (wrap64 (x8 - 1))) ≥ (rd x6 x8) then (some false) else (impl_IsRollout.l0v x6 x7 (wrap64 (x8 + 1)) x196000 x196001 x196002 x196003)) else (none)) else (none)) else (impl_IsRollout.l0v x6 x7 (wrap64 (x8 + 1)) x196000 x196001 x196002 x196003)) else (some false))) else (none)) else (none)) else ((impl_InRange.f x196000 1 9).bind fun t199 => (if t199 = true then ((impl_InRange.f (x196001.length : Int) 1 5).bind fun t200 => (if t200 = true then (if 0 ≤ (wrap64 ((x196001.length : Int) - 1)) then (if (wrap64 ((x196001.length : Int) - 1)) < (x196001.length : Int) then (if (rd x196001 (wrap64 ((x196001.length : Int) - 1))) = 100 then ((impl_InRange.f x196002 0 (wrap64 ((x196001.length : Int) - 1))).bind fun t202 => (some t202)) else (some false)) else (none)) else (none)) else (some false))) else (some false))) := by
  refine Is.step (impl_IsRollout.l0_is x6 x7 x8 x196000 x196001 x196002 x196003).mo (fun k => by rw [impl_IsRollout.l0]) ?_
  · skip
    repeat' first
    | with_reducible exact impl_IsRollout.l0_is _ _ _ _ _ _ _
    | with_reducible exact Is.now _
    | with_reducible refine Is.ite ?_ ?_
    | with_reducible refine Is.bind ?_ (fun _ => ?_)
theorem impl_IsRollout.fv_eq (a0_0 : Int) (l0_1 : List Int) (a0_2 : Int) (a0_3 : Bool) : impl_IsRollout.fv a0_0 l0_1 a0_2 a0_3 = impl_IsRollout.l0v l0_1 (l0_1.length : Int) 0 a0_0 l0_1 a0_2 a0_3 := by
  refine Is.lim (g := fun k => impl_IsRollout.f k a0_0 l0_1 a0_2 a0_3) ?_
  · unfold impl_IsRollout.f
    repeat' first
    | with_reducible exact impl_IsRollout.l0_is _ _ _ _ _ _ _
    | with_reducible exact Is.now _
    | with_reducible refine Is.ite ?_ ?_
    | with_reducible refine Is.bind ?_ (fun _ => ?_)
noncomputable def impl_NextStage.fv (a0_0 : Int) (l0_1 : List Int) (a0_2 : Int) (a0_3 : Bool) : Option (Int × List Int × Int × Bool × Bool) := Lim fun k => impl_NextStage.f k a0_0 l0_1 a0_2 a0_3
theorem impl_NextStage.f_is (a0_0 : Int) (l0_1 : List Int) (a0_2 : Int) (a0_3 : Bool) : Is (fun k => impl_NextStage.f k a0_0 l0_1 a0_2 a0_3) (impl_NextStage.fv a0_0 l0_1 a0_2 a0_3) := ⟨fun k => impl_NextStage.mono a0_0 l0_1 a0_2 a0_3 k, rfl⟩
theorem impl_NextStage.fv_eq (a0_0 : Int) (l0_1 : List Int) (a0_2 : Int) (a0_3 : Bool) : impl_NextStage.fv a0_0 l0_1 a0_2 a0_3 = (impl_copyRollout.f a0_0 l0_1 a0_2 a0_3).bind fun bt205 => ((impl_IsRollout.fv a0_0 l0_1 a0_2 a0_3).bind fun t212 => (if t212 = true then (if a0_3 = true then (some (bt205.1, bt205.2.1, bt205.2.2.1, bt205.2.2.2, false)) else (if a0_2 = (wrap64 ((l0_1.length : Int) - 1)) then (some (bt205.1, bt205.2.1, bt205.2.2.1, bt205.2.2.2, false)) else (some (bt205.1, bt205.2.1, wrap64 (bt205.2.2.1 + 1), bt205.2.2.2, true)))) else (some (bt205.1, bt205.2.1, bt205.2.2.1, bt205.2.2.2, false)))) := by
  refine Is.lim (g := fun k => impl_NextStage.f k a0_0 l0_1 a0_2 a0_3) ?_
  · unfold impl_NextStage.f
    repeat' first
    | with_reducible exact impl_IsRollout.f_is _ _ _ _
    | with_reducible exact Is.now _
    | with_reducible refine Is.ite ?_ ?_
    | with_reducible refine Is.bind ?_ (fun _ => ?_)
noncomputable def impl_BackStage.fv (a0_0 : Int) (l0_1 : List Int) (a0_2 : Int) (a0_3 : Bool) : Option (Int × List Int × Int × Bool × Bool) := Lim fun k => impl_BackStage.f k a0_0 l0_1 a0_2 a0_3
theorem impl_BackStage.f_is (a0_0 : Int) (l0_1 : List Int) (a0_2 : Int) (a0_3 : Bool) : Is (fun k => impl_BackStage.f k a0_0 l0_1 a0_2 a0_3) (impl_BackStage.fv a0_0 l0_1 a0_2 a0_3) := ⟨fun k => impl_BackStage.mono a0_0 l0_1 a0_2 a0_3 k, rfl⟩
theorem impl_BackStage.fv_eq (a0_0 : Int) (l0_1 : List Int) (a0_2 : Int) (a0_3 : Bool) : impl_BackStage.fv a0_0 l0_1 a0_2 a0_3 = (impl_copyRollout.f a0_0 l0_1 a0_2 a0_3).bind fun bt215 => ((impl_IsRollout.fv a0_0 l0_1 a0_2 a0_3).bind fun t222 => (if t222 = true then (if a0_3 = true then (some (bt215.1, bt215.2.1, bt215.2.2.1, bt215.2.2.2, false)) else (some (bt215.1, bt215.2.1, 0, true, true))) else (some (bt215.1, bt215.2.1, bt215.2.2.1, bt215.2.2.2, false)))) := by
  refine Is.lim (g := fun k => impl_BackStage.f k a0_0 l0_1 a0_2 a0_3) ?_
  · unfold impl_BackStage.f
    repeat' first
    | with_reducible exact impl_IsRollout.f_is _ _ _ _
    | with_reducible exact Is.now _
    | with_reducible refine Is.ite ?_ ?_
    | with_reducible refine Is.bind ?_ (fun _ => ?_)
noncomputable def impl_signalled.fv (a0_0 : Int) (l0_1 : List Int) (a0_2 : Int) (a0_3 : Bool) (a1 : Int) : Option (Int × List Int × Int × Bool) := Lim fun k => impl_signalled.f k a0_0 l0_1 a0_2 a0_3 a1
theorem impl_signalled.f_is (a0_0 : Int) (l0_1 : List Int) (a0_2 : Int) (a0_3 : Bool) (a1 : Int) : Is (fun k => impl_signalled.f k a0_0 l0_1 a0_2 a0_3 a1) (impl_signalled.fv a0_0 l0_1 a0_2 a0_3 a1) := ⟨fun k => impl_signalled.mono a0_0 l0_1 a0_2 a0_3 a1 k, rfl⟩
theorem impl_signalled.fv_eq (a0_0 : Int) (l0_1 : List Int) (a0_2 : Int) (a0_3 : Bool) (a1 : Int) : impl_signalled.fv a0_0 l0_1 a0_2 a0_3 a1 = if a1 = 1 then ((impl_NextStage.fv a0_0 l0_1 a0_2 a0_3).bind fun bt225 => (some (bt225.1, bt225.2.1, bt225.2.2.1, bt225.2.2.2.1))) else (if a1 = 2 then ((impl_BackStage.fv a0_0 l0_1 a0_2 a0_3).bind fun bt232 => (some (bt232.1, bt232.2.1, bt232.2.2.1, bt232.2.2.2.1))) else (some (a0_0, l0_1, a0_2, a0_3))) := by
  refine Is.lim (g := fun k => impl_signalled.f k a0_0 l0_1 a0_2 a0_3 a1) ?_
  · unfold impl_signalled.f
    repeat' first
    | with_reducible exact impl_BackStage.f_is _ _ _ _
    | with_reducible exact impl_NextStage.f_is _ _ _ _
    | with_reducible exact Is.now _
    | with_reducible refine Is.ite ?_ ?_
    | with_reducible refine Is.bind ?_ (fun _ => ?_)
noncomputable def impl_StageAfter.l0v (x10 : List Int) (x11 : Int) (x12 : Int) (x248000 : Int) (x248001 : List Int) (x248002 : Int) (x248003 : Bool) : Option (Int × List Int × Int × Bool) := Lim fun k => impl_StageAfter.l0 k x10 x11 x12 x248000 x248001 x248002 x248003
noncomputable def impl_StageAfter.fv (a0_0 : Int) (l0_1 : List Int) (a0_2 : Int) (a0_3 : Bool) (l1 : List Int) : Option (Int × List Int × Int × Bool) := Lim fun k => impl_StageAfter.f k a0_0 l0_1 a0_2 a0_3 l1
theorem impl_StageAfter.l0_is (x10 : List Int) (x11 : Int) (x12 : Int) (x248000 : Int) (x248001 : List Int) (x248002 : Int) (x248003 : Bool) : Is (fun k => impl_StageAfter.l0 k x10 x11 x12 x248000 x248001 x248002 x248003) (impl_StageAfter.l0v x10 x11 x12 x248000 x248001 x248002 x248003) := ⟨fun k => (impl_StageAfter.mono_l k) x10 x11 x12 x248000 x248001 x248002 x248003, rfl⟩
theorem impl_StageAfter.f_is (a0_0 : Int) (l0_1 : List Int) (a0_2 : Int) (a0_3 : Bool) (l1 : List Int) : Is (fun k => impl_StageAfter.f k a0_0 l0_1 a0_2 a0_3 l1) (impl_StageAfter.fv a0_0 l0_1 a0_2 a0_3 l1) := ⟨fun k => impl_StageAfter.mono a0_0 l0_1 a0_2 a0_3 l1 k, rfl⟩
theorem impl_StageAfter.l0v_eq (x10 : List Int) (x11 : Int) (x12 : Int) (x248000 : Int) (x248001 : List Int) (x248002 : Int) (x248003 : Bool) : impl_StageAfter.l0v x10 x11 x12 x248000 x248001 x248002 x248003 = if x12 < x11 then (if 0 ≤ x12 then (if x12 < (x10.length : Int) then ((impl_signalled.fv x248000 x248001 x248002 x248003 (rd x10 x12)).bind fun bt249 => (impl_StageAfter.l0v x10 x11 (wrap64 (x12 + 1)) bt249.1 bt249.2.1 bt249.2.2.1 bt249.2.2.2)) else (none)) else (none)) else (some (x248000, x248001, x248002, x248003)) := by
  refine Is.step (impl_StageAfter.l0_is x10 x11 x12 x248000 x248001 x248002 x248003).mo (fun k => by rw [impl_StageAfter.l0]) ?_
  · skip
    repeat' first
    | with_reducible exact impl_StageAfter.l0_is _ _ _ _ _ _ _
    | with_reducible exact impl_signalled.f_is _ _ _ _ _
    | with_reducible exact Is.now _
    | with_reducible refine Is.ite ?_ ?_
    | with_reducible refine Is.bind ?_ (fun _ => ?_)
theorem impl_StageAfter.fv_eq (a0_0 : Int) (l0_1 : List Int) (a0_2 : Int) (a0_3 : Bool) (l1 : List Int) : impl_StageAfter.fv a0_0 l0_1 a0_2 a0_3 l1 = (impl_copyRollout.f a0_0 l0_1 a0_2 a0_3).bind fun bt241 => (impl_StageAfter.l0v l1 (l1.length : Int) 0 bt241.1 bt241.2.1 bt241.2.2.1 bt241.2.2.2) := by
  refine Is.lim (g := fun k => impl_StageAfter.f k a0_0 l0_1 a0_2 a0_3 l1) ?_
  · unfold impl_StageAfter.f
    repeat' first
    | with_reducible exact impl_StageAfter.l0_is _ _ _ _ _ _ _
    | with_reducible exact Is.now _
    | with_reducible refine Is.ite ?_ ?_
    | with_reducible refine Is.bind ?_ (fun _ => ?_)
end Go.Proofs.Ytlcmkgbabffmeaa.Print
