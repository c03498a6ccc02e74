/- Written by a program of this session (limx.py): the equations of what the printed functions come to. No condition. -/
import Derived.Test.YtlcmkgbabffmeaaBase
import Derived.Test.YtlcmkgbabffmeaaPrint6
import Derived.Test.YtlcmkgbabffmeaaLim3
import Derived.Test.YtlcmkgbabffmeaaLim5
namespace Go.Proofs.Ytlcmkgbabffmeaa.Print
open Go.RowKit Go.Proofs.YtlcmkgbabffmeaaW.PrintWords Go.Proofs.YtlcmkgbabffmeaaW.PrintLast Go.Proofs.Ytlcmkgbabffmeaa.Base
set_option linter.unusedVariables false
set_option maxRecDepth 20000
noncomputable def spec_l27Signals.l0v (x3 : List Int) (x4 : Int) (x1000 : List Int) (x1001 : Int) (x1002 : Int) : Option (List Int × Int × Int) := Lim fun k => spec_l27Signals.l0 k x3 x4 x1000 x1001 x1002
noncomputable def spec_l27Signals.fv (s0_0 : List Int) (s0_1 : Int) (s0_2 : Int) : Option (List Int × Int × Int) := Lim fun k => spec_l27Signals.f k s0_0 s0_1 s0_2
theorem spec_l27Signals.l0_is (x3 : List Int) (x4 : Int) (x1000 : List Int) (x1001 : Int) (x1002 : Int) : Is (fun k => spec_l27Signals.l0 k x3 x4 x1000 x1001 x1002) (spec_l27Signals.l0v x3 x4 x1000 x1001 x1002) := ⟨fun k => (spec_l27Signals.mono_l k) x3 x4 x1000 x1001 x1002, rfl⟩
theorem spec_l27Signals.f_is (s0_0 : List Int) (s0_1 : Int) (s0_2 : Int) : Is (fun k => spec_l27Signals.f k s0_0 s0_1 s0_2) (spec_l27Signals.fv s0_0 s0_1 s0_2) := ⟨fun k => spec_l27Signals.mono s0_0 s0_1 s0_2 k, rfl⟩
theorem spec_l27Signals.l0v_eq (x3 : List Int) (x4 : Int) (x1000 : List Int) (x1001 : Int) (x1002 : Int) : spec_l27Signals.l0v x3 x4 x1000 x1001 x1002 = if x4 > 0 then ((spec_l1Int.f x1000 x1001 x1002 (([0, 1, 1, 1, 2, 3] : List Int))).bind fun bt365 => (if x3.length < 17592186044416 then (spec_l27Signals.l0v (x3 ++ [bt365.1]) (wrap64 (x4 - 1)) x1000 bt365.2.1 bt365.2.2) else (none))) else (some (x3, x1001, x1002)) := by
  refine Is.step (spec_l27Signals.l0_is x3 x4 x1000 x1001 x1002).mo (fun k => by rw [spec_l27Signals.l0]) ?_
  · skip
    repeat' first
    | with_reducible exact spec_l27Signals.l0_is _ _ _ _ _
    | with_reducible exact Is.now _
    | with_reducible refine Is.ite ?_ ?_
    | with_reducible refine Is.bind ?_ (fun _ => ?_)
theorem spec_l27Signals.fv_eq (s0_0 : List Int) (s0_1 : Int) (s0_2 : Int) : spec_l27Signals.fv s0_0 s0_1 s0_2 = (spec_l1Below.f s0_0 s0_1 s0_2 6).bind fun bt359 => (spec_l27Signals.l0v (([] : List Int)) bt359.1 s0_0 bt359.2.1 bt359.2.2) := by
  refine Is.lim (g := fun k => spec_l27Signals.f k s0_0 s0_1 s0_2) ?_
  · unfold spec_l27Signals.f
    repeat' first
    | with_reducible exact spec_l27Signals.l0_is _ _ _ _ _
    | with_reducible exact Is.now _
    | with_reducible refine Is.ite ?_ ?_
    | with_reducible refine Is.bind ?_ (fun _ => ?_)
noncomputable def spec_DrawStageAfter.fv (l0 : List Int) : Option (Int × List Int × Int × Bool × List Int) := Lim fun k => spec_DrawStageAfter.f k l0
theorem spec_DrawStageAfter.f_is (l0 : List Int) : Is (fun k => spec_DrawStageAfter.f k l0) (spec_DrawStageAfter.fv l0) := ⟨fun k => spec_DrawStageAfter.mono l0 k, rfl⟩
theorem spec_DrawStageAfter.fv_eq (l0 : List Int) : spec_DrawStageAfter.fv l0 = (spec_l1New.fv l0).bind fun bt372 => ((spec_l26Any.fv bt372.1 bt372.2.1 bt372.2.2).bind fun bt376 => ((spec_l27Signals.fv bt372.1 bt376.2.2.2.2.1 bt376.2.2.2.2.2).bind fun bt385 => (some (bt376.1, bt376.2.1, bt376.2.2.1, bt376.2.2.2.1, bt385.1)))) := by
  refine Is.lim (g := fun k => spec_DrawStageAfter.f k l0) ?_
  · unfold spec_DrawStageAfter.f
    repeat' first
    | with_reducible exact spec_l1New.f_is _
    | with_reducible exact spec_l26Any.f_is _ _ _
    | with_reducible exact spec_l27Signals.f_is _ _ _
    | with_reducible exact Is.now _
    | with_reducible refine Is.ite ?_ ?_
    | with_reducible refine Is.bind ?_ (fun _ => ?_)
noncomputable def spec_DrawSafeStages.fv (l0 : List Int) : Option (Int × Int) := Lim fun k => spec_DrawSafeStages.f k l0
theorem spec_DrawSafeStages.f_is (l0 : List Int) : Is (fun k => spec_DrawSafeStages.f k l0) (spec_DrawSafeStages.fv l0) := ⟨fun k => spec_DrawSafeStages.mono l0 k, rfl⟩
theorem spec_DrawSafeStages.fv_eq (l0 : List Int) : spec_DrawSafeStages.fv l0 = (spec_l1New.fv l0).bind fun bt390 => ((spec_l1Int.f bt390.1 bt390.2.1 bt390.2.2 (([1, 7, 50, 1000, 10000, 0, 10001] : List Int))).bind fun bt397 => ((spec_l1Int.f bt390.1 bt397.2.1 bt397.2.2 (([0, 1, 3, 10, 500, 10000, (-1), 9223372036854775807] : List Int))).bind fun bt403 => (some (bt397.1, bt403.1)))) := by
  refine Is.lim (g := fun k => spec_DrawSafeStages.f k l0) ?_
  · unfold spec_DrawSafeStages.f
    repeat' first
    | with_reducible exact spec_l1New.f_is _
    | with_reducible exact Is.now _
    | with_reducible refine Is.ite ?_ ?_
    | with_reducible refine Is.bind ?_ (fun _ => ?_)
noncomputable def impl_SafeStages.j0v (x0 : Int) (x1 : Int) (x5 : List Int) (x16 : Bool) : Option (List Int) := Lim fun k => impl_SafeStages.j0 k x0 x1 x5 x16
noncomputable def impl_SafeStages.l0v (x0 : Int) (x1 : Int) (x5 : List Int) (x6 : Int) (x7 : Int) : Option (List Int) := Lim fun k => impl_SafeStages.l0 k x0 x1 x5 x6 x7
noncomputable def impl_SafeStages.l1v (x5 : List Int) (x8 : Int) : Option (List Int) := Lim fun k => impl_SafeStages.l1 k x5 x8
noncomputable def impl_SafeStages.fv (a0 : Int) (a1 : Int) : Option (List Int) := Lim fun k => impl_SafeStages.f k a0 a1
theorem impl_SafeStages.j0_is (x0 : Int) (x1 : Int) (x5 : List Int) (x16 : Bool) : Is (fun k => impl_SafeStages.j0 k x0 x1 x5 x16) (impl_SafeStages.j0v x0 x1 x5 x16) := ⟨fun k => (impl_SafeStages.mono_l k).1 x0 x1 x5 x16, rfl⟩
theorem impl_SafeStages.l0_is (x0 : Int) (x1 : Int) (x5 : List Int) (x6 : Int) (x7 : Int) : Is (fun k => impl_SafeStages.l0 k x0 x1 x5 x6 x7) (impl_SafeStages.l0v x0 x1 x5 x6 x7) := ⟨fun k => (impl_SafeStages.mono_l k).2.1 x0 x1 x5 x6 x7, rfl⟩
theorem impl_SafeStages.l1_is (x5 : List Int) (x8 : Int) : Is (fun k => impl_SafeStages.l1 k x5 x8) (impl_SafeStages.l1v x5 x8) := ⟨fun k => (impl_SafeStages.mono_l k).2.2 x5 x8, rfl⟩
theorem impl_SafeStages.f_is (a0 : Int) (a1 : Int) : Is (fun k => impl_SafeStages.f k a0 a1) (impl_SafeStages.fv a0 a1) := ⟨fun k => impl_SafeStages.mono a0 a1 k, rfl⟩
theorem impl_SafeStages.j0v_eq (x0 : Int) (x1 : Int) (x5 : List Int) (x16 : Bool) : impl_SafeStages.j0v x0 x1 x5 x16 = if x16 = true then (some x5) else (impl_SafeStages.l0v x0 x1 x5 0 1) := by
  refine Is.step (impl_SafeStages.j0_is x0 x1 x5 x16).mo (fun k => by rw [impl_SafeStages.j0]) ?_
  · skip
    repeat' first
    | with_reducible exact impl_SafeStages.l0_is _ _ _ _ _
    | with_reducible exact Is.now _
    | with_reducible refine Is.ite ?_ ?_
    | with_reducible refine Is.bind ?_ (fun _ => ?_)
theorem impl_SafeStages.l0v_eq (x0 : Int) (x1 : Int) (x5 : List Int) (x6 : Int) (x7 : Int) : impl_SafeStages.l0v x0 x1 x5 x6 x7 = if x7 ≤ 100 then ((impl_CeilDiv.f (wrap64 (x0 * x7)) 100).bind fun t410 => (if t410 ≤ x1 then (impl_SafeStages.l0v x0 x1 x5 x7 (wrap64 (x7 + 1))) else (impl_SafeStages.l0v x0 x1 x5 x6 (wrap64 (x7 + 1))))) else (impl_SafeStages.l1v x5 x6) := by
  refine Is.step (impl_SafeStages.l0_is x0 x1 x5 x6 x7).mo (fun k => by rw [impl_SafeStages.l0]) ?_
  · skip
    repeat' first
    | with_reducible exact impl_SafeStages.l0_is _ _ _ _ _
    | with_reducible exact impl_SafeStages.l1_is _ _
    | with_reducible exact Is.now _
    | with_reducible refine Is.ite ?_ ?_
    | with_reducible refine Is.bind ?_ (fun _ => ?_)
theorem impl_SafeStages.l1v_eq (x5 : List Int) (x8 : Int) : impl_SafeStages.l1v x5 x8 = if x8 > 0 then (if x8 < 100 then (if (x5.length : Int) < 4 then (if x5.length < 17592186044416 then (impl_SafeStages.l1v (x5 ++ [x8]) (wrap64 (x8 * 2))) else (none)) else (if x5.length < 17592186044416 then (some (x5 ++ [100])) else (none))) else (if x5.length < 17592186044416 then (some (x5 ++ [100])) else (none))) else (if x5.length < 17592186044416 then (some (x5 ++ [100])) else (none)) := by
  refine Is.step (impl_SafeStages.l1_is x5 x8).mo (fun k => by rw [impl_SafeStages.l1]) ?_
  · skip
    repeat' first
    | with_reducible exact impl_SafeStages.l1_is _ _
    | with_reducible exact Is.now _
    | with_reducible refine Is.ite ?_ ?_
    | with_reducible refine Is.bind ?_ (fun _ => ?_)
theorem impl_SafeStages.fv_eq (a0 : Int) (a1 : Int) : impl_SafeStages.fv a0 a1 = (some (([] : List Int) : List Int)).bind fun y406 => ((impl_InRange.f a0 1 10000).bind fun t409 => (if t409 = true then (impl_SafeStages.j0v a0 a1 y406 (decide (a1 < 0))) else (impl_SafeStages.j0v a0 a1 y406 true))) := by
  refine Is.lim (g := fun k => impl_SafeStages.f k a0 a1) ?_
  · unfold impl_SafeStages.f
    repeat' first
    | with_reducible exact impl_SafeStages.j0_is _ _ _ _
    | with_reducible exact Is.now _
    | with_reducible refine Is.ite ?_ ?_
    | with_reducible refine Is.bind ?_ (fun _ => ?_)
end Go.Proofs.Ytlcmkgbabffmeaa.Print
