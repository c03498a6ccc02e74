/- Written by a program of this session (limx.py): the equations of what the printed functions come to. No condition. -/
import Derived.Test.YtlcmkgbabffmeaaBase
import Derived.Test.YtlcmkgbabffmeaaPrint2
import Derived.Test.YtlcmkgbabffmeaaLim1
namespace Go.Proofs.Ytlcmkgbabffmeaa.Print
open Go.RowKit Go.Proofs.YtlcmkgbabffmeaaW.PrintWords Go.Proofs.YtlcmkgbabffmeaaW.PrintLast Go.Proofs.Ytlcmkgbabffmeaa.Base
set_option linter.unusedVariables false
set_option maxRecDepth 20000
noncomputable def spec_NextStage.fv (a0_0 : Int) (l0_1 : List Int) (a0_2 : Int) (a0_3 : Bool) : Option (Int × List Int × Int × Bool × Bool) := Lim fun k => spec_NextStage.f k a0_0 l0_1 a0_2 a0_3
theorem spec_NextStage.f_is (a0_0 : Int) (l0_1 : List Int) (a0_2 : Int) (a0_3 : Bool) : Is (fun k => spec_NextStage.f k a0_0 l0_1 a0_2 a0_3) (spec_NextStage.fv a0_0 l0_1 a0_2 a0_3) := ⟨fun k => spec_NextStage.mono a0_0 l0_1 a0_2 a0_3 k, rfl⟩
theorem spec_NextStage.fv_eq (a0_0 : Int) (l0_1 : List Int) (a0_2 : Int) (a0_3 : Bool) : spec_NextStage.fv a0_0 l0_1 a0_2 a0_3 = (spec_l26Copy.f a0_0 l0_1 a0_2 a0_3).bind fun bt138 => ((spec_IsRollout.fv a0_0 l0_1 a0_2 a0_3).bind fun t145 => (if t145 = true then (if a0_3 = true then (some (bt138.1, bt138.2.1, bt138.2.2.1, bt138.2.2.2, false)) else (if a0_2 = (wrap64 ((l0_1.length : Int) - 1)) then (some (bt138.1, bt138.2.1, bt138.2.2.1, bt138.2.2.2, false)) else (some (bt138.1, bt138.2.1, wrap64 (a0_2 + 1), bt138.2.2.2, true)))) else (some (bt138.1, bt138.2.1, bt138.2.2.1, bt138.2.2.2, false)))) := by
  refine Is.lim (g := fun k => spec_NextStage.f k a0_0 l0_1 a0_2 a0_3) ?_
  · unfold spec_NextStage.f
    repeat' first
    | with_reducible exact spec_IsRollout.f_is _ _ _ _
    | with_reducible exact Is.now _
    | with_reducible refine Is.ite ?_ ?_
    | with_reducible refine Is.bind ?_ (fun _ => ?_)
noncomputable def spec_BackStage.fv (a0_0 : Int) (l0_1 : List Int) (a0_2 : Int) (a0_3 : Bool) : Option (Int × List Int × Int × Bool × Bool) := Lim fun k => spec_BackStage.f k a0_0 l0_1 a0_2 a0_3
theorem spec_BackStage.f_is (a0_0 : Int) (l0_1 : List Int) (a0_2 : Int) (a0_3 : Bool) : Is (fun k => spec_BackStage.f k a0_0 l0_1 a0_2 a0_3) (spec_BackStage.fv a0_0 l0_1 a0_2 a0_3) := ⟨fun k => spec_BackStage.mono a0_0 l0_1 a0_2 a0_3 k, rfl⟩
theorem spec_BackStage.fv_eq (a0_0 : Int) (l0_1 : List Int) (a0_2 : Int) (a0_3 : Bool) : spec_BackStage.fv a0_0 l0_1 a0_2 a0_3 = (spec_l26Copy.f a0_0 l0_1 a0_2 a0_3).bind fun bt148 => ((spec_IsRollout.fv a0_0 l0_1 a0_2 a0_3).bind fun t155 => (if t155 = true then (if a0_3 = true then (some (bt148.1, bt148.2.1, bt148.2.2.1, bt148.2.2.2, false)) else (some (bt148.1, bt148.2.1, 0, true, true))) else (some (bt148.1, bt148.2.1, bt148.2.2.1, bt148.2.2.2, false)))) := by
  refine Is.lim (g := fun k => spec_BackStage.f k a0_0 l0_1 a0_2 a0_3) ?_
  · unfold spec_BackStage.f
    repeat' first
    | with_reducible exact spec_IsRollout.f_is _ _ _ _
    | with_reducible exact Is.now _
    | with_reducible refine Is.ite ?_ ?_
    | with_reducible refine Is.bind ?_ (fun _ => ?_)
noncomputable def spec_StageAfter.l0v (x1 : List Int) (x6 : Int) (x165000 : Int) (x165001 : List Int) (x165002 : Int) (x165003 : Bool) : Option (Int × List Int × Int × Bool) := Lim fun k => spec_StageAfter.l0 k x1 x6 x165000 x165001 x165002 x165003
noncomputable def spec_StageAfter.fv (a0_0 : Int) (l0_1 : List Int) (a0_2 : Int) (a0_3 : Bool) (l1 : List Int) : Option (Int × List Int × Int × Bool) := Lim fun k => spec_StageAfter.f k a0_0 l0_1 a0_2 a0_3 l1
theorem spec_StageAfter.l0_is (x1 : List Int) (x6 : Int) (x165000 : Int) (x165001 : List Int) (x165002 : Int) (x165003 : Bool) : Is (fun k => spec_StageAfter.l0 k x1 x6 x165000 x165001 x165002 x165003) (spec_StageAfter.l0v x1 x6 x165000 x165001 x165002 x165003) := ⟨fun k => (spec_StageAfter.mono_l k) x1 x6 x165000 x165001 x165002 x165003, rfl⟩
theorem spec_StageAfter.f_is (a0_0 : Int) (l0_1 : List Int) (a0_2 : Int) (a0_3 : Bool) (l1 : List Int) : Is (fun k => spec_StageAfter.f k a0_0 l0_1 a0_2 a0_3 l1) (spec_StageAfter.fv a0_0 l0_1 a0_2 a0_3 l1) := ⟨fun k => spec_StageAfter.mono a0_0 l0_1 a0_2 a0_3 l1 k, rfl⟩
theorem spec_StageAfter.l0v_eq (x1 : List Int) (x6 : Int) (x165000 : Int) (x165001 : List Int) (x165002 : Int) (x165003 : Bool) : spec_StageAfter.l0v x1 x6 x165000 x165001 x165002 x165003 = if x6 < (x1.length : Int) then (if 0 ≤ x6 then (if (rd x1 x6) = 1 then ((spec_NextStage.fv x165000 x165001 x165002 x165003).bind fun bt166 => (spec_StageAfter.l0v x1 (wrap64 (x6 + 1)) bt166.1 bt166.2.1 bt166.2.2.1 bt166.2.2.2.1)) else (if (rd x1 x6) = 2 then ((spec_BackStage.fv x165000 x165001 x165002 x165003).bind fun bt173 => (spec_StageAfter.l0v x1 (wrap64 (x6 + 1)) bt173.1 bt173.2.1 bt173.2.2.1 bt173.2.2.2.1)) else (spec_StageAfter.l0v x1 (wrap64 (x6 + 1)) x165000 x165001 x165002 x165003))) else (none)) else (some (x165000, x165001, x165002, x165003)) := by
  refine Is.step (spec_StageAfter.l0_is x1 x6 x165000 x165001 x165002 x165003).mo (fun k => by rw [spec_StageAfter.l0]) ?_
  · skip
    repeat' first
    | with_reducible exact spec_BackStage.f_is _ _ _ _
    | with_reducible exact spec_NextStage.f_is _ _ _ _
    | with_reducible exact spec_StageAfter.l0_is _ _ _ _ _ _
    | with_reducible exact Is.now _
    | with_reducible refine Is.ite ?_ ?_
    | with_reducible refine Is.bind ?_ (fun _ => ?_)
theorem spec_StageAfter.fv_eq (a0_0 : Int) (l0_1 : List Int) (a0_2 : Int) (a0_3 : Bool) (l1 : List Int) : spec_StageAfter.fv a0_0 l0_1 a0_2 a0_3 l1 = (spec_l26Copy.f a0_0 l0_1 a0_2 a0_3).bind fun bt158 => (spec_StageAfter.l0v l1 0 bt158.1 bt158.2.1 bt158.2.2.1 bt158.2.2.2) := by
  refine Is.lim (g := fun k => spec_StageAfter.f k a0_0 l0_1 a0_2 a0_3 l1) ?_
  · unfold spec_StageAfter.f
    repeat' first
    | with_reducible exact spec_StageAfter.l0_is _ _ _ _ _ _
    | with_reducible exact Is.now _
    | with_reducible refine Is.ite ?_ ?_
    | with_reducible refine Is.bind ?_ (fun _ => ?_)
noncomputable def spec_PassedStages.l0v (x1 : List Int) (x5 : Int) (x6 : Int) (x181000 : Int) (x181001 : List Int) (x181002 : Int) (x181003 : Bool) : Option (Int) := Lim fun k => spec_PassedStages.l0 k x1 x5 x6 x181000 x181001 x181002 x181003
noncomputable def spec_PassedStages.fv (a0_0 : Int) (l0_1 : List Int) (a0_2 : Int) (a0_3 : Bool) (l1 : List Int) : Option (Int) := Lim fun k => spec_PassedStages.f k a0_0 l0_1 a0_2 a0_3 l1
theorem spec_PassedStages.l0_is (x1 : List Int) (x5 : Int) (x6 : Int) (x181000 : Int) (x181001 : List Int) (x181002 : Int) (x181003 : Bool) : Is (fun k => spec_PassedStages.l0 k x1 x5 x6 x181000 x181001 x181002 x181003) (spec_PassedStages.l0v x1 x5 x6 x181000 x181001 x181002 x181003) := ⟨fun k => (spec_PassedStages.mono_l k) x1 x5 x6 x181000 x181001 x181002 x181003, rfl⟩
theorem spec_PassedStages.f_is (a0_0 : Int) (l0_1 : List Int) (a0_2 : Int) (a0_3 : Bool) (l1 : List Int) : Is (fun k => spec_PassedStages.f k a0_0 l0_1 a0_2 a0_3 l1) (spec_PassedStages.fv a0_0 l0_1 a0_2 a0_3 l1) := ⟨fun k => spec_PassedStages.mono a0_0 l0_1 a0_2 a0_3 l1 k, rfl⟩
theorem spec_PassedStages.l0v_eq (x1 : List Int) (x5 : Int) (x6 : Int) (x181000 : Int) (x181001 : List Int) (x181002 : Int) (x181003 : Bool) : spec_PassedStages.l0v x1 x5 x6 x181000 x181001 x181002 x181003 = if x6 ≤ (x1.length : Int) then (if 0 ≤ x6 then ((spec_StageAfter.fv x181000 x181001 x181002 x181003 (x1.take (x6 : Int).toNat)).bind fun bt183 => ((spec_Max.f x5 (wrap64 (bt183.2.2.1 + 1))).bind fun t189 => (spec_PassedStages.l0v x1 t189 (wrap64 (x6 + 1)) x181000 x181001 x181002 x181003))) else (none)) else (some x5) := by
  refine Is.step (spec_PassedStages.l0_is x1 x5 x6 x181000 x181001 x181002 x181003).mo (fun k => by rw [spec_PassedStages.l0]) ?_
  · skip
    repeat' first
    | with_reducible exact spec_PassedStages.l0_is _ _ _ _ _ _ _
    | with_reducible exact spec_StageAfter.f_is _ _ _ _ _
    | with_reducible exact Is.now _
    | with_reducible refine Is.ite ?_ ?_
    | with_reducible refine Is.bind ?_ (fun _ => ?_)
theorem spec_PassedStages.fv_eq (a0_0 : Int) (l0_1 : List Int) (a0_2 : Int) (a0_3 : Bool) (l1 : List Int) : spec_PassedStages.fv a0_0 l0_1 a0_2 a0_3 l1 = (spec_IsRollout.fv a0_0 l0_1 a0_2 a0_3).bind fun t181 => (if t181 = true then (spec_PassedStages.l0v l1 (wrap64 (a0_2 + 1)) 0 a0_0 l0_1 a0_2 a0_3) else (some 0)) := by
  refine Is.lim (g := fun k => spec_PassedStages.f k a0_0 l0_1 a0_2 a0_3 l1) ?_
  · unfold spec_PassedStages.f
    repeat' first
    | with_reducible exact spec_IsRollout.f_is _ _ _ _
    | with_reducible exact spec_PassedStages.l0_is _ _ _ _ _ _ _
    | with_reducible exact Is.now _
    | with_reducible refine Is.ite ?_ ?_
    | with_reducible refine Is.bind ?_ (fun _ => ?_)
end Go.Proofs.Ytlcmkgbabffmeaa.Print
