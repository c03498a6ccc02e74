/- Written by a program of this session (limx.py): the equations of what the printed functions come to. No condition. -/
import Derived.Test.YtlcmkgbabffmeaaBase
import Derived.Test.YtlcmkgbabffmeaaPrint3
namespace Go.Proofs.Ytlcmkgbabffmeaa.Print
open Go.RowKit Go.Proofs.YtlcmkgbabffmeaaW.PrintWords Go.Proofs.YtlcmkgbabffmeaaW.PrintLast Go.Proofs.Ytlcmkgbabffmeaa.Base
set_option linter.unusedVariables false
set_option maxRecDepth 20000
noncomputable def impl_IsRollout.l0v (x6 : List Int) (x7 : Int) (x8 : Int) (x191000 : Int) (x191001 : List Int) (x191002 : Int) (x191003 : Bool) : Option (Bool) := Lim fun k => impl_IsRollout.l0 k x6 x7 x8 x191000 x191001 x191002 x191003
noncomputable def impl_IsRollout.fv (a0_0 : Int) (l0_1 : List Int) (a0_2 : Int) (a0_3 : Bool) : Option (Bool) := Lim fun k => impl_IsRollout.f k a0_0 l0_1 a0_2 a0_3
theorem impl_IsRollout.l0_is (x6 : List Int) (x7 : Int) (x8 : Int) (x191000 : Int) (x191001 : List Int) (x191002 : Int) (x191003 : Bool) : Is (fun k => impl_IsRollout.l0 k x6 x7 x8 x191000 x191001 x191002 x191003) (impl_IsRollout.l0v x6 x7 x8 x191000 x191001 x191002 x191003) := ⟨fun k => (impl_IsRollout.mono_l k) x6 x7 x8 x191000 x191001 x191002 x191003, rfl⟩
theorem impl_IsRollout.f_is (a0_0 : Int) (l0_1 : List Int) (a0_2 : Int) (a0_3 : Bool) : Is (fun k => impl_IsRollout.f k a0_0 l0_1 a0_2 a0_3) (impl_IsRollout.fv a0_0 l0_1 a0_2 a0_3) := ⟨fun k => impl_IsRollout.mono a0_0 l0_1 a0_2 a0_3 k, rfl⟩
theorem impl_IsRollout.l0v_eq (x6 : List Int) (x7 : Int) (x8 : Int) (x191000 : Int) (x191001 : List Int) (x191002 : Int) (x191003 : Bool) : impl_IsRollout.l0v x6 x7 x8 x191000 x191001 x191002 x191003 = if x8 < x7 then (if 0 ≤ x8 then (if x8 < (x6.length : Int) then ((impl_InRange.f (rd x6 x8) 1 100).bind fun t192 => (if t192 = true then (if x8 > 0 then (if 0 ≤ (wrap64 (x8 - 1)) then (if (wrap64 (x8 - 1)) < (x191001.length : Int) then (if (rd x191001 (wrap64 (x8 - 1))) ≥ (rd x6 x8) then (some false) else (impl_IsRollout.l0v x6 x7 (wrap64 (x8 + 1)) x191000 x191001 x191002 x191003)) else (none)) else (none)) else (impl_IsRollout.l0v x6 x7 (wrap64 (x8 + 1)) x191000 x191001 x191002 x191003)) else (some false))) else (none)) else (none)) else ((impl_InRange.f x191000 1 9).bind fun t194 => (if t194 = true then ((impl_InRange.f (x191001.length : Int) 1 5).bind fun t195 => (if t195 = true then (if 0 ≤ (wrap64 ((x191001.length : Int) - 1)) then (if (wrap64 ((x191001.length : Int) - 1)) < (x191001.length : Int) then (if (rd x191001 (wrap64 ((x191001.length : Int) - 1))) = 100 then ((impl_InRange.f x191002 0 (wrap64 ((x191001.length : Int) - 1))).bind fun t197 => (some t197)) else (some false)) else (none)) else (none)) else (some false))) else (some false))) := by
  refine Is.step (impl_IsRollout.l0_is x6 x7 x8 x191000 x191001 x191002 x191003).mo (fun k => by rw [impl_IsRollout.l0]) ?_
  · skip
    repeat' first
    | with_reducible exact impl_IsRollout.l0_is _ _ _ _ _ _ _
    | with_reducible exact Is.now _
    | with_reducible refine Is.ite ?_ ?_
    | with_reducible refine Is.bind ?_ (fun _ => ?_)
theorem impl_IsRollout.fv_eq (a0_0 : Int) (l0_1 : List Int) (a0_2 : Int) (a0_3 : Bool) : impl_IsRollout.fv a0_0 l0_1 a0_2 a0_3 = impl_IsRollout.l0v l0_1 (l0_1.length : Int) 0 a0_0 l0_1 a0_2 a0_3 := by
  refine Is.lim (g := fun k => impl_IsRollout.f k a0_0 l0_1 a0_2 a0_3) ?_
  · unfold impl_IsRollout.f
    repeat' first
    | with_reducible exact impl_IsRollout.l0_is _ _ _ _ _ _ _
    | with_reducible exact Is.now _
    | with_reducible refine Is.ite ?_ ?_
    | with_reducible refine Is.bind ?_ (fun _ => ?_)
noncomputable def impl_NextStage.fv (a0_0 : Int) (l0_1 : List Int) (a0_2 : Int) (a0_3 : Bool) : Option (Int × List Int × Int × Bool × Bool) := Lim fun k => impl_NextStage.f k a0_0 l0_1 a0_2 a0_3
theorem impl_NextStage.f_is (a0_0 : Int) (l0_1 : List Int) (a0_2 : Int) (a0_3 : Bool) : Is (fun k => impl_NextStage.f k a0_0 l0_1 a0_2 a0_3) (impl_NextStage.fv a0_0 l0_1 a0_2 a0_3) := ⟨fun k => impl_NextStage.mono a0_0 l0_1 a0_2 a0_3 k, rfl⟩
theorem impl_NextStage.fv_eq (a0_0 : Int) (l0_1 : List Int) (a0_2 : Int) (a0_3 : Bool) : impl_NextStage.fv a0_0 l0_1 a0_2 a0_3 = (impl_copyRollout.f a0_0 l0_1 a0_2 a0_3).bind fun bt208 => ((impl_IsRollout.fv a0_0 l0_1 a0_2 a0_3).bind fun t215 => (if t215 = true then (if a0_3 = true then (some (bt208.1, bt208.2.1, bt208.2.2.1, bt208.2.2.2, false)) else (if a0_2 = (wrap64 ((l0_1.length : Int) - 1)) then (some (bt208.1, bt208.2.1, bt208.2.2.1, bt208.2.2.2, false)) else (some (bt208.1, bt208.2.1, wrap64 (bt208.2.2.1 + 1), bt208.2.2.2, true)))) else (some (bt208.1, bt208.2.1, bt208.2.2.1, bt208.2.2.2, false)))) := by
  refine Is.lim (g := fun k => impl_NextStage.f k a0_0 l0_1 a0_2 a0_3) ?_
  · unfold impl_NextStage.f
    repeat' first
    | with_reducible exact impl_IsRollout.f_is _ _ _ _
    | with_reducible exact Is.now _
    | with_reducible refine Is.ite ?_ ?_
    | with_reducible refine Is.bind ?_ (fun _ => ?_)
noncomputable def impl_BackStage.fv (a0_0 : Int) (l0_1 : List Int) (a0_2 : Int) (a0_3 : Bool) : Option (Int × List Int × Int × Bool × Bool) := Lim fun k => impl_BackStage.f k a0_0 l0_1 a0_2 a0_3
theorem impl_BackStage.f_is (a0_0 : Int) (l0_1 : List Int) (a0_2 : Int) (a0_3 : Bool) : Is (fun k => impl_BackStage.f k a0_0 l0_1 a0_2 a0_3) (impl_BackStage.fv a0_0 l0_1 a0_2 a0_3) := ⟨fun k => impl_BackStage.mono a0_0 l0_1 a0_2 a0_3 k, rfl⟩
theorem impl_BackStage.fv_eq (a0_0 : Int) (l0_1 : List Int) (a0_2 : Int) (a0_3 : Bool) : impl_BackStage.fv a0_0 l0_1 a0_2 a0_3 = (impl_copyRollout.f a0_0 l0_1 a0_2 a0_3).bind fun bt218 => ((impl_IsRollout.fv a0_0 l0_1 a0_2 a0_3).bind fun t225 => (if t225 = true then (if a0_3 = true then (some (bt218.1, bt218.2.1, bt218.2.2.1, bt218.2.2.2, false)) else (some (bt218.1, bt218.2.1, 0, true, true))) else (some (bt218.1, bt218.2.1, bt218.2.2.1, bt218.2.2.2, false)))) := by
  refine Is.lim (g := fun k => impl_BackStage.f k a0_0 l0_1 a0_2 a0_3) ?_
  · unfold impl_BackStage.f
    repeat' first
    | with_reducible exact impl_IsRollout.f_is _ _ _ _
    | with_reducible exact Is.now _
    | with_reducible refine Is.ite ?_ ?_
    | with_reducible refine Is.bind ?_ (fun _ => ?_)
noncomputable def impl_signalled.fv (a0_0 : Int) (l0_1 : List Int) (a0_2 : Int) (a0_3 : Bool) (a1 : Int) : Option (Int × List Int × Int × Bool) := Lim fun k => impl_signalled.f k a0_0 l0_1 a0_2 a0_3 a1
theorem impl_signalled.f_is (a0_0 : Int) (l0_1 : List Int) (a0_2 : Int) (a0_3 : Bool) (a1 : Int) : Is (fun k => impl_signalled.f k a0_0 l0_1 a0_2 a0_3 a1) (impl_signalled.fv a0_0 l0_1 a0_2 a0_3 a1) := ⟨fun k => impl_signalled.mono a0_0 l0_1 a0_2 a0_3 a1 k, rfl⟩
theorem impl_signalled.fv_eq (a0_0 : Int) (l0_1 : List Int) (a0_2 : Int) (a0_3 : Bool) (a1 : Int) : impl_signalled.fv a0_0 l0_1 a0_2 a0_3 a1 = if a1 = 1 then ((impl_NextStage.fv a0_0 l0_1 a0_2 a0_3).bind fun bt228 => (some (bt228.1, bt228.2.1, bt228.2.2.1, bt228.2.2.2.1))) else (if a1 = 2 then ((impl_BackStage.fv a0_0 l0_1 a0_2 a0_3).bind fun bt235 => (some (bt235.1, bt235.2.1, bt235.2.2.1, bt235.2.2.2.1))) else (some (a0_0, l0_1, a0_2, a0_3))) := by
  refine Is.lim (g := fun k => impl_signalled.f k a0_0 l0_1 a0_2 a0_3 a1) ?_
  · unfold impl_signalled.f
    repeat' first
    | with_reducible exact impl_BackStage.f_is _ _ _ _
    | with_reducible exact impl_NextStage.f_is _ _ _ _
    | with_reducible exact Is.now _
    | with_reducible refine Is.ite ?_ ?_
    | with_reducible refine Is.bind ?_ (fun _ => ?_)
noncomputable def impl_PassedStages.l0v (x5 : Int) (x13 : List Int) (x14 : Int) (x15 : Int) (x243000 : Int) (x243001 : List Int) (x243002 : Int) (x243003 : Bool) : Option (Int) := Lim fun k => impl_PassedStages.l0 k x5 x13 x14 x15 x243000 x243001 x243002 x243003
noncomputable def impl_PassedStages.fv (a0_0 : Int) (l0_1 : List Int) (a0_2 : Int) (a0_3 : Bool) (l1 : List Int) : Option (Int) := Lim fun k => impl_PassedStages.f k a0_0 l0_1 a0_2 a0_3 l1
theorem impl_PassedStages.l0_is (x5 : Int) (x13 : List Int) (x14 : Int) (x15 : Int) (x243000 : Int) (x243001 : List Int) (x243002 : Int) (x243003 : Bool) : Is (fun k => impl_PassedStages.l0 k x5 x13 x14 x15 x243000 x243001 x243002 x243003) (impl_PassedStages.l0v x5 x13 x14 x15 x243000 x243001 x243002 x243003) := ⟨fun k => (impl_PassedStages.mono_l k) x5 x13 x14 x15 x243000 x243001 x243002 x243003, rfl⟩
theorem impl_PassedStages.f_is (a0_0 : Int) (l0_1 : List Int) (a0_2 : Int) (a0_3 : Bool) (l1 : List Int) : Is (fun k => impl_PassedStages.f k a0_0 l0_1 a0_2 a0_3 l1) (impl_PassedStages.fv a0_0 l0_1 a0_2 a0_3 l1) := ⟨fun k => impl_PassedStages.mono a0_0 l0_1 a0_2 a0_3 l1 k, rfl⟩
theorem impl_PassedStages.l0v_eq (x5 : Int) (x13 : List Int) (x14 : Int) (x15 : Int) (x243000 : Int) (x243001 : List Int) (x243002 : Int) (x243003 : Bool) : impl_PassedStages.l0v x5 x13 x14 x15 x243000 x243001 x243002 x243003 = if x15 < x14 then (if 0 ≤ x15 then (if x15 < (x13.length : Int) then ((impl_signalled.fv x243000 x243001 x243002 x243003 (rd x13 x15)).bind fun bt245 => (impl_PassedStages.l0v (mx x5 bt245.2.2.1) x13 x14 (wrap64 (x15 + 1)) bt245.1 bt245.2.1 bt245.2.2.1 bt245.2.2.2)) else (none)) else (none)) else (some (wrap64 (x5 + 1))) := by
  refine Is.step (impl_PassedStages.l0_is x5 x13 x14 x15 x243000 x243001 x243002 x243003).mo (fun k => by rw [impl_PassedStages.l0]) ?_
  · skip
    repeat' first
    | with_reducible exact impl_PassedStages.l0_is _ _ _ _ _ _ _ _
    | with_reducible exact impl_signalled.f_is _ _ _ _ _
    | with_reducible exact Is.now _
    | with_reducible refine Is.ite ?_ ?_
    | with_reducible refine Is.bind ?_ (fun _ => ?_)
theorem impl_PassedStages.fv_eq (a0_0 : Int) (l0_1 : List Int) (a0_2 : Int) (a0_3 : Bool) (l1 : List Int) : impl_PassedStages.fv a0_0 l0_1 a0_2 a0_3 l1 = (impl_IsRollout.fv a0_0 l0_1 a0_2 a0_3).bind fun t243 => (if t243 = true then (impl_PassedStages.l0v a0_2 l1 (l1.length : Int) 0 a0_0 l0_1 a0_2 a0_3) else (some 0)) := by
  refine Is.lim (g := fun k => impl_PassedStages.f k a0_0 l0_1 a0_2 a0_3 l1) ?_
  · unfold impl_PassedStages.f
    repeat' first
    | with_reducible exact impl_IsRollout.f_is _ _ _ _
    | with_reducible exact impl_PassedStages.l0_is _ _ _ _ _ _ _ _
    | with_reducible exact Is.now _
    | with_reducible refine Is.ite ?_ ?_
    | with_reducible refine Is.bind ?_ (fun _ => ?_)
end Go.Proofs.Ytlcmkgbabffmeaa.Print
