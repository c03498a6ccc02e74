/- Written by a program of this session (limx.py): the equations of what the printed functions come to. No condition. -/
import Derived.Test.YtaggmlokldaclaaBase
import Derived.Test.YtaggmlokldaclaaPrint3
import Derived.Test.YtaggmlokldaclaaLim1
namespace Go.Proofs.Ytaggmlokldaclaa.Print
open Go.RowKit Go.Proofs.YtaggmlokldaclaaW.PrintWords Go.Proofs.YtaggmlokldaclaaW.PrintLast Go.Proofs.Ytaggmlokldaclaa.Base
set_option linter.unusedVariables false
set_option maxRecDepth 20000
noncomputable def impl_sumOf.l0v (x3 : Int) (x6 : List Int) (x7 : Int) (x8 : Int) : Option (Int) := Lim fun k => impl_sumOf.l0 k x3 x6 x7 x8
noncomputable def impl_sumOf.fv (l0 : List Int) : Option (Int) := Lim fun k => impl_sumOf.f k l0
theorem impl_sumOf.l0_is (x3 : Int) (x6 : List Int) (x7 : Int) (x8 : Int) : Is (fun k => impl_sumOf.l0 k x3 x6 x7 x8) (impl_sumOf.l0v x3 x6 x7 x8) := ⟨fun k => (impl_sumOf.mono_l k) x3 x6 x7 x8, rfl⟩
theorem impl_sumOf.f_is (l0 : List Int) : Is (fun k => impl_sumOf.f k l0) (impl_sumOf.fv l0) := ⟨fun k => impl_sumOf.mono l0 k, rfl⟩
theorem impl_sumOf.l0v_eq (x3 : Int) (x6 : List Int) (x7 : Int) (x8 : Int) : impl_sumOf.l0v x3 x6 x7 x8 = if x8 < x7 then (if 0 ≤ x8 then (if x8 < (x6.length : Int) then (impl_sumOf.l0v (wrap64 (x3 + (rd x6 x8))) x6 x7 (wrap64 (x8 + 1))) else (none)) else (none)) else (some x3) := by
  refine Is.step (impl_sumOf.l0_is x3 x6 x7 x8).mo (fun k => by rw [impl_sumOf.l0]) ?_
  · skip
    repeat' first
    | with_reducible exact impl_sumOf.l0_is _ _ _ _
    | with_reducible exact Is.now _
    | with_reducible refine Is.ite ?_ ?_
    | with_reducible refine Is.bind ?_ (fun _ => ?_)
theorem impl_sumOf.fv_eq (l0 : List Int) : impl_sumOf.fv l0 = impl_sumOf.l0v 0 l0 (l0.length : Int) 0 := by
  refine Is.lim (g := fun k => impl_sumOf.f k l0) ?_
  · unfold impl_sumOf.f
    repeat' first
    | with_reducible exact impl_sumOf.l0_is _ _ _ _
    | with_reducible exact Is.now _
    | with_reducible refine Is.ite ?_ ?_
    | with_reducible refine Is.bind ?_ (fun _ => ?_)
noncomputable def impl_ShareOf.fv (l0 : List Int) (a1 : Int) : Option (Int × Int) := Lim fun k => impl_ShareOf.f k l0 a1
theorem impl_ShareOf.f_is (l0 : List Int) (a1 : Int) : Is (fun k => impl_ShareOf.f k l0 a1) (impl_ShareOf.fv l0 a1) := ⟨fun k => impl_ShareOf.mono l0 a1 k, rfl⟩
theorem impl_ShareOf.fv_eq (l0 : List Int) (a1 : Int) : impl_ShareOf.fv l0 a1 = (impl_AreCounts.fv l0).bind fun t159 => (if t159 = true then ((impl_InRange.f a1 0 (wrap64 ((l0.length : Int) - 1))).bind fun t160 => (if t160 = true then (if 0 ≤ a1 then (if a1 < (l0.length : Int) then ((impl_sumOf.fv l0).bind fun t162 => (some (rd l0 a1, t162))) else (none)) else (none)) else (some (0, 0)))) else (some (0, 0))) := by
  refine Is.lim (g := fun k => impl_ShareOf.f k l0 a1) ?_
  · unfold impl_ShareOf.f
    repeat' first
    | with_reducible exact impl_AreCounts.f_is _
    | with_reducible exact impl_sumOf.f_is _
    | with_reducible exact Is.now _
    | with_reducible refine Is.ite ?_ ?_
    | with_reducible refine Is.bind ?_ (fun _ => ?_)
noncomputable def spec_SafeStages.j0v (x0 : Int) (x1 : Int) (x5 : List Int) (x14 : Bool) : Option (List Int) := Lim fun k => spec_SafeStages.j0 k x0 x1 x5 x14
noncomputable def spec_SafeStages.j2v (x5 : List Int) (x6 : Int) : Option (List Int) := Lim fun k => spec_SafeStages.j2 k x5 x6
noncomputable def spec_SafeStages.l1v (x5 : List Int) (x6 : Int) : Option (List Int) := Lim fun k => spec_SafeStages.l1 k x5 x6
noncomputable def spec_SafeStages.l0v (x0 : Int) (x1 : Int) (x5 : List Int) (x6 : Int) : Option (List Int) := Lim fun k => spec_SafeStages.l0 k x0 x1 x5 x6
noncomputable def spec_SafeStages.fv (a0 : Int) (a1 : Int) : Option (List Int) := Lim fun k => spec_SafeStages.f k a0 a1
theorem spec_SafeStages.j0_is (x0 : Int) (x1 : Int) (x5 : List Int) (x14 : Bool) : Is (fun k => spec_SafeStages.j0 k x0 x1 x5 x14) (spec_SafeStages.j0v x0 x1 x5 x14) := ⟨fun k => (spec_SafeStages.mono_l k).1 x0 x1 x5 x14, rfl⟩
theorem spec_SafeStages.j2_is (x5 : List Int) (x6 : Int) : Is (fun k => spec_SafeStages.j2 k x5 x6) (spec_SafeStages.j2v x5 x6) := ⟨fun k => (spec_SafeStages.mono_l k).2.1 x5 x6, rfl⟩
theorem spec_SafeStages.l1_is (x5 : List Int) (x6 : Int) : Is (fun k => spec_SafeStages.l1 k x5 x6) (spec_SafeStages.l1v x5 x6) := ⟨fun k => (spec_SafeStages.mono_l k).2.2.1 x5 x6, rfl⟩
theorem spec_SafeStages.l0_is (x0 : Int) (x1 : Int) (x5 : List Int) (x6 : Int) : Is (fun k => spec_SafeStages.l0 k x0 x1 x5 x6) (spec_SafeStages.l0v x0 x1 x5 x6) := ⟨fun k => (spec_SafeStages.mono_l k).2.2.2 x0 x1 x5 x6, rfl⟩
theorem spec_SafeStages.f_is (a0 : Int) (a1 : Int) : Is (fun k => spec_SafeStages.f k a0 a1) (spec_SafeStages.fv a0 a1) := ⟨fun k => spec_SafeStages.mono a0 a1 k, rfl⟩
theorem spec_SafeStages.j0v_eq (x0 : Int) (x1 : Int) (x5 : List Int) (x14 : Bool) : spec_SafeStages.j0v x0 x1 x5 x14 = if x14 = true then (some x5) else (spec_SafeStages.l0v x0 x1 x5 100) := by
  refine Is.step (spec_SafeStages.j0_is x0 x1 x5 x14).mo (fun k => by rw [spec_SafeStages.j0]) ?_
  · skip
    repeat' first
    | with_reducible exact spec_SafeStages.l0_is _ _ _ _
    | with_reducible exact Is.now _
    | with_reducible refine Is.ite ?_ ?_
    | with_reducible refine Is.bind ?_ (fun _ => ?_)
theorem spec_SafeStages.j2v_eq (x5 : List Int) (x6 : Int) : spec_SafeStages.j2v x5 x6 = spec_SafeStages.l1v x5 x6 := by
  refine Is.step (spec_SafeStages.j2_is x5 x6).mo (fun k => by rw [spec_SafeStages.j2]) ?_
  · skip
    repeat' first
    | with_reducible exact spec_SafeStages.l1_is _ _
    | with_reducible exact Is.now _
    | with_reducible refine Is.ite ?_ ?_
    | with_reducible refine Is.bind ?_ (fun _ => ?_)
theorem spec_SafeStages.l1v_eq (x5 : List Int) (x6 : Int) : spec_SafeStages.l1v x5 x6 = if x6 > 0 then (if x6 < 100 then (if (x5.length : Int) < 4 then (if x5.length < 17592186044416 then (spec_SafeStages.l1v (x5 ++ [x6]) (wrap64 (2 * x6))) else (none)) else (if x5.length < 17592186044416 then (some (x5 ++ [100])) else (none))) else (if x5.length < 17592186044416 then (some (x5 ++ [100])) else (none))) else (if x5.length < 17592186044416 then (some (x5 ++ [100])) else (none)) := by
  refine Is.step (spec_SafeStages.l1_is x5 x6).mo (fun k => by rw [spec_SafeStages.l1]) ?_
  · skip
    repeat' first
    | with_reducible exact spec_SafeStages.l1_is _ _
    | with_reducible exact Is.now _
    | with_reducible refine Is.ite ?_ ?_
    | with_reducible refine Is.bind ?_ (fun _ => ?_)
theorem spec_SafeStages.l0v_eq (x0 : Int) (x1 : Int) (x5 : List Int) (x6 : Int) : spec_SafeStages.l0v x0 x1 x5 x6 = if x6 > 0 then ((spec_CeilDiv.f (wrap64 (x0 * x6)) 100).bind fun t183 => (if t183 > x1 then (spec_SafeStages.l0v x0 x1 x5 (wrap64 (x6 - 1))) else (spec_SafeStages.j2v x5 x6))) else (spec_SafeStages.j2v x5 x6) := by
  refine Is.step (spec_SafeStages.l0_is x0 x1 x5 x6).mo (fun k => by rw [spec_SafeStages.l0]) ?_
  · skip
    repeat' first
    | with_reducible exact spec_SafeStages.j2_is _ _
    | with_reducible exact spec_SafeStages.l0_is _ _ _ _
    | with_reducible exact Is.now _
    | with_reducible refine Is.ite ?_ ?_
    | with_reducible refine Is.bind ?_ (fun _ => ?_)
theorem spec_SafeStages.fv_eq (a0 : Int) (a1 : Int) : spec_SafeStages.fv a0 a1 = (some (([] : List Int) : List Int)).bind fun y179 => ((spec_l1In.f a0 1 10000).bind fun t182 => (if t182 = true then (spec_SafeStages.j0v a0 a1 y179 (decide (a1 < 0))) else (spec_SafeStages.j0v a0 a1 y179 true))) := by
  refine Is.lim (g := fun k => spec_SafeStages.f k a0 a1) ?_
  · unfold spec_SafeStages.f
    repeat' first
    | with_reducible exact spec_SafeStages.j0_is _ _ _ _
    | with_reducible exact Is.now _
    | with_reducible refine Is.ite ?_ ?_
    | with_reducible refine Is.bind ?_ (fun _ => ?_)
end Go.Proofs.Ytaggmlokldaclaa.Print
