/- Written by a program of this session (limx.py): the equations of what the printed functions come to. No condition. -/
import Derived.Test.YtaggmlokldaclaaBase
import Derived.Test.YtaggmlokldaclaaPrint5
import Derived.Test.YtaggmlokldaclaaLim1
import Derived.Test.YtaggmlokldaclaaLim3
import Derived.Test.YtaggmlokldaclaaLim4
namespace Go.Proofs.Ytaggmlokldaclaa.Print
open Go.RowKit Go.Proofs.YtaggmlokldaclaaW.PrintWords Go.Proofs.YtaggmlokldaclaaW.PrintLast Go.Proofs.Ytaggmlokldaclaa.Base
set_option linter.unusedVariables false
set_option maxRecDepth 20000
noncomputable def impl_HideSmall.l0v (x1 : Int) (x5 : List Int) (x14 : List Int) (x15 : Int) (x16 : Int) : Option (List Int) := Lim fun k => impl_HideSmall.l0 k x1 x5 x14 x15 x16
noncomputable def impl_HideSmall.fv (l0 : List Int) (a1 : Int) : Option (List Int) := Lim fun k => impl_HideSmall.f k l0 a1
theorem impl_HideSmall.l0_is (x1 : Int) (x5 : List Int) (x14 : List Int) (x15 : Int) (x16 : Int) : Is (fun k => impl_HideSmall.l0 k x1 x5 x14 x15 x16) (impl_HideSmall.l0v x1 x5 x14 x15 x16) := ⟨fun k => (impl_HideSmall.mono_l k) x1 x5 x14 x15 x16, rfl⟩
theorem impl_HideSmall.f_is (l0 : List Int) (a1 : Int) : Is (fun k => impl_HideSmall.f k l0 a1) (impl_HideSmall.fv l0 a1) := ⟨fun k => impl_HideSmall.mono l0 a1 k, rfl⟩
theorem impl_HideSmall.l0v_eq (x1 : Int) (x5 : List Int) (x14 : List Int) (x15 : Int) (x16 : Int) : impl_HideSmall.l0v x1 x5 x14 x15 x16 = if x16 < x15 then (if 0 ≤ x16 then (if x16 < (x14.length : Int) then (if (rd x14 x16) < x1 then (if x5.length < 17592186044416 then (impl_HideSmall.l0v x1 (x5 ++ [0]) x14 x15 (wrap64 (x16 + 1))) else (none)) else (if x5.length < 17592186044416 then (impl_HideSmall.l0v x1 (x5 ++ [rd x14 x16]) x14 x15 (wrap64 (x16 + 1))) else (none))) else (none)) else (none)) else (some x5) := by
  refine Is.step (impl_HideSmall.l0_is x1 x5 x14 x15 x16).mo (fun k => by rw [impl_HideSmall.l0]) ?_
  · skip
    repeat' first
    | with_reducible exact impl_HideSmall.l0_is _ _ _ _ _
    | with_reducible exact Is.now _
    | with_reducible refine Is.ite ?_ ?_
    | with_reducible refine Is.bind ?_ (fun _ => ?_)
theorem impl_HideSmall.fv_eq (l0 : List Int) (a1 : Int) : impl_HideSmall.fv l0 a1 = (some (([] : List Int) : List Int)).bind fun y246 => ((impl_canHide.fv l0 a1).bind fun t249 => (if t249 = true then (impl_HideSmall.l0v a1 y246 l0 (l0.length : Int) 0) else (some y246))) := by
  refine Is.lim (g := fun k => impl_HideSmall.f k l0 a1) ?_
  · unfold impl_HideSmall.f
    repeat' first
    | with_reducible exact impl_HideSmall.l0_is _ _ _ _ _
    | with_reducible exact impl_canHide.f_is _ _
    | with_reducible exact Is.now _
    | with_reducible refine Is.ite ?_ ?_
    | with_reducible refine Is.bind ?_ (fun _ => ?_)
noncomputable def spec_HiddenIn.l0v (x0 : List Int) (x5 : List Int) (x6 : Int) (x7 : Int) : Option (Int) := Lim fun k => spec_HiddenIn.l0 k x0 x5 x6 x7
noncomputable def spec_HiddenIn.fv (l0 : List Int) (a1 : Int) : Option (Int) := Lim fun k => spec_HiddenIn.f k l0 a1
theorem spec_HiddenIn.l0_is (x0 : List Int) (x5 : List Int) (x6 : Int) (x7 : Int) : Is (fun k => spec_HiddenIn.l0 k x0 x5 x6 x7) (spec_HiddenIn.l0v x0 x5 x6 x7) := ⟨fun k => (spec_HiddenIn.mono_l k) x0 x5 x6 x7, rfl⟩
theorem spec_HiddenIn.f_is (l0 : List Int) (a1 : Int) : Is (fun k => spec_HiddenIn.f k l0 a1) (spec_HiddenIn.fv l0 a1) := ⟨fun k => spec_HiddenIn.mono l0 a1 k, rfl⟩
theorem spec_HiddenIn.l0v_eq (x0 : List Int) (x5 : List Int) (x6 : Int) (x7 : Int) : spec_HiddenIn.l0v x0 x5 x6 x7 = if x7 < (x5.length : Int) then (if 0 ≤ x7 then (if x7 < (x0.length : Int) then (spec_HiddenIn.l0v x0 x5 (wrap64 ((wrap64 (x6 + (rd x0 x7))) - (rd x5 x7))) (wrap64 (x7 + 1))) else (none)) else (none)) else (some x6) := by
  refine Is.step (spec_HiddenIn.l0_is x0 x5 x6 x7).mo (fun k => by rw [spec_HiddenIn.l0]) ?_
  · skip
    repeat' first
    | with_reducible exact spec_HiddenIn.l0_is _ _ _ _
    | with_reducible exact Is.now _
    | with_reducible refine Is.ite ?_ ?_
    | with_reducible refine Is.bind ?_ (fun _ => ?_)
theorem spec_HiddenIn.fv_eq (l0 : List Int) (a1 : Int) : spec_HiddenIn.fv l0 a1 = (spec_HideSmall.fv l0 a1).bind fun t288 => (spec_HiddenIn.l0v l0 t288 0 0) := by
  refine Is.lim (g := fun k => spec_HiddenIn.f k l0 a1) ?_
  · unfold spec_HiddenIn.f
    repeat' first
    | with_reducible exact spec_HiddenIn.l0_is _ _ _ _
    | with_reducible exact spec_HideSmall.f_is _ _
    | with_reducible exact Is.now _
    | with_reducible refine Is.ite ?_ ?_
    | with_reducible refine Is.bind ?_ (fun _ => ?_)
noncomputable def impl_HiddenIn.fv (l0 : List Int) (a1 : Int) : Option (Int) := Lim fun k => impl_HiddenIn.f k l0 a1
theorem impl_HiddenIn.f_is (l0 : List Int) (a1 : Int) : Is (fun k => impl_HiddenIn.f k l0 a1) (impl_HiddenIn.fv l0 a1) := ⟨fun k => impl_HiddenIn.mono l0 a1 k, rfl⟩
theorem impl_HiddenIn.fv_eq (l0 : List Int) (a1 : Int) : impl_HiddenIn.fv l0 a1 = (impl_canHide.fv l0 a1).bind fun t293 => (if t293 = true then ((impl_sumOf.fv l0).bind fun t294 => ((impl_HideSmall.fv l0 a1).bind fun t295 => ((impl_sumOf.fv t295).bind fun t298 => (some (wrap64 (t294 - t298)))))) else (some 0)) := by
  refine Is.lim (g := fun k => impl_HiddenIn.f k l0 a1) ?_
  · unfold impl_HiddenIn.f
    repeat' first
    | with_reducible exact impl_HideSmall.f_is _ _
    | with_reducible exact impl_canHide.f_is _ _
    | with_reducible exact impl_sumOf.f_is _
    | with_reducible exact Is.now _
    | with_reducible refine Is.ite ?_ ?_
    | with_reducible refine Is.bind ?_ (fun _ => ?_)
noncomputable def spec_SumCounts.l0v (x0 : List Int) (x1 : List Int) (x5 : List Int) (x6 : Int) : Option (List Int) := Lim fun k => spec_SumCounts.l0 k x0 x1 x5 x6
noncomputable def spec_SumCounts.j1v (x0 : List Int) (x1 : List Int) (x5 : List Int) (x6 : Int) (x23 : Bool) : Option (List Int) := Lim fun k => spec_SumCounts.j1 k x0 x1 x5 x6 x23
noncomputable def spec_SumCounts.fv (l0 : List Int) (l1 : List Int) : Option (List Int) := Lim fun k => spec_SumCounts.f k l0 l1
theorem spec_SumCounts.l0_is (x0 : List Int) (x1 : List Int) (x5 : List Int) (x6 : Int) : Is (fun k => spec_SumCounts.l0 k x0 x1 x5 x6) (spec_SumCounts.l0v x0 x1 x5 x6) := ⟨fun k => (spec_SumCounts.mono_l k).1 x0 x1 x5 x6, rfl⟩
theorem spec_SumCounts.j1_is (x0 : List Int) (x1 : List Int) (x5 : List Int) (x6 : Int) (x23 : Bool) : Is (fun k => spec_SumCounts.j1 k x0 x1 x5 x6 x23) (spec_SumCounts.j1v x0 x1 x5 x6 x23) := ⟨fun k => (spec_SumCounts.mono_l k).2 x0 x1 x5 x6 x23, rfl⟩
theorem spec_SumCounts.f_is (l0 : List Int) (l1 : List Int) : Is (fun k => spec_SumCounts.f k l0 l1) (spec_SumCounts.fv l0 l1) := ⟨fun k => spec_SumCounts.mono l0 l1 k, rfl⟩
theorem spec_SumCounts.l0v_eq (x0 : List Int) (x1 : List Int) (x5 : List Int) (x6 : Int) : spec_SumCounts.l0v x0 x1 x5 x6 = (spec_Max.f (x0.length : Int) (x1.length : Int)).bind fun t314 => (if x6 < t314 then ((spec_AreCounts.fv x0).bind fun t315 => (if t315 = true then ((spec_AreCounts.fv x1).bind fun t316 => (spec_SumCounts.j1v x0 x1 x5 x6 t316)) else (spec_SumCounts.j1v x0 x1 x5 x6 false))) else (spec_SumCounts.j1v x0 x1 x5 x6 false)) := by
  refine Is.step (spec_SumCounts.l0_is x0 x1 x5 x6).mo (fun k => by rw [spec_SumCounts.l0]) ?_
  · skip
    repeat' first
    | with_reducible exact spec_AreCounts.f_is _
    | with_reducible exact spec_SumCounts.j1_is _ _ _ _ _
    | with_reducible exact Is.now _
    | with_reducible refine Is.ite ?_ ?_
    | with_reducible refine Is.bind ?_ (fun _ => ?_)
theorem spec_SumCounts.j1v_eq (x0 : List Int) (x1 : List Int) (x5 : List Int) (x6 : Int) (x23 : Bool) : spec_SumCounts.j1v x0 x1 x5 x6 x23 = if x23 = true then (if x6 < (x0.length : Int) then (if 0 ≤ x6 then (if x6 < (x1.length : Int) then ((spec_Min.f 10000 (wrap64 ((wrap64 ((rd x0 x6))) + (rd x1 x6)))).bind fun t319 => (if x5.length < 17592186044416 then (spec_SumCounts.l0v x0 x1 (x5 ++ [t319]) (wrap64 (x6 + 1))) else (none))) else ((spec_Min.f 10000 (wrap64 ((rd x0 x6)))).bind fun t323 => (if x5.length < 17592186044416 then (spec_SumCounts.l0v x0 x1 (x5 ++ [t323]) (wrap64 (x6 + 1))) else (none)))) else (none)) else (if x6 < (x1.length : Int) then (if 0 ≤ x6 then ((spec_Min.f 10000 (wrap64 ((rd x1 x6)))).bind fun t328 => (if x5.length < 17592186044416 then (spec_SumCounts.l0v x0 x1 (x5 ++ [t328]) (wrap64 (x6 + 1))) else (none))) else (none)) else ((spec_Min.f 10000 0).bind fun t332 => (if x5.length < 17592186044416 then (spec_SumCounts.l0v x0 x1 (x5 ++ [t332]) (wrap64 (x6 + 1))) else (none))))) else (some x5) := by
  refine Is.step (spec_SumCounts.j1_is x0 x1 x5 x6 x23).mo (fun k => by rw [spec_SumCounts.j1]) ?_
  · skip
    repeat' first
    | with_reducible exact spec_SumCounts.l0_is _ _ _ _
    | with_reducible exact Is.now _
    | with_reducible refine Is.ite ?_ ?_
    | with_reducible refine Is.bind ?_ (fun _ => ?_)
theorem spec_SumCounts.fv_eq (l0 : List Int) (l1 : List Int) : spec_SumCounts.fv l0 l1 = spec_SumCounts.l0v l0 l1 (([] : List Int)) 0 := by
  refine Is.lim (g := fun k => spec_SumCounts.f k l0 l1) ?_
  · unfold spec_SumCounts.f
    repeat' first
    | with_reducible exact spec_SumCounts.l0_is _ _ _ _
    | with_reducible exact Is.now _
    | with_reducible refine Is.ite ?_ ?_
    | with_reducible refine Is.bind ?_ (fun _ => ?_)
end Go.Proofs.Ytaggmlokldaclaa.Print
