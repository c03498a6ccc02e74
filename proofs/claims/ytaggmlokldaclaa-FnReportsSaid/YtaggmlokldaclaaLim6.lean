/- Written by a program of this session (limx.py): the equations of what the printed functions come to. No condition. -/
import Derived.Test.YtaggmlokldaclaaBase
import Derived.Test.YtaggmlokldaclaaPrint6
import Derived.Test.YtaggmlokldaclaaLim1
namespace Go.Proofs.Ytaggmlokldaclaa.Print
open Go.RowKit Go.Proofs.YtaggmlokldaclaaW.PrintWords Go.Proofs.YtaggmlokldaclaaW.PrintLast Go.Proofs.Ytaggmlokldaclaa.Base
set_option linter.unusedVariables false
set_option maxRecDepth 20000
noncomputable def impl_SumCounts.j0v (x0 : List Int) (x1 : List Int) (x5 : List Int) (x16 : Bool) : Option (List Int) := Lim fun k => impl_SumCounts.j0 k x0 x1 x5 x16
noncomputable def impl_SumCounts.l0v (x0 : List Int) (x1 : List Int) (x5 : List Int) (x22 : Int) (x23 : Int) : Option (List Int) := Lim fun k => impl_SumCounts.l0 k x0 x1 x5 x22 x23
noncomputable def impl_SumCounts.fv (l0 : List Int) (l1 : List Int) : Option (List Int) := Lim fun k => impl_SumCounts.f k l0 l1
theorem impl_SumCounts.j0_is (x0 : List Int) (x1 : List Int) (x5 : List Int) (x16 : Bool) : Is (fun k => impl_SumCounts.j0 k x0 x1 x5 x16) (impl_SumCounts.j0v x0 x1 x5 x16) := ⟨fun k => (impl_SumCounts.mono_l k).1 x0 x1 x5 x16, rfl⟩
theorem impl_SumCounts.l0_is (x0 : List Int) (x1 : List Int) (x5 : List Int) (x22 : Int) (x23 : Int) : Is (fun k => impl_SumCounts.l0 k x0 x1 x5 x22 x23) (impl_SumCounts.l0v x0 x1 x5 x22 x23) := ⟨fun k => (impl_SumCounts.mono_l k).2 x0 x1 x5 x22 x23, rfl⟩
theorem impl_SumCounts.f_is (l0 : List Int) (l1 : List Int) : Is (fun k => impl_SumCounts.f k l0 l1) (impl_SumCounts.fv l0 l1) := ⟨fun k => impl_SumCounts.mono l0 l1 k, rfl⟩
theorem impl_SumCounts.j0v_eq (x0 : List Int) (x1 : List Int) (x5 : List Int) (x16 : Bool) : impl_SumCounts.j0v x0 x1 x5 x16 = if x16 = true then (some x5) else (impl_SumCounts.l0v x0 x1 x5 (mx (x0.length : Int) (x1.length : Int)) 0) := by
  refine Is.step (impl_SumCounts.j0_is x0 x1 x5 x16).mo (fun k => by rw [impl_SumCounts.j0]) ?_
  · skip
    repeat' first
    | with_reducible exact impl_SumCounts.l0_is _ _ _ _ _
    | with_reducible exact Is.now _
    | with_reducible refine Is.ite ?_ ?_
    | with_reducible refine Is.bind ?_ (fun _ => ?_)
theorem impl_SumCounts.l0v_eq (x0 : List Int) (x1 : List Int) (x5 : List Int) (x22 : Int) (x23 : Int) : impl_SumCounts.l0v x0 x1 x5 x22 x23 = if x23 < x22 then (if x23 < (x0.length : Int) then (if 0 ≤ x23 then (if x23 < (x1.length : Int) then (if x5.length < 17592186044416 then (impl_SumCounts.l0v x0 x1 (x5 ++ [mn (wrap64 ((wrap64 ((rd x0 x23))) + (rd x1 x23))) 10000]) x22 (wrap64 (x23 + 1))) else (none)) else (if x5.length < 17592186044416 then (impl_SumCounts.l0v x0 x1 (x5 ++ [mn (wrap64 ((rd x0 x23))) 10000]) x22 (wrap64 (x23 + 1))) else (none))) else (none)) else (if x23 < (x1.length : Int) then (if 0 ≤ x23 then (if x5.length < 17592186044416 then (impl_SumCounts.l0v x0 x1 (x5 ++ [mn (wrap64 ((rd x1 x23))) 10000]) x22 (wrap64 (x23 + 1))) else (none)) else (none)) else (if x5.length < 17592186044416 then (impl_SumCounts.l0v x0 x1 (x5 ++ [0]) x22 (wrap64 (x23 + 1))) else (none)))) else (some x5) := by
  refine Is.step (impl_SumCounts.l0_is x0 x1 x5 x22 x23).mo (fun k => by rw [impl_SumCounts.l0]) ?_
  · skip
    repeat' first
    | with_reducible exact impl_SumCounts.l0_is _ _ _ _ _
    | with_reducible exact Is.now _
    | with_reducible refine Is.ite ?_ ?_
    | with_reducible refine Is.bind ?_ (fun _ => ?_)
theorem impl_SumCounts.fv_eq (l0 : List Int) (l1 : List Int) : impl_SumCounts.fv l0 l1 = (some (([] : List Int) : List Int)).bind fun y336 => ((impl_AreCounts.fv l0).bind fun t339 => (if t339 = true then ((impl_AreCounts.fv l1).bind fun t340 => (impl_SumCounts.j0v l0 l1 y336 (!t340))) else (impl_SumCounts.j0v l0 l1 y336 true))) := by
  refine Is.lim (g := fun k => impl_SumCounts.f k l0 l1) ?_
  · unfold impl_SumCounts.f
    repeat' first
    | with_reducible exact impl_AreCounts.f_is _
    | with_reducible exact impl_SumCounts.j0_is _ _ _ _
    | with_reducible exact Is.now _
    | with_reducible refine Is.ite ?_ ?_
    | with_reducible refine Is.bind ?_ (fun _ => ?_)
noncomputable def spec_l1New.l0v (x0 : List Int) (x3 : Int) (x4 : Int) : Option (List Int × Int × Int) := Lim fun k => spec_l1New.l0 k x0 x3 x4
noncomputable def spec_l1New.fv (l0 : List Int) : Option (List Int × Int × Int) := Lim fun k => spec_l1New.f k l0
theorem spec_l1New.l0_is (x0 : List Int) (x3 : Int) (x4 : Int) : Is (fun k => spec_l1New.l0 k x0 x3 x4) (spec_l1New.l0v x0 x3 x4) := ⟨fun k => (spec_l1New.mono_l k) x0 x3 x4, rfl⟩
theorem spec_l1New.f_is (l0 : List Int) : Is (fun k => spec_l1New.f k l0) (spec_l1New.fv l0) := ⟨fun k => spec_l1New.mono l0 k, rfl⟩
theorem spec_l1New.l0v_eq (x0 : List Int) (x3 : Int) (x4 : Int) : spec_l1New.l0v x0 x3 x4 = if x4 < (x0.length : Int) then (if x4 < 4000 then (if 0 ≤ x4 then (spec_l1New.l0v x0 (Go.bits .and .i64 (wrap64 ((wrap64 ((wrap64 (x3 * 137)) + (wrap64 (rd x0 x4)))) + 11)) 1073741823) (wrap64 (x4 + 1))) else (none)) else (some (x0, 0, x3))) else (some (x0, 0, x3)) := by
  refine Is.step (spec_l1New.l0_is x0 x3 x4).mo (fun k => by rw [spec_l1New.l0]) ?_
  · skip
    repeat' first
    | with_reducible exact spec_l1New.l0_is _ _ _
    | with_reducible exact Is.now _
    | with_reducible refine Is.ite ?_ ?_
    | with_reducible refine Is.bind ?_ (fun _ => ?_)
theorem spec_l1New.fv_eq (l0 : List Int) : spec_l1New.fv l0 = spec_l1New.l0v l0 (wrap64 (193017 + (l0.length : Int))) 0 := by
  refine Is.lim (g := fun k => spec_l1New.f k l0) ?_
  · unfold spec_l1New.f
    repeat' first
    | with_reducible exact spec_l1New.l0_is _ _ _
    | with_reducible exact Is.now _
    | with_reducible refine Is.ite ?_ ?_
    | with_reducible refine Is.bind ?_ (fun _ => ?_)
end Go.Proofs.Ytaggmlokldaclaa.Print
