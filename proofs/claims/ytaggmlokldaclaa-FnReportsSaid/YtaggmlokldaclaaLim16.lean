/- Written by a program of this session (limx.py): the equations of what the printed functions come to. No condition. -/
import Derived.Test.YtaggmlokldaclaaBase
import Derived.Test.YtaggmlokldaclaaPrint16
import Derived.Test.YtaggmlokldaclaaLim1
import Derived.Test.YtaggmlokldaclaaLim3
import Derived.Test.YtaggmlokldaclaaLim5
import Derived.Test.YtaggmlokldaclaaLim6
import Derived.Test.YtaggmlokldaclaaLim7
namespace Go.Proofs.Ytaggmlokldaclaa.Print
open Go.RowKit Go.Proofs.YtaggmlokldaclaaW.PrintWords Go.Proofs.YtaggmlokldaclaaW.PrintLast Go.Proofs.Ytaggmlokldaclaa.Base
set_option linter.unusedVariables false
set_option maxRecDepth 20000
noncomputable def laws_FnReports.l0v (x0 : List Int) (x3 : List Int) (x4 : Int) (x5 : List Int) (x6 : Int) : Option (Bool) := Lim fun k => laws_FnReports.l0 k x0 x3 x4 x5 x6
noncomputable def laws_FnReports.j1v (x0 : List Int) (x89 : Bool) : Option (Bool) := Lim fun k => laws_FnReports.j1 k x0 x89
noncomputable def laws_FnReports.j2v (x0 : List Int) (x113 : Bool) : Option (Bool) := Lim fun k => laws_FnReports.j2 k x0 x113
noncomputable def laws_FnReports.fv (l0 : List Int) : Option (Bool) := Lim fun k => laws_FnReports.f k l0
theorem laws_FnReports.l0_is (x0 : List Int) (x3 : List Int) (x4 : Int) (x5 : List Int) (x6 : Int) : Is (fun k => laws_FnReports.l0 k x0 x3 x4 x5 x6) (laws_FnReports.l0v x0 x3 x4 x5 x6) := ⟨fun k => (laws_FnReports.mono_l k).1 x0 x3 x4 x5 x6, rfl⟩
theorem laws_FnReports.j1_is (x0 : List Int) (x89 : Bool) : Is (fun k => laws_FnReports.j1 k x0 x89) (laws_FnReports.j1v x0 x89) := ⟨fun k => (laws_FnReports.mono_l k).2.1 x0 x89, rfl⟩
theorem laws_FnReports.j2_is (x0 : List Int) (x113 : Bool) : Is (fun k => laws_FnReports.j2 k x0 x113) (laws_FnReports.j2v x0 x113) := ⟨fun k => (laws_FnReports.mono_l k).2.2 x0 x113, rfl⟩
theorem laws_FnReports.f_is (l0 : List Int) : Is (fun k => laws_FnReports.f k l0) (laws_FnReports.fv l0) := ⟨fun k => laws_FnReports.mono l0 k, rfl⟩
theorem laws_FnReports.l0v_eq (x0 : List Int) (x3 : List Int) (x4 : Int) (x5 : List Int) (x6 : Int) : laws_FnReports.l0v x0 x3 x4 x5 x6 = if x6 < (x5.length : Int) then (if 0 ≤ x6 then (if (rd x5 x6) = 0 then (if x6 < (x3.length : Int) then (if (rd x3 x6) ≥ x4 then (if (rd x3 x6) = 0 then (laws_FnReports.l0v x0 x3 x4 x5 (wrap64 (x6 + 1))) else (some false)) else (laws_FnReports.l0v x0 x3 x4 x5 (wrap64 (x6 + 1)))) else (none)) else (if (rd x5 x6) < x4 then (some false) else (if x6 < (x3.length : Int) then (if (rd x5 x6) = (rd x3 x6) then (laws_FnReports.l0v x0 x3 x4 x5 (wrap64 (x6 + 1))) else (some false)) else (none)))) else (none)) else (if (x5.length : Int) > 0 then ((laws_sumOf.fv x5).bind fun t514 => ((impl_HiddenIn.fv x3 x4).bind fun t515 => ((laws_sumOf.fv x3).bind fun t516 => (laws_FnReports.j1v x0 ((wrap64 (t514 + t515)) != t516))))) else (laws_FnReports.j1v x0 false)) := by
  refine Is.step (laws_FnReports.l0_is x0 x3 x4 x5 x6).mo (fun k => by rw [laws_FnReports.l0]) ?_
  · skip
    repeat' first
    | with_reducible exact impl_HiddenIn.f_is _ _
    | with_reducible exact laws_FnReports.j1_is _ _
    | with_reducible exact laws_FnReports.l0_is _ _ _ _ _
    | with_reducible exact laws_sumOf.f_is _
    | with_reducible exact Is.now _
    | with_reducible refine Is.ite ?_ ?_
    | with_reducible refine Is.bind ?_ (fun _ => ?_)
theorem laws_FnReports.j1v_eq (x0 : List Int) (x89 : Bool) : laws_FnReports.j1v x0 x89 = if x89 = true then (some false) else ((spec_DrawSumCounts.fv x0).bind fun bt517 => ((impl_SumCounts.fv bt517.1 bt517.2).bind fun t523 => ((impl_SumCounts.fv bt517.2 bt517.1).bind fun t526 => ((impl_EqualInts.fv t523 t526).bind fun t529 => (if t529 = true then (if (t523.length : Int) > 0 then ((impl_AreCounts.fv t523).bind fun t530 => (laws_FnReports.j2v x0 (!t530))) else (laws_FnReports.j2v x0 false)) else (laws_FnReports.j2v x0 true)))))) := by
  refine Is.step (laws_FnReports.j1_is x0 x89).mo (fun k => by rw [laws_FnReports.j1]) ?_
  · skip
    repeat' first
    | with_reducible exact impl_AreCounts.f_is _
    | with_reducible exact impl_EqualInts.f_is _ _
    | with_reducible exact impl_SumCounts.f_is _ _
    | with_reducible exact laws_FnReports.j2_is _ _
    | with_reducible exact spec_DrawSumCounts.f_is _
    | with_reducible exact Is.now _
    | with_reducible refine Is.ite ?_ ?_
    | with_reducible refine Is.bind ?_ (fun _ => ?_)
theorem laws_FnReports.j2v_eq (x0 : List Int) (x113 : Bool) : laws_FnReports.j2v x0 x113 = if x113 = true then (some false) else ((spec_DrawShareOf.fv x0).bind fun bt531 => ((impl_ShareOf.fv bt531.1 bt531.2).bind fun bt535 => (if bt535.1 ≤ bt535.2 then (if bt535.2 = 0 then (some true) else ((laws_sumOf.fv bt531.1).bind fun t537 => (some (bt535.2 == t537)))) else (some false)))) := by
  refine Is.step (laws_FnReports.j2_is x0 x113).mo (fun k => by rw [laws_FnReports.j2]) ?_
  · skip
    repeat' first
    | with_reducible exact impl_ShareOf.f_is _ _
    | with_reducible exact laws_sumOf.f_is _
    | with_reducible exact spec_DrawShareOf.f_is _
    | with_reducible exact Is.now _
    | with_reducible refine Is.ite ?_ ?_
    | with_reducible refine Is.bind ?_ (fun _ => ?_)
theorem laws_FnReports.fv_eq (l0 : List Int) : laws_FnReports.fv l0 = (laws_big.f l0).bind fun t498 => (if t498 = true then (some true) else ((spec_DrawHideSmall.fv l0).bind fun bt499 => ((impl_HideSmall.fv bt499.1 bt499.2).bind fun t503 => (laws_FnReports.l0v l0 bt499.1 bt499.2 t503 0)))) := by
  refine Is.lim (g := fun k => laws_FnReports.f k l0) ?_
  · unfold laws_FnReports.f
    repeat' first
    | with_reducible exact impl_HideSmall.f_is _ _
    | with_reducible exact laws_FnReports.l0_is _ _ _ _ _
    | with_reducible exact spec_DrawHideSmall.f_is _
    | with_reducible exact Is.now _
    | with_reducible refine Is.ite ?_ ?_
    | with_reducible refine Is.bind ?_ (fun _ => ?_)
end Go.Proofs.Ytaggmlokldaclaa.Print
