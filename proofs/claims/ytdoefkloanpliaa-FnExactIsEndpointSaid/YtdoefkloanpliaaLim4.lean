/- Written by a program of this session (limx.py): the equations of what the printed functions come to. No condition. -/
import Derived.Test.YtdoefkloanpliaaBase
import Derived.Test.YtdoefkloanpliaaPrint4
import Derived.Test.YtdoefkloanpliaaLim3
namespace Go.Proofs.Ytdoefkloanpliaa.Print
open Go.RowKit Go.Proofs.YtdoefkloanpliaaW.PrintWords Go.Proofs.YtdoefkloanpliaaW.PrintLast Go.Proofs.Ytdoefkloanpliaa.Base
set_option linter.unusedVariables false
set_option maxRecDepth 20000
noncomputable def spec_IsEndpoint.l0v (x3 : Int) (x175000 : List Int) (x175001 : List Int) (x175002 : List (S67)) (x175003 : Int) : Option (Bool) := Lim fun k => spec_IsEndpoint.l0 k x3 x175000 x175001 x175002 x175003
noncomputable def spec_IsEndpoint.l1v (x4 : Int) (x175000 : List Int) (x175001 : List Int) (x175002 : List (S67)) (x175003 : Int) : Option (Bool) := Lim fun k => spec_IsEndpoint.l1 k x4 x175000 x175001 x175002 x175003
noncomputable def spec_IsEndpoint.fv (l0_0 : List Int) (l0_1 : List Int) (l0_2 : List (S67)) (a0_3 : Int) : Option (Bool) := Lim fun k => spec_IsEndpoint.f k l0_0 l0_1 l0_2 a0_3
theorem spec_IsEndpoint.l0_is (x3 : Int) (x175000 : List Int) (x175001 : List Int) (x175002 : List (S67)) (x175003 : Int) : Is (fun k => spec_IsEndpoint.l0 k x3 x175000 x175001 x175002 x175003) (spec_IsEndpoint.l0v x3 x175000 x175001 x175002 x175003) := ⟨fun k => (spec_IsEndpoint.mono_l k).1 x3 x175000 x175001 x175002 x175003, rfl⟩
theorem spec_IsEndpoint.l1_is (x4 : Int) (x175000 : List Int) (x175001 : List Int) (x175002 : List (S67)) (x175003 : Int) : Is (fun k => spec_IsEndpoint.l1 k x4 x175000 x175001 x175002 x175003) (spec_IsEndpoint.l1v x4 x175000 x175001 x175002 x175003) := ⟨fun k => (spec_IsEndpoint.mono_l k).2 x4 x175000 x175001 x175002 x175003, rfl⟩
theorem spec_IsEndpoint.f_is (l0_0 : List Int) (l0_1 : List Int) (l0_2 : List (S67)) (a0_3 : Int) : Is (fun k => spec_IsEndpoint.f k l0_0 l0_1 l0_2 a0_3) (spec_IsEndpoint.fv l0_0 l0_1 l0_2 a0_3) := ⟨fun k => spec_IsEndpoint.mono l0_0 l0_1 l0_2 a0_3 k, rfl⟩
theorem spec_IsEndpoint.l0v_eq (x3 : Int) (x175000 : List Int) (x175001 : List Int) (x175002 : List (S67)) (x175003 : Int) : spec_IsEndpoint.l0v x3 x175000 x175001 x175002 x175003 = if x3 < (x175001.length : Int) then (if 0 ≤ x3 then ((spec_l1In.f (rd x175001 x3) 0 255).bind fun t176 => (if t176 = true then ((spec_IsReserved.f (rd x175001 x3)).bind fun t178 => (if t178 = true then (some false) else (if x3 > 0 then (if 0 ≤ (wrap64 (x3 - 1)) then (if (wrap64 (x3 - 1)) < (x175001.length : Int) then (if (rd x175001 (wrap64 (x3 - 1))) ≥ (rd x175001 x3) then (some false) else (spec_IsEndpoint.l0v (wrap64 (x3 + 1)) x175000 x175001 x175002 x175003)) else (none)) else (none)) else (spec_IsEndpoint.l0v (wrap64 (x3 + 1)) x175000 x175001 x175002 x175003)))) else (some false))) else (none)) else (spec_IsEndpoint.l1v 0 x175000 x175001 x175002 x175003) := by
  refine Is.step (spec_IsEndpoint.l0_is x3 x175000 x175001 x175002 x175003).mo (fun k => by rw [spec_IsEndpoint.l0]) ?_
  · skip
    repeat' first
    | with_reducible exact spec_IsEndpoint.l0_is _ _ _ _ _
    | with_reducible exact spec_IsEndpoint.l1_is _ _ _ _ _
    | with_reducible exact Is.now _
    | with_reducible refine Is.ite ?_ ?_
    | with_reducible refine Is.bind ?_ (fun _ => ?_)
theorem spec_IsEndpoint.l1v_eq (x4 : Int) (x175000 : List Int) (x175001 : List Int) (x175002 : List (S67)) (x175003 : Int) : spec_IsEndpoint.l1v x4 x175000 x175001 x175002 x175003 = if x4 < (x175002.length : Int) then (if 0 ≤ x4 then ((spec_IsBox.fv ((rd_T67 x175002 x4).f0) ((rd_T67 x175002 x4).f1) ((rd_T67 x175002 x4).f2) ((rd_T67 x175002 x4).f3)).bind fun t182 => (if t182 = true then (spec_IsEndpoint.l1v (wrap64 (x4 + 1)) x175000 x175001 x175002 x175003) else (some false))) else (none)) else ((spec_AreVersions.fv x175000).bind fun t183 => (if t183 = true then (if (x175001.length : Int) ≤ 5 then (if (x175002.length : Int) ≤ 4 then ((spec_l1In.f x175003 0 5).bind fun t184 => (some t184)) else (some false)) else (some false)) else (some false))) := by
  refine Is.step (spec_IsEndpoint.l1_is x4 x175000 x175001 x175002 x175003).mo (fun k => by rw [spec_IsEndpoint.l1]) ?_
  · skip
    repeat' first
    | with_reducible exact spec_AreVersions.f_is _
    | with_reducible exact spec_IsBox.f_is _ _ _ _
    | with_reducible exact spec_IsEndpoint.l1_is _ _ _ _ _
    | with_reducible exact Is.now _
    | with_reducible refine Is.ite ?_ ?_
    | with_reducible refine Is.bind ?_ (fun _ => ?_)
theorem spec_IsEndpoint.fv_eq (l0_0 : List Int) (l0_1 : List Int) (l0_2 : List (S67)) (a0_3 : Int) : spec_IsEndpoint.fv l0_0 l0_1 l0_2 a0_3 = spec_IsEndpoint.l0v 0 l0_0 l0_1 l0_2 a0_3 := by
  refine Is.lim (g := fun k => spec_IsEndpoint.f k l0_0 l0_1 l0_2 a0_3) ?_
  · unfold spec_IsEndpoint.f
    repeat' first
    | with_reducible exact spec_IsEndpoint.l0_is _ _ _ _ _
    | with_reducible exact Is.now _
    | with_reducible refine Is.ite ?_ ?_
    | with_reducible refine Is.bind ?_ (fun _ => ?_)
end Go.Proofs.Ytdoefkloanpliaa.Print
