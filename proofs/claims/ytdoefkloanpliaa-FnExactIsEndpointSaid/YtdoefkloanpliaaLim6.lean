/- Written by a program of this session (limx.py): the equations of what the printed functions come to. No condition. -/
import Derived.Test.YtdoefkloanpliaaBase
import Derived.Test.YtdoefkloanpliaaPrint6
import Derived.Test.YtdoefkloanpliaaLim5
namespace Go.Proofs.Ytdoefkloanpliaa.Print
open Go.RowKit Go.Proofs.YtdoefkloanpliaaW.PrintWords Go.Proofs.YtdoefkloanpliaaW.PrintLast Go.Proofs.Ytdoefkloanpliaa.Base
set_option linter.unusedVariables false
set_option maxRecDepth 20000
noncomputable def impl_IsBox.fv (a0_0 : Int) (l0_1 : List Int) (l0_2 : List Int) (a0_3 : Bool) : Option (Bool) := Lim fun k => impl_IsBox.f k a0_0 l0_1 l0_2 a0_3
theorem impl_IsBox.f_is (a0_0 : Int) (l0_1 : List Int) (l0_2 : List Int) (a0_3 : Bool) : Is (fun k => impl_IsBox.f k a0_0 l0_1 l0_2 a0_3) (impl_IsBox.fv a0_0 l0_1 l0_2 a0_3) := ⟨fun k => impl_IsBox.mono a0_0 l0_1 l0_2 a0_3 k, rfl⟩
theorem impl_IsBox.fv_eq (a0_0 : Int) (l0_1 : List Int) (l0_2 : List Int) (a0_3 : Bool) : impl_IsBox.fv a0_0 l0_1 l0_2 a0_3 = (impl_InRange.f a0_0 0 9).bind fun t204 => (if t204 = true then (if (l0_1.length : Int) ≤ 6 then (if (l0_2.length : Int) ≤ 6 then ((impl_areNumbers.fv l0_1 0 255).bind fun t205 => (if t205 = true then ((impl_areNumbers.fv l0_2 0 255).bind fun t206 => (some t206)) else (some false))) else (some false)) else (some false)) else (some false)) := by
  refine Is.lim (g := fun k => impl_IsBox.f k a0_0 l0_1 l0_2 a0_3) ?_
  · unfold impl_IsBox.f
    repeat' first
    | with_reducible exact impl_areNumbers.f_is _ _ _
    | with_reducible exact Is.now _
    | with_reducible refine Is.ite ?_ ?_
    | with_reducible refine Is.bind ?_ (fun _ => ?_)
noncomputable def impl_IsEndpoint_1.fv (a0_0 : Int) (l0_1 : List Int) (l0_2 : List Int) (a0_3 : Bool) : Option (Bool) := Lim fun k => impl_IsEndpoint_1.f k a0_0 l0_1 l0_2 a0_3
theorem impl_IsEndpoint_1.f_is (a0_0 : Int) (l0_1 : List Int) (l0_2 : List Int) (a0_3 : Bool) : Is (fun k => impl_IsEndpoint_1.f k a0_0 l0_1 l0_2 a0_3) (impl_IsEndpoint_1.fv a0_0 l0_1 l0_2 a0_3) := ⟨fun k => impl_IsEndpoint_1.mono a0_0 l0_1 l0_2 a0_3 k, rfl⟩
theorem impl_IsEndpoint_1.fv_eq (a0_0 : Int) (l0_1 : List Int) (l0_2 : List Int) (a0_3 : Bool) : impl_IsEndpoint_1.fv a0_0 l0_1 l0_2 a0_3 = (impl_IsBox.fv a0_0 l0_1 l0_2 a0_3).bind fun t208 => (some (!t208)) := by
  refine Is.lim (g := fun k => impl_IsEndpoint_1.f k a0_0 l0_1 l0_2 a0_3) ?_
  · unfold impl_IsEndpoint_1.f
    repeat' first
    | with_reducible exact impl_IsBox.f_is _ _ _ _
    | with_reducible exact Is.now _
    | with_reducible refine Is.ite ?_ ?_
    | with_reducible refine Is.bind ?_ (fun _ => ?_)
noncomputable def slices_IndexFunc_impl_Box_impl_Box_with_impl_IsEndpoint_1.l0v (x0 : List (S67)) (x7 : Int) (x8 : Int) : Option (Int) := Lim fun k => slices_IndexFunc_impl_Box_impl_Box_with_impl_IsEndpoint_1.l0 k x0 x7 x8
noncomputable def slices_IndexFunc_impl_Box_impl_Box_with_impl_IsEndpoint_1.fv (l0 : List (S67)) : Option (Int) := Lim fun k => slices_IndexFunc_impl_Box_impl_Box_with_impl_IsEndpoint_1.f k l0
theorem slices_IndexFunc_impl_Box_impl_Box_with_impl_IsEndpoint_1.l0_is (x0 : List (S67)) (x7 : Int) (x8 : Int) : Is (fun k => slices_IndexFunc_impl_Box_impl_Box_with_impl_IsEndpoint_1.l0 k x0 x7 x8) (slices_IndexFunc_impl_Box_impl_Box_with_impl_IsEndpoint_1.l0v x0 x7 x8) := ⟨fun k => (slices_IndexFunc_impl_Box_impl_Box_with_impl_IsEndpoint_1.mono_l k) x0 x7 x8, rfl⟩
theorem slices_IndexFunc_impl_Box_impl_Box_with_impl_IsEndpoint_1.f_is (l0 : List (S67)) : Is (fun k => slices_IndexFunc_impl_Box_impl_Box_with_impl_IsEndpoint_1.f k l0) (slices_IndexFunc_impl_Box_impl_Box_with_impl_IsEndpoint_1.fv l0) := ⟨fun k => slices_IndexFunc_impl_Box_impl_Box_with_impl_IsEndpoint_1.mono l0 k, rfl⟩
theorem slices_IndexFunc_impl_Box_impl_Box_with_impl_IsEndpoint_1.l0v_eq (x0 : List (S67)) (x7 : Int) (x8 : Int) : slices_IndexFunc_impl_Box_impl_Box_with_impl_IsEndpoint_1.l0v x0 x7 x8 = if x8 < x7 then (if 0 ≤ x8 then (if x8 < (x0.length : Int) then ((impl_IsEndpoint_1.fv ((rd_T67 x0 x8).f0) ((rd_T67 x0 x8).f1) ((rd_T67 x0 x8).f2) ((rd_T67 x0 x8).f3)).bind fun t210 => (if t210 = true then (some x8) else (slices_IndexFunc_impl_Box_impl_Box_with_impl_IsEndpoint_1.l0v x0 x7 (wrap64 (x8 + 1))))) else (none)) else (none)) else (some (-1)) := by
  refine Is.step (slices_IndexFunc_impl_Box_impl_Box_with_impl_IsEndpoint_1.l0_is x0 x7 x8).mo (fun k => by rw [slices_IndexFunc_impl_Box_impl_Box_with_impl_IsEndpoint_1.l0]) ?_
  · skip
    repeat' first
    | with_reducible exact impl_IsEndpoint_1.f_is _ _ _ _
    | with_reducible exact slices_IndexFunc_impl_Box_impl_Box_with_impl_IsEndpoint_1.l0_is _ _ _
    | with_reducible exact Is.now _
    | with_reducible refine Is.ite ?_ ?_
    | with_reducible refine Is.bind ?_ (fun _ => ?_)
theorem slices_IndexFunc_impl_Box_impl_Box_with_impl_IsEndpoint_1.fv_eq (l0 : List (S67)) : slices_IndexFunc_impl_Box_impl_Box_with_impl_IsEndpoint_1.fv l0 = slices_IndexFunc_impl_Box_impl_Box_with_impl_IsEndpoint_1.l0v l0 (l0.length : Int) 0 := by
  refine Is.lim (g := fun k => slices_IndexFunc_impl_Box_impl_Box_with_impl_IsEndpoint_1.f k l0) ?_
  · unfold slices_IndexFunc_impl_Box_impl_Box_with_impl_IsEndpoint_1.f
    repeat' first
    | with_reducible exact slices_IndexFunc_impl_Box_impl_Box_with_impl_IsEndpoint_1.l0_is _ _ _
    | with_reducible exact Is.now _
    | with_reducible refine Is.ite ?_ ?_
    | with_reducible refine Is.bind ?_ (fun _ => ?_)
noncomputable def slices_ContainsFunc_impl_Box_impl_Box_with_impl_IsEndpoint_1.fv (l0 : List (S67)) : Option (Bool) := Lim fun k => slices_ContainsFunc_impl_Box_impl_Box_with_impl_IsEndpoint_1.f k l0
theorem slices_ContainsFunc_impl_Box_impl_Box_with_impl_IsEndpoint_1.f_is (l0 : List (S67)) : Is (fun k => slices_ContainsFunc_impl_Box_impl_Box_with_impl_IsEndpoint_1.f k l0) (slices_ContainsFunc_impl_Box_impl_Box_with_impl_IsEndpoint_1.fv l0) := ⟨fun k => slices_ContainsFunc_impl_Box_impl_Box_with_impl_IsEndpoint_1.mono l0 k, rfl⟩
theorem slices_ContainsFunc_impl_Box_impl_Box_with_impl_IsEndpoint_1.fv_eq (l0 : List (S67)) : slices_ContainsFunc_impl_Box_impl_Box_with_impl_IsEndpoint_1.fv l0 = (slices_IndexFunc_impl_Box_impl_Box_with_impl_IsEndpoint_1.fv l0).bind fun t211 => (some (decide (t211 ≥ 0))) := by
  refine Is.lim (g := fun k => slices_ContainsFunc_impl_Box_impl_Box_with_impl_IsEndpoint_1.f k l0) ?_
  · unfold slices_ContainsFunc_impl_Box_impl_Box_with_impl_IsEndpoint_1.f
    repeat' first
    | with_reducible exact slices_IndexFunc_impl_Box_impl_Box_with_impl_IsEndpoint_1.f_is _
    | with_reducible exact Is.now _
    | with_reducible refine Is.ite ?_ ?_
    | with_reducible refine Is.bind ?_ (fun _ => ?_)
noncomputable def impl_IsEndpoint.fv (l0_0 : List Int) (l0_1 : List Int) (l0_2 : List (S67)) (a0_3 : Int) : Option (Bool) := Lim fun k => impl_IsEndpoint.f k l0_0 l0_1 l0_2 a0_3
theorem impl_IsEndpoint.f_is (l0_0 : List Int) (l0_1 : List Int) (l0_2 : List (S67)) (a0_3 : Int) : Is (fun k => impl_IsEndpoint.f k l0_0 l0_1 l0_2 a0_3) (impl_IsEndpoint.fv l0_0 l0_1 l0_2 a0_3) := ⟨fun k => impl_IsEndpoint.mono l0_0 l0_1 l0_2 a0_3 k, rfl⟩
theorem impl_IsEndpoint.fv_eq (l0_0 : List Int) (l0_1 : List Int) (l0_2 : List (S67)) (a0_3 : Int) : impl_IsEndpoint.fv l0_0 l0_1 l0_2 a0_3 = (impl_AreVersions.fv l0_0).bind fun t213 => (if t213 = true then (if (l0_1.length : Int) ≤ 5 then ((impl_areTags.fv l0_1).bind fun t214 => (if t214 = true then ((impl_IsHardened.fv l0_1).bind fun t215 => (if t215 = true then (some false) else (if (l0_2.length : Int) ≤ 4 then ((slices_ContainsFunc_impl_Box_impl_Box_with_impl_IsEndpoint_1.fv l0_2).bind fun t216 => (if t216 = true then (some false) else ((impl_InRange.f a0_3 0 5).bind fun t217 => (some t217)))) else (some false)))) else (some false))) else (some false)) else (some false)) := by
  refine Is.lim (g := fun k => impl_IsEndpoint.f k l0_0 l0_1 l0_2 a0_3) ?_
  · unfold impl_IsEndpoint.f
    repeat' first
    | with_reducible exact impl_AreVersions.f_is _
    | with_reducible exact impl_IsHardened.f_is _
    | with_reducible exact impl_areTags.f_is _
    | with_reducible exact slices_ContainsFunc_impl_Box_impl_Box_with_impl_IsEndpoint_1.f_is _
    | with_reducible exact Is.now _
    | with_reducible refine Is.ite ?_ ?_
    | with_reducible refine Is.bind ?_ (fun _ => ?_)
noncomputable def spec_l9Has.l0v (x0 : List Int) (x1 : Int) (x5 : Int) : Option (Bool) := Lim fun k => spec_l9Has.l0 k x0 x1 x5
noncomputable def spec_l9Has.fv (l0 : List Int) (a1 : Int) : Option (Bool) := Lim fun k => spec_l9Has.f k l0 a1
theorem spec_l9Has.l0_is (x0 : List Int) (x1 : Int) (x5 : Int) : Is (fun k => spec_l9Has.l0 k x0 x1 x5) (spec_l9Has.l0v x0 x1 x5) := ⟨fun k => (spec_l9Has.mono_l k) x0 x1 x5, rfl⟩
theorem spec_l9Has.f_is (l0 : List Int) (a1 : Int) : Is (fun k => spec_l9Has.f k l0 a1) (spec_l9Has.fv l0 a1) := ⟨fun k => spec_l9Has.mono l0 a1 k, rfl⟩
theorem spec_l9Has.l0v_eq (x0 : List Int) (x1 : Int) (x5 : Int) : spec_l9Has.l0v x0 x1 x5 = if x5 < (x0.length : Int) then (if 0 ≤ x5 then (if (rd x0 x5) = x1 then (some true) else (spec_l9Has.l0v x0 x1 (wrap64 (x5 + 1)))) else (none)) else (some false) := by
  refine Is.step (spec_l9Has.l0_is x0 x1 x5).mo (fun k => by rw [spec_l9Has.l0]) ?_
  · skip
    repeat' first
    | with_reducible exact spec_l9Has.l0_is _ _ _
    | with_reducible exact Is.now _
    | with_reducible refine Is.ite ?_ ?_
    | with_reducible refine Is.bind ?_ (fun _ => ?_)
theorem spec_l9Has.fv_eq (l0 : List Int) (a1 : Int) : spec_l9Has.fv l0 a1 = spec_l9Has.l0v l0 a1 0 := by
  refine Is.lim (g := fun k => spec_l9Has.f k l0 a1) ?_
  · unfold spec_l9Has.f
    repeat' first
    | with_reducible exact spec_l9Has.l0_is _ _ _
    | with_reducible exact Is.now _
    | with_reducible refine Is.ite ?_ ?_
    | with_reducible refine Is.bind ?_ (fun _ => ?_)
noncomputable def spec_ExtOf.l0v (x0 : List (S114)) (x1 : Int) (x5 : Int) : Option (Int) := Lim fun k => spec_ExtOf.l0 k x0 x1 x5
noncomputable def spec_ExtOf.fv (l0 : List (S114)) (a1 : Int) : Option (Int) := Lim fun k => spec_ExtOf.f k l0 a1
theorem spec_ExtOf.l0_is (x0 : List (S114)) (x1 : Int) (x5 : Int) : Is (fun k => spec_ExtOf.l0 k x0 x1 x5) (spec_ExtOf.l0v x0 x1 x5) := ⟨fun k => (spec_ExtOf.mono_l k) x0 x1 x5, rfl⟩
theorem spec_ExtOf.f_is (l0 : List (S114)) (a1 : Int) : Is (fun k => spec_ExtOf.f k l0 a1) (spec_ExtOf.fv l0 a1) := ⟨fun k => spec_ExtOf.mono l0 a1 k, rfl⟩
theorem spec_ExtOf.l0v_eq (x0 : List (S114)) (x1 : Int) (x5 : Int) : spec_ExtOf.l0v x0 x1 x5 = if x5 < (x0.length : Int) then (if 0 ≤ x5 then (if ((rd_T114 x0 x5).f0) = x1 then (some x5) else (spec_ExtOf.l0v x0 x1 (wrap64 (x5 + 1)))) else (none)) else (some (-1)) := by
  refine Is.step (spec_ExtOf.l0_is x0 x1 x5).mo (fun k => by rw [spec_ExtOf.l0]) ?_
  · skip
    repeat' first
    | with_reducible exact spec_ExtOf.l0_is _ _ _
    | with_reducible exact Is.now _
    | with_reducible refine Is.ite ?_ ?_
    | with_reducible refine Is.bind ?_ (fun _ => ?_)
theorem spec_ExtOf.fv_eq (l0 : List (S114)) (a1 : Int) : spec_ExtOf.fv l0 a1 = spec_ExtOf.l0v l0 a1 0 := by
  refine Is.lim (g := fun k => spec_ExtOf.f k l0 a1) ?_
  · unfold spec_ExtOf.f
    repeat' first
    | with_reducible exact spec_ExtOf.l0_is _ _ _
    | with_reducible exact Is.now _
    | with_reducible refine Is.ite ?_ ?_
    | with_reducible refine Is.bind ?_ (fun _ => ?_)
end Go.Proofs.Ytdoefkloanpliaa.Print
