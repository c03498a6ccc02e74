/- Written by a program of this session (limx.py): the equations of what the printed functions come to. No condition. -/
import Derived.Test.YtdoefkloanpliaaBase
import Derived.Test.YtdoefkloanpliaaPrint4
import Derived.Test.YtdoefkloanpliaaLim1
import Derived.Test.YtdoefkloanpliaaLim2
import Derived.Test.YtdoefkloanpliaaLim3
namespace Go.Proofs.Ytdoefkloanpliaa.Print
open Go.RowKit Go.Proofs.YtdoefkloanpliaaW.PrintWords Go.Proofs.YtdoefkloanpliaaW.PrintLast Go.Proofs.Ytdoefkloanpliaa.Base
set_option linter.unusedVariables false
set_option maxRecDepth 20000
noncomputable def spec_AllReach.l0v (x0 : List Int) (x1 : List (List Int)) (x5 : Int) : Option (Bool) := Lim fun k => spec_AllReach.l0 k x0 x1 x5
noncomputable def spec_AllReach.fv (l0 : List Int) (l1 : List (List Int)) : Option (Bool) := Lim fun k => spec_AllReach.f k l0 l1
theorem spec_AllReach.l0_is (x0 : List Int) (x1 : List (List Int)) (x5 : Int) : Is (fun k => spec_AllReach.l0 k x0 x1 x5) (spec_AllReach.l0v x0 x1 x5) := ⟨fun k => (spec_AllReach.mono_l k) x0 x1 x5, rfl⟩
theorem spec_AllReach.f_is (l0 : List Int) (l1 : List (List Int)) : Is (fun k => spec_AllReach.f k l0 l1) (spec_AllReach.fv l0 l1) := ⟨fun k => spec_AllReach.mono l0 l1 k, rfl⟩
theorem spec_AllReach.l0v_eq (x0 : List Int) (x1 : List (List Int)) (x5 : Int) : spec_AllReach.l0v x0 x1 x5 = if x5 < (x1.length : Int) then (if 0 ≤ x5 then ((spec_BestCommon.fv x0 (rd_L1 x1 x5)).bind fun t188 => (if t188 = 0 then (some false) else (spec_AllReach.l0v x0 x1 (wrap64 (x5 + 1))))) else (none)) else ((spec_AreVersions.fv x0).bind fun t189 => (some t189)) := by
  refine Is.step (spec_AllReach.l0_is x0 x1 x5).mo (fun k => by rw [spec_AllReach.l0]) ?_
  · skip
    repeat' first
    | with_reducible exact spec_AllReach.l0_is _ _ _
    | with_reducible exact spec_AreVersions.f_is _
    | with_reducible exact spec_BestCommon.f_is _ _
    | with_reducible exact Is.now _
    | with_reducible refine Is.ite ?_ ?_
    | with_reducible refine Is.bind ?_ (fun _ => ?_)
theorem spec_AllReach.fv_eq (l0 : List Int) (l1 : List (List Int)) : spec_AllReach.fv l0 l1 = spec_AllReach.l0v l0 l1 0 := by
  refine Is.lim (g := fun k => spec_AllReach.f k l0 l1) ?_
  · unfold spec_AllReach.f
    repeat' first
    | with_reducible exact spec_AllReach.l0_is _ _ _
    | with_reducible exact Is.now _
    | with_reducible refine Is.ite ?_ ?_
    | with_reducible refine Is.bind ?_ (fun _ => ?_)
noncomputable def impl_AllReach_1.fv (l0 : List Int) (l1_0 : List Int) : Option (Bool) := Lim fun k => impl_AllReach_1.f k l0 l1_0
theorem impl_AllReach_1.f_is (l0 : List Int) (l1_0 : List Int) : Is (fun k => impl_AllReach_1.f k l0 l1_0) (impl_AllReach_1.fv l0 l1_0) := ⟨fun k => impl_AllReach_1.mono l0 l1_0 k, rfl⟩
theorem impl_AllReach_1.fv_eq (l0 : List Int) (l1_0 : List Int) : impl_AllReach_1.fv l0 l1_0 = (impl_BestCommon.fv l1_0 l0).bind fun t190 => (some (t190 == 0)) := by
  refine Is.lim (g := fun k => impl_AllReach_1.f k l0 l1_0) ?_
  · unfold impl_AllReach_1.f
    repeat' first
    | with_reducible exact impl_BestCommon.f_is _ _
    | with_reducible exact Is.now _
    | with_reducible refine Is.ite ?_ ?_
    | with_reducible refine Is.bind ?_ (fun _ => ?_)
noncomputable def slices_IndexFunc_int_int_with_impl_AllReach_1.l0v (x0 : List (List Int)) (x7 : Int) (x8 : Int) (x2000 : List Int) : Option (Int) := Lim fun k => slices_IndexFunc_int_int_with_impl_AllReach_1.l0 k x0 x7 x8 x2000
noncomputable def slices_IndexFunc_int_int_with_impl_AllReach_1.fv (l0 : List (List Int)) (l1_0 : List Int) : Option (Int) := Lim fun k => slices_IndexFunc_int_int_with_impl_AllReach_1.f k l0 l1_0
theorem slices_IndexFunc_int_int_with_impl_AllReach_1.l0_is (x0 : List (List Int)) (x7 : Int) (x8 : Int) (x2000 : List Int) : Is (fun k => slices_IndexFunc_int_int_with_impl_AllReach_1.l0 k x0 x7 x8 x2000) (slices_IndexFunc_int_int_with_impl_AllReach_1.l0v x0 x7 x8 x2000) := ⟨fun k => (slices_IndexFunc_int_int_with_impl_AllReach_1.mono_l k) x0 x7 x8 x2000, rfl⟩
theorem slices_IndexFunc_int_int_with_impl_AllReach_1.f_is (l0 : List (List Int)) (l1_0 : List Int) : Is (fun k => slices_IndexFunc_int_int_with_impl_AllReach_1.f k l0 l1_0) (slices_IndexFunc_int_int_with_impl_AllReach_1.fv l0 l1_0) := ⟨fun k => slices_IndexFunc_int_int_with_impl_AllReach_1.mono l0 l1_0 k, rfl⟩
theorem slices_IndexFunc_int_int_with_impl_AllReach_1.l0v_eq (x0 : List (List Int)) (x7 : Int) (x8 : Int) (x2000 : List Int) : slices_IndexFunc_int_int_with_impl_AllReach_1.l0v x0 x7 x8 x2000 = if x8 < x7 then (if 0 ≤ x8 then (if x8 < (x0.length : Int) then ((impl_AllReach_1.fv (rd_L1 x0 x8) x2000).bind fun t192 => (if t192 = true then (some x8) else (slices_IndexFunc_int_int_with_impl_AllReach_1.l0v x0 x7 (wrap64 (x8 + 1)) x2000))) else (none)) else (none)) else (some (-1)) := by
  refine Is.step (slices_IndexFunc_int_int_with_impl_AllReach_1.l0_is x0 x7 x8 x2000).mo (fun k => by rw [slices_IndexFunc_int_int_with_impl_AllReach_1.l0]) ?_
  · skip
    repeat' first
    | with_reducible exact impl_AllReach_1.f_is _ _
    | with_reducible exact slices_IndexFunc_int_int_with_impl_AllReach_1.l0_is _ _ _ _
    | with_reducible exact Is.now _
    | with_reducible refine Is.ite ?_ ?_
    | with_reducible refine Is.bind ?_ (fun _ => ?_)
theorem slices_IndexFunc_int_int_with_impl_AllReach_1.fv_eq (l0 : List (List Int)) (l1_0 : List Int) : slices_IndexFunc_int_int_with_impl_AllReach_1.fv l0 l1_0 = slices_IndexFunc_int_int_with_impl_AllReach_1.l0v l0 (l0.length : Int) 0 l1_0 := by
  refine Is.lim (g := fun k => slices_IndexFunc_int_int_with_impl_AllReach_1.f k l0 l1_0) ?_
  · unfold slices_IndexFunc_int_int_with_impl_AllReach_1.f
    repeat' first
    | with_reducible exact slices_IndexFunc_int_int_with_impl_AllReach_1.l0_is _ _ _ _
    | with_reducible exact Is.now _
    | with_reducible refine Is.ite ?_ ?_
    | with_reducible refine Is.bind ?_ (fun _ => ?_)
noncomputable def slices_ContainsFunc_int_int_with_impl_AllReach_1.fv (l0 : List (List Int)) (l1_0 : List Int) : Option (Bool) := Lim fun k => slices_ContainsFunc_int_int_with_impl_AllReach_1.f k l0 l1_0
theorem slices_ContainsFunc_int_int_with_impl_AllReach_1.f_is (l0 : List (List Int)) (l1_0 : List Int) : Is (fun k => slices_ContainsFunc_int_int_with_impl_AllReach_1.f k l0 l1_0) (slices_ContainsFunc_int_int_with_impl_AllReach_1.fv l0 l1_0) := ⟨fun k => slices_ContainsFunc_int_int_with_impl_AllReach_1.mono l0 l1_0 k, rfl⟩
theorem slices_ContainsFunc_int_int_with_impl_AllReach_1.fv_eq (l0 : List (List Int)) (l1_0 : List Int) : slices_ContainsFunc_int_int_with_impl_AllReach_1.fv l0 l1_0 = (slices_IndexFunc_int_int_with_impl_AllReach_1.fv l0 l1_0).bind fun t193 => (some (decide (t193 ≥ 0))) := by
  refine Is.lim (g := fun k => slices_ContainsFunc_int_int_with_impl_AllReach_1.f k l0 l1_0) ?_
  · unfold slices_ContainsFunc_int_int_with_impl_AllReach_1.f
    repeat' first
    | with_reducible exact slices_IndexFunc_int_int_with_impl_AllReach_1.f_is _ _
    | with_reducible exact Is.now _
    | with_reducible refine Is.ite ?_ ?_
    | with_reducible refine Is.bind ?_ (fun _ => ?_)
noncomputable def impl_AllReach.fv (l0 : List Int) (l1 : List (List Int)) : Option (Bool) := Lim fun k => impl_AllReach.f k l0 l1
theorem impl_AllReach.f_is (l0 : List Int) (l1 : List (List Int)) : Is (fun k => impl_AllReach.f k l0 l1) (impl_AllReach.fv l0 l1) := ⟨fun k => impl_AllReach.mono l0 l1 k, rfl⟩
theorem impl_AllReach.fv_eq (l0 : List Int) (l1 : List (List Int)) : impl_AllReach.fv l0 l1 = (impl_AreVersions.fv l0).bind fun t195 => (if t195 = true then ((slices_ContainsFunc_int_int_with_impl_AllReach_1.fv l1 l0).bind fun t196 => (some (!t196))) else (some false)) := by
  refine Is.lim (g := fun k => impl_AllReach.f k l0 l1) ?_
  · unfold impl_AllReach.f
    repeat' first
    | with_reducible exact impl_AreVersions.f_is _
    | with_reducible exact slices_ContainsFunc_int_int_with_impl_AllReach_1.f_is _ _
    | with_reducible exact Is.now _
    | with_reducible refine Is.ite ?_ ?_
    | with_reducible refine Is.bind ?_ (fun _ => ?_)
noncomputable def spec_l12Without.l0v (x0 : List Int) (x1 : Int) (x5 : List Int) (x6 : Int) : Option (List Int) := Lim fun k => spec_l12Without.l0 k x0 x1 x5 x6
noncomputable def spec_l12Without.fv (l0 : List Int) (a1 : Int) : Option (List Int) := Lim fun k => spec_l12Without.f k l0 a1
theorem spec_l12Without.l0_is (x0 : List Int) (x1 : Int) (x5 : List Int) (x6 : Int) : Is (fun k => spec_l12Without.l0 k x0 x1 x5 x6) (spec_l12Without.l0v x0 x1 x5 x6) := ⟨fun k => (spec_l12Without.mono_l k) x0 x1 x5 x6, rfl⟩
theorem spec_l12Without.f_is (l0 : List Int) (a1 : Int) : Is (fun k => spec_l12Without.f k l0 a1) (spec_l12Without.fv l0 a1) := ⟨fun k => spec_l12Without.mono l0 a1 k, rfl⟩
theorem spec_l12Without.l0v_eq (x0 : List Int) (x1 : Int) (x5 : List Int) (x6 : Int) : spec_l12Without.l0v x0 x1 x5 x6 = if x6 < (x0.length : Int) then (if 0 ≤ x6 then (if (rd x0 x6) = x1 then (spec_l12Without.l0v x0 x1 x5 (wrap64 (x6 + 1))) else (if x5.length < 17592186044416 then (spec_l12Without.l0v x0 x1 (x5 ++ [rd x0 x6]) (wrap64 (x6 + 1))) else (none))) else (none)) else (some x5) := by
  refine Is.step (spec_l12Without.l0_is x0 x1 x5 x6).mo (fun k => by rw [spec_l12Without.l0]) ?_
  · skip
    repeat' first
    | with_reducible exact spec_l12Without.l0_is _ _ _ _
    | with_reducible exact Is.now _
    | with_reducible refine Is.ite ?_ ?_
    | with_reducible refine Is.bind ?_ (fun _ => ?_)
theorem spec_l12Without.fv_eq (l0 : List Int) (a1 : Int) : spec_l12Without.fv l0 a1 = spec_l12Without.l0v l0 a1 (([] : List Int)) 0 := by
  refine Is.lim (g := fun k => spec_l12Without.f k l0 a1) ?_
  · unfold spec_l12Without.f
    repeat' first
    | with_reducible exact spec_l12Without.l0_is _ _ _ _
    | with_reducible exact Is.now _
    | with_reducible refine Is.ite ?_ ?_
    | with_reducible refine Is.bind ?_ (fun _ => ?_)
noncomputable def spec_Stranded.l0v (x0 : List Int) (x1 : List (List Int)) (x7 : List Int) (x8 : List Int) (x9 : Int) : Option (List Int) := Lim fun k => spec_Stranded.l0 k x0 x1 x7 x8 x9
noncomputable def spec_Stranded.fv (l0 : List Int) (l1 : List (List Int)) (a2 : Int) : Option (List Int) := Lim fun k => spec_Stranded.f k l0 l1 a2
theorem spec_Stranded.l0_is (x0 : List Int) (x1 : List (List Int)) (x7 : List Int) (x8 : List Int) (x9 : Int) : Is (fun k => spec_Stranded.l0 k x0 x1 x7 x8 x9) (spec_Stranded.l0v x0 x1 x7 x8 x9) := ⟨fun k => (spec_Stranded.mono_l k) x0 x1 x7 x8 x9, rfl⟩
theorem spec_Stranded.f_is (l0 : List Int) (l1 : List (List Int)) (a2 : Int) : Is (fun k => spec_Stranded.f k l0 l1 a2) (spec_Stranded.fv l0 l1 a2) := ⟨fun k => spec_Stranded.mono l0 l1 a2 k, rfl⟩
theorem spec_Stranded.l0v_eq (x0 : List Int) (x1 : List (List Int)) (x7 : List Int) (x8 : List Int) (x9 : Int) : spec_Stranded.l0v x0 x1 x7 x8 x9 = if x9 < (x1.length : Int) then (if 0 ≤ x9 then ((spec_BestCommon.fv x0 (rd_L1 x1 x9)).bind fun t235 => (if t235 > 0 then ((spec_BestCommon.fv x8 (rd_L1 x1 x9)).bind fun t237 => (if t237 = 0 then (if x7.length < 17592186044416 then (spec_Stranded.l0v x0 x1 (x7 ++ [x9]) x8 (wrap64 (x9 + 1))) else (none)) else (spec_Stranded.l0v x0 x1 x7 x8 (wrap64 (x9 + 1))))) else (spec_Stranded.l0v x0 x1 x7 x8 (wrap64 (x9 + 1))))) else (none)) else (some x7) := by
  refine Is.step (spec_Stranded.l0_is x0 x1 x7 x8 x9).mo (fun k => by rw [spec_Stranded.l0]) ?_
  · skip
    repeat' first
    | with_reducible exact spec_BestCommon.f_is _ _
    | with_reducible exact spec_Stranded.l0_is _ _ _ _ _
    | with_reducible exact Is.now _
    | with_reducible refine Is.ite ?_ ?_
    | with_reducible refine Is.bind ?_ (fun _ => ?_)
theorem spec_Stranded.fv_eq (l0 : List Int) (l1 : List (List Int)) (a2 : Int) : spec_Stranded.fv l0 l1 a2 = (spec_l12Without.fv l0 a2).bind fun t231 => (spec_Stranded.l0v l0 l1 (([] : List Int)) t231 0) := by
  refine Is.lim (g := fun k => spec_Stranded.f k l0 l1 a2) ?_
  · unfold spec_Stranded.f
    repeat' first
    | with_reducible exact spec_Stranded.l0_is _ _ _ _ _
    | with_reducible exact spec_l12Without.f_is _ _
    | with_reducible exact Is.now _
    | with_reducible refine Is.ite ?_ ?_
    | with_reducible refine Is.bind ?_ (fun _ => ?_)
end Go.Proofs.Ytdoefkloanpliaa.Print
