/- Written by a program of this session (limx.py): the equations of what the printed functions come to. No condition. -/
import Derived.Test.YtdoefkloanpliaaBase
import Derived.Test.YtdoefkloanpliaaPrint3
namespace Go.Proofs.Ytdoefkloanpliaa.Print
open Go.RowKit Go.Proofs.YtdoefkloanpliaaW.PrintWords Go.Proofs.YtdoefkloanpliaaW.PrintLast Go.Proofs.Ytdoefkloanpliaa.Base
set_option linter.unusedVariables false
set_option maxRecDepth 20000
noncomputable def impl_AreVersions.l0v (x0 : List Int) (x5 : List Int) (x6 : Int) (x7 : Int) : Option (Bool) := Lim fun k => impl_AreVersions.l0 k x0 x5 x6 x7
noncomputable def impl_AreVersions.fv (l0 : List Int) : Option (Bool) := Lim fun k => impl_AreVersions.f k l0
theorem impl_AreVersions.l0_is (x0 : List Int) (x5 : List Int) (x6 : Int) (x7 : Int) : Is (fun k => impl_AreVersions.l0 k x0 x5 x6 x7) (impl_AreVersions.l0v x0 x5 x6 x7) := ⟨fun k => (impl_AreVersions.mono_l k) x0 x5 x6 x7, rfl⟩
theorem impl_AreVersions.f_is (l0 : List Int) : Is (fun k => impl_AreVersions.f k l0) (impl_AreVersions.fv l0) := ⟨fun k => impl_AreVersions.mono l0 k, rfl⟩
theorem impl_AreVersions.l0v_eq (x0 : List Int) (x5 : List Int) (x6 : Int) (x7 : Int) : impl_AreVersions.l0v x0 x5 x6 x7 = if x7 < x6 then (if 0 ≤ x7 then (if x7 < (x5.length : Int) then ((impl_InRange.f (rd x5 x7) 1 9).bind fun t163 => (if t163 = true then (if x7 > 0 then (if 0 ≤ (wrap64 (x7 - 1)) then (if (wrap64 (x7 - 1)) < (x0.length : Int) then (if (rd x0 (wrap64 (x7 - 1))) ≥ (rd x5 x7) then (some false) else (impl_AreVersions.l0v x0 x5 x6 (wrap64 (x7 + 1)))) else (none)) else (none)) else (impl_AreVersions.l0v x0 x5 x6 (wrap64 (x7 + 1)))) else (some false))) else (none)) else (none)) else (some (decide ((x0.length : Int) > 0))) := by
  refine Is.step (impl_AreVersions.l0_is x0 x5 x6 x7).mo (fun k => by rw [impl_AreVersions.l0]) ?_
  · skip
    repeat' first
    | with_reducible exact impl_AreVersions.l0_is _ _ _ _
    | with_reducible exact Is.now _
    | with_reducible refine Is.ite ?_ ?_
    | with_reducible refine Is.bind ?_ (fun _ => ?_)
theorem impl_AreVersions.fv_eq (l0 : List Int) : impl_AreVersions.fv l0 = impl_AreVersions.l0v l0 l0 (l0.length : Int) 0 := by
  refine Is.lim (g := fun k => impl_AreVersions.f k l0) ?_
  · unfold impl_AreVersions.f
    repeat' first
    | with_reducible exact impl_AreVersions.l0_is _ _ _ _
    | with_reducible exact Is.now _
    | with_reducible refine Is.ite ?_ ?_
    | with_reducible refine Is.bind ?_ (fun _ => ?_)
noncomputable def slices_Index_int_int.l0v (x0 : List Int) (x1 : Int) (x7 : Int) (x8 : Int) : Option (Int) := Lim fun k => slices_Index_int_int.l0 k x0 x1 x7 x8
noncomputable def slices_Index_int_int.fv (l0 : List Int) (a1 : Int) : Option (Int) := Lim fun k => slices_Index_int_int.f k l0 a1
theorem slices_Index_int_int.l0_is (x0 : List Int) (x1 : Int) (x7 : Int) (x8 : Int) : Is (fun k => slices_Index_int_int.l0 k x0 x1 x7 x8) (slices_Index_int_int.l0v x0 x1 x7 x8) := ⟨fun k => (slices_Index_int_int.mono_l k) x0 x1 x7 x8, rfl⟩
theorem slices_Index_int_int.f_is (l0 : List Int) (a1 : Int) : Is (fun k => slices_Index_int_int.f k l0 a1) (slices_Index_int_int.fv l0 a1) := ⟨fun k => slices_Index_int_int.mono l0 a1 k, rfl⟩
theorem slices_Index_int_int.l0v_eq (x0 : List Int) (x1 : Int) (x7 : Int) (x8 : Int) : slices_Index_int_int.l0v x0 x1 x7 x8 = if x8 < x7 then (if 0 ≤ x8 then (if x8 < (x0.length : Int) then (if x1 = (rd x0 x8) then (some x8) else (slices_Index_int_int.l0v x0 x1 x7 (wrap64 (x8 + 1)))) else (none)) else (none)) else (some (-1)) := by
  refine Is.step (slices_Index_int_int.l0_is x0 x1 x7 x8).mo (fun k => by rw [slices_Index_int_int.l0]) ?_
  · skip
    repeat' first
    | with_reducible exact slices_Index_int_int.l0_is _ _ _ _
    | with_reducible exact Is.now _
    | with_reducible refine Is.ite ?_ ?_
    | with_reducible refine Is.bind ?_ (fun _ => ?_)
theorem slices_Index_int_int.fv_eq (l0 : List Int) (a1 : Int) : slices_Index_int_int.fv l0 a1 = slices_Index_int_int.l0v l0 a1 (l0.length : Int) 0 := by
  refine Is.lim (g := fun k => slices_Index_int_int.f k l0 a1) ?_
  · unfold slices_Index_int_int.f
    repeat' first
    | with_reducible exact slices_Index_int_int.l0_is _ _ _ _
    | with_reducible exact Is.now _
    | with_reducible refine Is.ite ?_ ?_
    | with_reducible refine Is.bind ?_ (fun _ => ?_)
noncomputable def slices_Contains_int_int.fv (l0 : List Int) (a1 : Int) : Option (Bool) := Lim fun k => slices_Contains_int_int.f k l0 a1
theorem slices_Contains_int_int.f_is (l0 : List Int) (a1 : Int) : Is (fun k => slices_Contains_int_int.f k l0 a1) (slices_Contains_int_int.fv l0 a1) := ⟨fun k => slices_Contains_int_int.mono l0 a1 k, rfl⟩
theorem slices_Contains_int_int.fv_eq (l0 : List Int) (a1 : Int) : slices_Contains_int_int.fv l0 a1 = (slices_Index_int_int.fv l0 a1).bind fun t166 => (some (decide (t166 ≥ 0))) := by
  refine Is.lim (g := fun k => slices_Contains_int_int.f k l0 a1) ?_
  · unfold slices_Contains_int_int.f
    repeat' first
    | with_reducible exact slices_Index_int_int.f_is _ _
    | with_reducible exact Is.now _
    | with_reducible refine Is.ite ?_ ?_
    | with_reducible refine Is.bind ?_ (fun _ => ?_)
noncomputable def impl_CommonOf.l0v (x1 : List Int) (x5 : List Int) (x9 : List Int) (x10 : Int) (x11 : Int) : Option (List Int) := Lim fun k => impl_CommonOf.l0 k x1 x5 x9 x10 x11
noncomputable def impl_CommonOf.fv (l0 : List Int) (l1 : List Int) : Option (List Int) := Lim fun k => impl_CommonOf.f k l0 l1
theorem impl_CommonOf.l0_is (x1 : List Int) (x5 : List Int) (x9 : List Int) (x10 : Int) (x11 : Int) : Is (fun k => impl_CommonOf.l0 k x1 x5 x9 x10 x11) (impl_CommonOf.l0v x1 x5 x9 x10 x11) := ⟨fun k => (impl_CommonOf.mono_l k) x1 x5 x9 x10 x11, rfl⟩
theorem impl_CommonOf.f_is (l0 : List Int) (l1 : List Int) : Is (fun k => impl_CommonOf.f k l0 l1) (impl_CommonOf.fv l0 l1) := ⟨fun k => impl_CommonOf.mono l0 l1 k, rfl⟩
theorem impl_CommonOf.l0v_eq (x1 : List Int) (x5 : List Int) (x9 : List Int) (x10 : Int) (x11 : Int) : impl_CommonOf.l0v x1 x5 x9 x10 x11 = if x11 < x10 then (if 0 ≤ x11 then (if x11 < (x9.length : Int) then ((slices_Contains_int_int.fv x1 (rd x9 x11)).bind fun t171 => (if t171 = true then (if x5.length < 17592186044416 then (impl_CommonOf.l0v x1 (x5 ++ [rd x9 x11]) x9 x10 (wrap64 (x11 + 1))) else (none)) else (impl_CommonOf.l0v x1 x5 x9 x10 (wrap64 (x11 + 1))))) else (none)) else (none)) else (some x5) := by
  refine Is.step (impl_CommonOf.l0_is x1 x5 x9 x10 x11).mo (fun k => by rw [impl_CommonOf.l0]) ?_
  · skip
    repeat' first
    | with_reducible exact impl_CommonOf.l0_is _ _ _ _ _
    | with_reducible exact slices_Contains_int_int.f_is _ _
    | with_reducible exact Is.now _
    | with_reducible refine Is.ite ?_ ?_
    | with_reducible refine Is.bind ?_ (fun _ => ?_)
theorem impl_CommonOf.fv_eq (l0 : List Int) (l1 : List Int) : impl_CommonOf.fv l0 l1 = impl_CommonOf.l0v l1 (([] : List Int)) l0 (l0.length : Int) 0 := by
  refine Is.lim (g := fun k => impl_CommonOf.f k l0 l1) ?_
  · unfold impl_CommonOf.f
    repeat' first
    | with_reducible exact impl_CommonOf.l0_is _ _ _ _ _
    | with_reducible exact Is.now _
    | with_reducible refine Is.ite ?_ ?_
    | with_reducible refine Is.bind ?_ (fun _ => ?_)
noncomputable def impl_BestCommon.j0v (x0 : List Int) (x1 : List Int) (x15 : Bool) : Option (Int) := Lim fun k => impl_BestCommon.j0 k x0 x1 x15
noncomputable def impl_BestCommon.l0v (x5 : Int) (x18 : List Int) (x19 : Int) (x20 : Int) : Option (Int) := Lim fun k => impl_BestCommon.l0 k x5 x18 x19 x20
noncomputable def impl_BestCommon.fv (l0 : List Int) (l1 : List Int) : Option (Int) := Lim fun k => impl_BestCommon.f k l0 l1
theorem impl_BestCommon.j0_is (x0 : List Int) (x1 : List Int) (x15 : Bool) : Is (fun k => impl_BestCommon.j0 k x0 x1 x15) (impl_BestCommon.j0v x0 x1 x15) := ⟨fun k => (impl_BestCommon.mono_l k).1 x0 x1 x15, rfl⟩
theorem impl_BestCommon.l0_is (x5 : Int) (x18 : List Int) (x19 : Int) (x20 : Int) : Is (fun k => impl_BestCommon.l0 k x5 x18 x19 x20) (impl_BestCommon.l0v x5 x18 x19 x20) := ⟨fun k => (impl_BestCommon.mono_l k).2 x5 x18 x19 x20, rfl⟩
theorem impl_BestCommon.f_is (l0 : List Int) (l1 : List Int) : Is (fun k => impl_BestCommon.f k l0 l1) (impl_BestCommon.fv l0 l1) := ⟨fun k => impl_BestCommon.mono l0 l1 k, rfl⟩
theorem impl_BestCommon.j0v_eq (x0 : List Int) (x1 : List Int) (x15 : Bool) : impl_BestCommon.j0v x0 x1 x15 = if x15 = true then (some 0) else ((impl_CommonOf.fv x0 x1).bind fun t177 => (impl_BestCommon.l0v 0 t177 (t177.length : Int) 0)) := by
  refine Is.step (impl_BestCommon.j0_is x0 x1 x15).mo (fun k => by rw [impl_BestCommon.j0]) ?_
  · skip
    repeat' first
    | with_reducible exact impl_BestCommon.l0_is _ _ _ _
    | with_reducible exact impl_CommonOf.f_is _ _
    | with_reducible exact Is.now _
    | with_reducible refine Is.ite ?_ ?_
    | with_reducible refine Is.bind ?_ (fun _ => ?_)
theorem impl_BestCommon.l0v_eq (x5 : Int) (x18 : List Int) (x19 : Int) (x20 : Int) : impl_BestCommon.l0v x5 x18 x19 x20 = if x20 < x19 then (if 0 ≤ x20 then (if x20 < (x18.length : Int) then (impl_BestCommon.l0v (mx x5 (rd x18 x20)) x18 x19 (wrap64 (x20 + 1))) else (none)) else (none)) else (some x5) := by
  refine Is.step (impl_BestCommon.l0_is x5 x18 x19 x20).mo (fun k => by rw [impl_BestCommon.l0]) ?_
  · skip
    repeat' first
    | with_reducible exact impl_BestCommon.l0_is _ _ _ _
    | with_reducible exact Is.now _
    | with_reducible refine Is.ite ?_ ?_
    | with_reducible refine Is.bind ?_ (fun _ => ?_)
theorem impl_BestCommon.fv_eq (l0 : List Int) (l1 : List Int) : impl_BestCommon.fv l0 l1 = (impl_AreVersions.fv l0).bind fun t175 => (if t175 = true then ((impl_AreVersions.fv l1).bind fun t176 => (impl_BestCommon.j0v l0 l1 (!t176))) else (impl_BestCommon.j0v l0 l1 true)) := by
  refine Is.lim (g := fun k => impl_BestCommon.f k l0 l1) ?_
  · unfold impl_BestCommon.f
    repeat' first
    | with_reducible exact impl_AreVersions.f_is _
    | with_reducible exact impl_BestCommon.j0_is _ _ _
    | with_reducible exact Is.now _
    | with_reducible refine Is.ite ?_ ?_
    | with_reducible refine Is.bind ?_ (fun _ => ?_)
noncomputable def impl_without.l0v (x1 : List Int) (x5 : List Int) (x9 : List Int) (x10 : Int) (x11 : Int) : Option (List Int) := Lim fun k => impl_without.l0 k x1 x5 x9 x10 x11
noncomputable def impl_without.fv (l0 : List Int) (l1 : List Int) : Option (List Int) := Lim fun k => impl_without.f k l0 l1
theorem impl_without.l0_is (x1 : List Int) (x5 : List Int) (x9 : List Int) (x10 : Int) (x11 : Int) : Is (fun k => impl_without.l0 k x1 x5 x9 x10 x11) (impl_without.l0v x1 x5 x9 x10 x11) := ⟨fun k => (impl_without.mono_l k) x1 x5 x9 x10 x11, rfl⟩
theorem impl_without.f_is (l0 : List Int) (l1 : List Int) : Is (fun k => impl_without.f k l0 l1) (impl_without.fv l0 l1) := ⟨fun k => impl_without.mono l0 l1 k, rfl⟩
theorem impl_without.l0v_eq (x1 : List Int) (x5 : List Int) (x9 : List Int) (x10 : Int) (x11 : Int) : impl_without.l0v x1 x5 x9 x10 x11 = if x11 < x10 then (if 0 ≤ x11 then (if x11 < (x9.length : Int) then ((slices_Contains_int_int.fv x1 (rd x9 x11)).bind fun t185 => (if t185 = true then (impl_without.l0v x1 x5 x9 x10 (wrap64 (x11 + 1))) else (if x5.length < 17592186044416 then (impl_without.l0v x1 (x5 ++ [rd x9 x11]) x9 x10 (wrap64 (x11 + 1))) else (none)))) else (none)) else (none)) else (some x5) := by
  refine Is.step (impl_without.l0_is x1 x5 x9 x10 x11).mo (fun k => by rw [impl_without.l0]) ?_
  · skip
    repeat' first
    | with_reducible exact impl_without.l0_is _ _ _ _ _
    | with_reducible exact slices_Contains_int_int.f_is _ _
    | with_reducible exact Is.now _
    | with_reducible refine Is.ite ?_ ?_
    | with_reducible refine Is.bind ?_ (fun _ => ?_)
theorem impl_without.fv_eq (l0 : List Int) (l1 : List Int) : impl_without.fv l0 l1 = impl_without.l0v l1 (([] : List Int)) l0 (l0.length : Int) 0 := by
  refine Is.lim (g := fun k => impl_without.f k l0 l1) ?_
  · unfold impl_without.f
    repeat' first
    | with_reducible exact impl_without.l0_is _ _ _ _ _
    | with_reducible exact Is.now _
    | with_reducible refine Is.ite ?_ ?_
    | with_reducible refine Is.bind ?_ (fun _ => ?_)
end Go.Proofs.Ytdoefkloanpliaa.Print
