/- Written by a program of this session (limx.py): the equations of what the printed functions come to. No condition. -/
import Derived.Test.YtdoefkloanpliaaBase
import Derived.Test.YtdoefkloanpliaaPrint2
import Derived.Test.YtdoefkloanpliaaLim1
namespace Go.Proofs.Ytdoefkloanpliaa.Print
open Go.RowKit Go.Proofs.YtdoefkloanpliaaW.PrintWords Go.Proofs.YtdoefkloanpliaaW.PrintLast Go.Proofs.Ytdoefkloanpliaa.Base
set_option linter.unusedVariables false
set_option maxRecDepth 20000
noncomputable def spec_UseOf.l0v (x0 : List Int) (x1 : List (List Int)) (x2 : Int) (x7 : Int) (x8 : Int) : Option (Int) := Lim fun k => spec_UseOf.l0 k x0 x1 x2 x7 x8
noncomputable def spec_UseOf.j1v (x0 : List Int) (x1 : List (List Int)) (x2 : Int) (x7 : Int) (x8 : Int) (x16 : Bool) : Option (Int) := Lim fun k => spec_UseOf.j1 k x0 x1 x2 x7 x8 x16
noncomputable def spec_UseOf.fv (l0 : List Int) (l1 : List (List Int)) (a2 : Int) : Option (Int) := Lim fun k => spec_UseOf.f k l0 l1 a2
theorem spec_UseOf.l0_is (x0 : List Int) (x1 : List (List Int)) (x2 : Int) (x7 : Int) (x8 : Int) : Is (fun k => spec_UseOf.l0 k x0 x1 x2 x7 x8) (spec_UseOf.l0v x0 x1 x2 x7 x8) := ⟨fun k => (spec_UseOf.mono_l k).1 x0 x1 x2 x7 x8, rfl⟩
theorem spec_UseOf.j1_is (x0 : List Int) (x1 : List (List Int)) (x2 : Int) (x7 : Int) (x8 : Int) (x16 : Bool) : Is (fun k => spec_UseOf.j1 k x0 x1 x2 x7 x8 x16) (spec_UseOf.j1v x0 x1 x2 x7 x8 x16) := ⟨fun k => (spec_UseOf.mono_l k).2 x0 x1 x2 x7 x8 x16, rfl⟩
theorem spec_UseOf.f_is (l0 : List Int) (l1 : List (List Int)) (a2 : Int) : Is (fun k => spec_UseOf.f k l0 l1 a2) (spec_UseOf.fv l0 l1 a2) := ⟨fun k => spec_UseOf.mono l0 l1 a2 k, rfl⟩
theorem spec_UseOf.l0v_eq (x0 : List Int) (x1 : List (List Int)) (x2 : Int) (x7 : Int) (x8 : Int) : spec_UseOf.l0v x0 x1 x2 x7 x8 = if x8 < (x1.length : Int) then (spec_UseOf.j1v x0 x1 x2 x7 x8 (decide (x2 ≥ 1))) else (spec_UseOf.j1v x0 x1 x2 x7 x8 false) := by
  refine Is.step (spec_UseOf.l0_is x0 x1 x2 x7 x8).mo (fun k => by rw [spec_UseOf.l0]) ?_
  · skip
    repeat' first
    | with_reducible exact spec_UseOf.j1_is _ _ _ _ _ _
    | with_reducible exact Is.now _
    | with_reducible refine Is.ite ?_ ?_
    | with_reducible refine Is.bind ?_ (fun _ => ?_)
theorem spec_UseOf.j1v_eq (x0 : List Int) (x1 : List (List Int)) (x2 : Int) (x7 : Int) (x8 : Int) (x16 : Bool) : spec_UseOf.j1v x0 x1 x2 x7 x8 x16 = if x16 = true then (if 0 ≤ x8 then (if x8 < (x1.length : Int) then ((spec_BestCommon.fv x0 (rd_L1 x1 x8)).bind fun t124 => (if t124 = x2 then (spec_UseOf.l0v x0 x1 x2 (wrap64 (x7 + 1)) (wrap64 (x8 + 1))) else (spec_UseOf.l0v x0 x1 x2 x7 (wrap64 (x8 + 1))))) else (none)) else (none)) else (some x7) := by
  refine Is.step (spec_UseOf.j1_is x0 x1 x2 x7 x8 x16).mo (fun k => by rw [spec_UseOf.j1]) ?_
  · skip
    repeat' first
    | with_reducible exact spec_BestCommon.f_is _ _
    | with_reducible exact spec_UseOf.l0_is _ _ _ _ _
    | with_reducible exact Is.now _
    | with_reducible refine Is.ite ?_ ?_
    | with_reducible refine Is.bind ?_ (fun _ => ?_)
theorem spec_UseOf.fv_eq (l0 : List Int) (l1 : List (List Int)) (a2 : Int) : spec_UseOf.fv l0 l1 a2 = spec_UseOf.l0v l0 l1 a2 0 0 := by
  refine Is.lim (g := fun k => spec_UseOf.f k l0 l1 a2) ?_
  · unfold spec_UseOf.f
    repeat' first
    | with_reducible exact spec_UseOf.l0_is _ _ _ _ _
    | with_reducible exact Is.now _
    | with_reducible refine Is.ite ?_ ?_
    | with_reducible refine Is.bind ?_ (fun _ => ?_)
noncomputable def laws_toIntS.l0v (x0 : List Int) (x3 : List Int) (x4 : Int) : Option (List Int) := Lim fun k => laws_toIntS.l0 k x0 x3 x4
noncomputable def laws_toIntS.fv (l0 : List Int) : Option (List Int) := Lim fun k => laws_toIntS.f k l0
theorem laws_toIntS.l0_is (x0 : List Int) (x3 : List Int) (x4 : Int) : Is (fun k => laws_toIntS.l0 k x0 x3 x4) (laws_toIntS.l0v x0 x3 x4) := ⟨fun k => (laws_toIntS.mono_l k) x0 x3 x4, rfl⟩
theorem laws_toIntS.f_is (l0 : List Int) : Is (fun k => laws_toIntS.f k l0) (laws_toIntS.fv l0) := ⟨fun k => laws_toIntS.mono l0 k, rfl⟩
theorem laws_toIntS.l0v_eq (x0 : List Int) (x3 : List Int) (x4 : Int) : laws_toIntS.l0v x0 x3 x4 = if x4 < (x0.length : Int) then (if 0 ≤ x4 then (if x4 < (x3.length : Int) then (laws_toIntS.l0v x0 (x3.set (x4 : Int).toNat (rd x0 x4)) (wrap64 (x4 + 1))) else (none)) else (none)) else (some x3) := by
  refine Is.step (laws_toIntS.l0_is x0 x3 x4).mo (fun k => by rw [laws_toIntS.l0]) ?_
  · skip
    repeat' first
    | with_reducible exact laws_toIntS.l0_is _ _ _
    | with_reducible exact Is.now _
    | with_reducible refine Is.ite ?_ ?_
    | with_reducible refine Is.bind ?_ (fun _ => ?_)
theorem laws_toIntS.fv_eq (l0 : List Int) : laws_toIntS.fv l0 = if 0 ≤ (l0.length : Int) then (if ((l0.length : Int) : Int).toNat ≤ 35184372088832 then (laws_toIntS.l0v l0 (List.replicate ((l0.length : Int) : Int).toNat 0) 0) else (none)) else (none) := by
  refine Is.lim (g := fun k => laws_toIntS.f k l0) ?_
  · unfold laws_toIntS.f
    repeat' first
    | with_reducible exact laws_toIntS.l0_is _ _ _
    | with_reducible exact Is.now _
    | with_reducible refine Is.ite ?_ ?_
    | with_reducible refine Is.bind ?_ (fun _ => ?_)
noncomputable def laws_toIntSS.l0v (x0 : List (List Int)) (x3 : List (List Int)) (x4 : Int) : Option ((List (List Int))) := Lim fun k => laws_toIntSS.l0 k x0 x3 x4
noncomputable def laws_toIntSS.fv (l0 : List (List Int)) : Option ((List (List Int))) := Lim fun k => laws_toIntSS.f k l0
theorem laws_toIntSS.l0_is (x0 : List (List Int)) (x3 : List (List Int)) (x4 : Int) : Is (fun k => laws_toIntSS.l0 k x0 x3 x4) (laws_toIntSS.l0v x0 x3 x4) := ⟨fun k => (laws_toIntSS.mono_l k) x0 x3 x4, rfl⟩
theorem laws_toIntSS.f_is (l0 : List (List Int)) : Is (fun k => laws_toIntSS.f k l0) (laws_toIntSS.fv l0) := ⟨fun k => laws_toIntSS.mono l0 k, rfl⟩
theorem laws_toIntSS.l0v_eq (x0 : List (List Int)) (x3 : List (List Int)) (x4 : Int) : laws_toIntSS.l0v x0 x3 x4 = if x4 < (x0.length : Int) then (if 0 ≤ x4 then ((laws_toIntS.fv (rd_L1 x0 x4)).bind fun t134 => (if x4 < (x3.length : Int) then (laws_toIntSS.l0v x0 (x3.set (x4 : Int).toNat t134) (wrap64 (x4 + 1))) else (none))) else (none)) else (some x3) := by
  refine Is.step (laws_toIntSS.l0_is x0 x3 x4).mo (fun k => by rw [laws_toIntSS.l0]) ?_
  · skip
    repeat' first
    | with_reducible exact laws_toIntS.f_is _
    | with_reducible exact laws_toIntSS.l0_is _ _ _
    | with_reducible exact Is.now _
    | with_reducible refine Is.ite ?_ ?_
    | with_reducible refine Is.bind ?_ (fun _ => ?_)
theorem laws_toIntSS.fv_eq (l0 : List (List Int)) : laws_toIntSS.fv l0 = if 0 ≤ (l0.length : Int) then (if ((l0.length : Int) : Int).toNat ≤ 11728124029610 then (laws_toIntSS.l0v l0 (List.replicate ((l0.length : Int) : Int).toNat []) 0) else (none)) else (none) := by
  refine Is.lim (g := fun k => laws_toIntSS.f k l0) ?_
  · unfold laws_toIntSS.f
    repeat' first
    | with_reducible exact laws_toIntSS.l0_is _ _ _
    | with_reducible exact Is.now _
    | with_reducible refine Is.ite ?_ ?_
    | with_reducible refine Is.bind ?_ (fun _ => ?_)
noncomputable def impl_AreVersions.l0v (x0 : List Int) (x5 : List Int) (x6 : Int) (x7 : Int) : Option (Bool) := Lim fun k => impl_AreVersions.l0 k x0 x5 x6 x7
noncomputable def impl_AreVersions.fv (l0 : List Int) : Option (Bool) := Lim fun k => impl_AreVersions.f k l0
theorem impl_AreVersions.l0_is (x0 : List Int) (x5 : List Int) (x6 : Int) (x7 : Int) : Is (fun k => impl_AreVersions.l0 k x0 x5 x6 x7) (impl_AreVersions.l0v x0 x5 x6 x7) := ⟨fun k => (impl_AreVersions.mono_l k) x0 x5 x6 x7, rfl⟩
theorem impl_AreVersions.f_is (l0 : List Int) : Is (fun k => impl_AreVersions.f k l0) (impl_AreVersions.fv l0) := ⟨fun k => impl_AreVersions.mono l0 k, rfl⟩
theorem impl_AreVersions.l0v_eq (x0 : List Int) (x5 : List Int) (x6 : Int) (x7 : Int) : impl_AreVersions.l0v x0 x5 x6 x7 = if x7 < x6 then (if 0 ≤ x7 then (if x7 < (x5.length : Int) then ((impl_InRange.f (rd x5 x7) 1 9).bind fun t139 => (if t139 = true then (if x7 > 0 then (if 0 ≤ (wrap64 (x7 - 1)) then (if (wrap64 (x7 - 1)) < (x0.length : Int) then (if (rd x0 (wrap64 (x7 - 1))) ≥ (rd x5 x7) then (some false) else (impl_AreVersions.l0v x0 x5 x6 (wrap64 (x7 + 1)))) else (none)) else (none)) else (impl_AreVersions.l0v x0 x5 x6 (wrap64 (x7 + 1)))) else (some false))) else (none)) else (none)) else (some (decide ((x0.length : Int) > 0))) := by
  refine Is.step (impl_AreVersions.l0_is x0 x5 x6 x7).mo (fun k => by rw [impl_AreVersions.l0]) ?_
  · skip
    repeat' first
    | with_reducible exact impl_AreVersions.l0_is _ _ _ _
    | with_reducible exact Is.now _
    | with_reducible refine Is.ite ?_ ?_
    | with_reducible refine Is.bind ?_ (fun _ => ?_)
theorem impl_AreVersions.fv_eq (l0 : List Int) : impl_AreVersions.fv l0 = impl_AreVersions.l0v l0 l0 (l0.length : Int) 0 := by
  refine Is.lim (g := fun k => impl_AreVersions.f k l0) ?_
  · unfold impl_AreVersions.f
    repeat' first
    | with_reducible exact impl_AreVersions.l0_is _ _ _ _
    | with_reducible exact Is.now _
    | with_reducible refine Is.ite ?_ ?_
    | with_reducible refine Is.bind ?_ (fun _ => ?_)
noncomputable def slices_Index_int_int.l0v (x0 : List Int) (x1 : Int) (x7 : Int) (x8 : Int) : Option (Int) := Lim fun k => slices_Index_int_int.l0 k x0 x1 x7 x8
noncomputable def slices_Index_int_int.fv (l0 : List Int) (a1 : Int) : Option (Int) := Lim fun k => slices_Index_int_int.f k l0 a1
theorem slices_Index_int_int.l0_is (x0 : List Int) (x1 : Int) (x7 : Int) (x8 : Int) : Is (fun k => slices_Index_int_int.l0 k x0 x1 x7 x8) (slices_Index_int_int.l0v x0 x1 x7 x8) := ⟨fun k => (slices_Index_int_int.mono_l k) x0 x1 x7 x8, rfl⟩
theorem slices_Index_int_int.f_is (l0 : List Int) (a1 : Int) : Is (fun k => slices_Index_int_int.f k l0 a1) (slices_Index_int_int.fv l0 a1) := ⟨fun k => slices_Index_int_int.mono l0 a1 k, rfl⟩
theorem slices_Index_int_int.l0v_eq (x0 : List Int) (x1 : Int) (x7 : Int) (x8 : Int) : slices_Index_int_int.l0v x0 x1 x7 x8 = if x8 < x7 then (if 0 ≤ x8 then (if x8 < (x0.length : Int) then (if x1 = (rd x0 x8) then (some x8) else (slices_Index_int_int.l0v x0 x1 x7 (wrap64 (x8 + 1)))) else (none)) else (none)) else (some (-1)) := by
  refine Is.step (slices_Index_int_int.l0_is x0 x1 x7 x8).mo (fun k => by rw [slices_Index_int_int.l0]) ?_
  · skip
    repeat' first
    | with_reducible exact slices_Index_int_int.l0_is _ _ _ _
    | with_reducible exact Is.now _
    | with_reducible refine Is.ite ?_ ?_
    | with_reducible refine Is.bind ?_ (fun _ => ?_)
theorem slices_Index_int_int.fv_eq (l0 : List Int) (a1 : Int) : slices_Index_int_int.fv l0 a1 = slices_Index_int_int.l0v l0 a1 (l0.length : Int) 0 := by
  refine Is.lim (g := fun k => slices_Index_int_int.f k l0 a1) ?_
  · unfold slices_Index_int_int.f
    repeat' first
    | with_reducible exact slices_Index_int_int.l0_is _ _ _ _
    | with_reducible exact Is.now _
    | with_reducible refine Is.ite ?_ ?_
    | with_reducible refine Is.bind ?_ (fun _ => ?_)
noncomputable def slices_Contains_int_int.fv (l0 : List Int) (a1 : Int) : Option (Bool) := Lim fun k => slices_Contains_int_int.f k l0 a1
theorem slices_Contains_int_int.f_is (l0 : List Int) (a1 : Int) : Is (fun k => slices_Contains_int_int.f k l0 a1) (slices_Contains_int_int.fv l0 a1) := ⟨fun k => slices_Contains_int_int.mono l0 a1 k, rfl⟩
theorem slices_Contains_int_int.fv_eq (l0 : List Int) (a1 : Int) : slices_Contains_int_int.fv l0 a1 = (slices_Index_int_int.fv l0 a1).bind fun t142 => (some (decide (t142 ≥ 0))) := by
  refine Is.lim (g := fun k => slices_Contains_int_int.f k l0 a1) ?_
  · unfold slices_Contains_int_int.f
    repeat' first
    | with_reducible exact slices_Index_int_int.f_is _ _
    | with_reducible exact Is.now _
    | with_reducible refine Is.ite ?_ ?_
    | with_reducible refine Is.bind ?_ (fun _ => ?_)
end Go.Proofs.Ytdoefkloanpliaa.Print
