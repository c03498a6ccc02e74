/- Written by a program of this session (limx.py): the equations of what the printed functions come to. No condition. -/
import Derived.Test.YtaggmlokldaclaaBase
import Derived.Test.YtaggmlokldaclaaPrint1
namespace Go.Proofs.Ytaggmlokldaclaa.Print
open Go.RowKit Go.Proofs.YtaggmlokldaclaaW.PrintWords Go.Proofs.YtaggmlokldaclaaW.PrintLast Go.Proofs.Ytaggmlokldaclaa.Base
set_option linter.unusedVariables false
set_option maxRecDepth 20000
noncomputable def spec_AreCounts.l0v (x0 : List Int) (x3 : Int) : Option (Bool) := Lim fun k => spec_AreCounts.l0 k x0 x3
noncomputable def spec_AreCounts.fv (l0 : List Int) : Option (Bool) := Lim fun k => spec_AreCounts.f k l0
theorem spec_AreCounts.l0_is (x0 : List Int) (x3 : Int) : Is (fun k => spec_AreCounts.l0 k x0 x3) (spec_AreCounts.l0v x0 x3) := ⟨fun k => (spec_AreCounts.mono_l k) x0 x3, rfl⟩
theorem spec_AreCounts.f_is (l0 : List Int) : Is (fun k => spec_AreCounts.f k l0) (spec_AreCounts.fv l0) := ⟨fun k => spec_AreCounts.mono l0 k, rfl⟩
theorem spec_AreCounts.l0v_eq (x0 : List Int) (x3 : Int) : spec_AreCounts.l0v x0 x3 = if x3 < (x0.length : Int) then (if 0 ≤ x3 then ((spec_l1In.f (rd x0 x3) 0 10000).bind fun t115 => (if t115 = true then (spec_AreCounts.l0v x0 (wrap64 (x3 + 1))) else (some false))) else (none)) else (some (decide ((x0.length : Int) ≤ 10))) := by
  refine Is.step (spec_AreCounts.l0_is x0 x3).mo (fun k => by rw [spec_AreCounts.l0]) ?_
  · skip
    repeat' first
    | with_reducible exact spec_AreCounts.l0_is _ _
    | with_reducible exact Is.now _
    | with_reducible refine Is.ite ?_ ?_
    | with_reducible refine Is.bind ?_ (fun _ => ?_)
theorem spec_AreCounts.fv_eq (l0 : List Int) : spec_AreCounts.fv l0 = spec_AreCounts.l0v l0 0 := by
  refine Is.lim (g := fun k => spec_AreCounts.f k l0) ?_
  · unfold spec_AreCounts.f
    repeat' first
    | with_reducible exact spec_AreCounts.l0_is _ _
    | with_reducible exact Is.now _
    | with_reducible refine Is.ite ?_ ?_
    | with_reducible refine Is.bind ?_ (fun _ => ?_)
noncomputable def laws_toIntS.l0v (x0 : List Int) (x3 : List Int) (x4 : Int) : Option (List Int) := Lim fun k => laws_toIntS.l0 k x0 x3 x4
noncomputable def laws_toIntS.fv (l0 : List Int) : Option (List Int) := Lim fun k => laws_toIntS.f k l0
theorem laws_toIntS.l0_is (x0 : List Int) (x3 : List Int) (x4 : Int) : Is (fun k => laws_toIntS.l0 k x0 x3 x4) (laws_toIntS.l0v x0 x3 x4) := ⟨fun k => (laws_toIntS.mono_l k) x0 x3 x4, rfl⟩
theorem laws_toIntS.f_is (l0 : List Int) : Is (fun k => laws_toIntS.f k l0) (laws_toIntS.fv l0) := ⟨fun k => laws_toIntS.mono l0 k, rfl⟩
theorem laws_toIntS.l0v_eq (x0 : List Int) (x3 : List Int) (x4 : Int) : laws_toIntS.l0v x0 x3 x4 = if x4 < (x0.length : Int) then (if 0 ≤ x4 then (if x4 < (x3.length : Int) then (laws_toIntS.l0v x0 (x3.set (x4 : Int).toNat (rd x0 x4)) (wrap64 (x4 + 1))) else (none)) else (none)) else (some x3) := by
  refine Is.step (laws_toIntS.l0_is x0 x3 x4).mo (fun k => by rw [laws_toIntS.l0]) ?_
  · skip
    repeat' first
    | with_reducible exact laws_toIntS.l0_is _ _ _
    | with_reducible exact Is.now _
    | with_reducible refine Is.ite ?_ ?_
    | with_reducible refine Is.bind ?_ (fun _ => ?_)
theorem laws_toIntS.fv_eq (l0 : List Int) : laws_toIntS.fv l0 = if 0 ≤ (l0.length : Int) then (if ((l0.length : Int) : Int).toNat ≤ 35184372088832 then (laws_toIntS.l0v l0 (List.replicate ((l0.length : Int) : Int).toNat 0) 0) else (none)) else (none) := by
  refine Is.lim (g := fun k => laws_toIntS.f k l0) ?_
  · unfold laws_toIntS.f
    repeat' first
    | with_reducible exact laws_toIntS.l0_is _ _ _
    | with_reducible exact Is.now _
    | with_reducible refine Is.ite ?_ ?_
    | with_reducible refine Is.bind ?_ (fun _ => ?_)
noncomputable def slices_IndexFunc_int_int_with_impl_areNumbers_1.l0v (x0 : List Int) (x7 : Int) (x8 : Int) (x2000 : Int) (x3000 : Int) : Option (Int) := Lim fun k => slices_IndexFunc_int_int_with_impl_areNumbers_1.l0 k x0 x7 x8 x2000 x3000
noncomputable def slices_IndexFunc_int_int_with_impl_areNumbers_1.fv (l0 : List Int) (a1_0 : Int) (a2_0 : Int) : Option (Int) := Lim fun k => slices_IndexFunc_int_int_with_impl_areNumbers_1.f k l0 a1_0 a2_0
theorem slices_IndexFunc_int_int_with_impl_areNumbers_1.l0_is (x0 : List Int) (x7 : Int) (x8 : Int) (x2000 : Int) (x3000 : Int) : Is (fun k => slices_IndexFunc_int_int_with_impl_areNumbers_1.l0 k x0 x7 x8 x2000 x3000) (slices_IndexFunc_int_int_with_impl_areNumbers_1.l0v x0 x7 x8 x2000 x3000) := ⟨fun k => (slices_IndexFunc_int_int_with_impl_areNumbers_1.mono_l k) x0 x7 x8 x2000 x3000, rfl⟩
theorem slices_IndexFunc_int_int_with_impl_areNumbers_1.f_is (l0 : List Int) (a1_0 : Int) (a2_0 : Int) : Is (fun k => slices_IndexFunc_int_int_with_impl_areNumbers_1.f k l0 a1_0 a2_0) (slices_IndexFunc_int_int_with_impl_areNumbers_1.fv l0 a1_0 a2_0) := ⟨fun k => slices_IndexFunc_int_int_with_impl_areNumbers_1.mono l0 a1_0 a2_0 k, rfl⟩
theorem slices_IndexFunc_int_int_with_impl_areNumbers_1.l0v_eq (x0 : List Int) (x7 : Int) (x8 : Int) (x2000 : Int) (x3000 : Int) : slices_IndexFunc_int_int_with_impl_areNumbers_1.l0v x0 x7 x8 x2000 x3000 = if x8 < x7 then (if 0 ≤ x8 then (if x8 < (x0.length : Int) then ((impl_areNumbers_1.f (rd x0 x8) x2000 x3000).bind fun t123 => (if t123 = true then (some x8) else (slices_IndexFunc_int_int_with_impl_areNumbers_1.l0v x0 x7 (wrap64 (x8 + 1)) x2000 x3000))) else (none)) else (none)) else (some (-1)) := by
  refine Is.step (slices_IndexFunc_int_int_with_impl_areNumbers_1.l0_is x0 x7 x8 x2000 x3000).mo (fun k => by rw [slices_IndexFunc_int_int_with_impl_areNumbers_1.l0]) ?_
  · skip
    repeat' first
    | with_reducible exact slices_IndexFunc_int_int_with_impl_areNumbers_1.l0_is _ _ _ _ _
    | with_reducible exact Is.now _
    | with_reducible refine Is.ite ?_ ?_
    | with_reducible refine Is.bind ?_ (fun _ => ?_)
theorem slices_IndexFunc_int_int_with_impl_areNumbers_1.fv_eq (l0 : List Int) (a1_0 : Int) (a2_0 : Int) : slices_IndexFunc_int_int_with_impl_areNumbers_1.fv l0 a1_0 a2_0 = slices_IndexFunc_int_int_with_impl_areNumbers_1.l0v l0 (l0.length : Int) 0 a1_0 a2_0 := by
  refine Is.lim (g := fun k => slices_IndexFunc_int_int_with_impl_areNumbers_1.f k l0 a1_0 a2_0) ?_
  · unfold slices_IndexFunc_int_int_with_impl_areNumbers_1.f
    repeat' first
    | with_reducible exact slices_IndexFunc_int_int_with_impl_areNumbers_1.l0_is _ _ _ _ _
    | with_reducible exact Is.now _
    | with_reducible refine Is.ite ?_ ?_
    | with_reducible refine Is.bind ?_ (fun _ => ?_)
noncomputable def slices_ContainsFunc_int_int_with_impl_areNumbers_1.fv (l0 : List Int) (a1_0 : Int) (a2_0 : Int) : Option (Bool) := Lim fun k => slices_ContainsFunc_int_int_with_impl_areNumbers_1.f k l0 a1_0 a2_0
theorem slices_ContainsFunc_int_int_with_impl_areNumbers_1.f_is (l0 : List Int) (a1_0 : Int) (a2_0 : Int) : Is (fun k => slices_ContainsFunc_int_int_with_impl_areNumbers_1.f k l0 a1_0 a2_0) (slices_ContainsFunc_int_int_with_impl_areNumbers_1.fv l0 a1_0 a2_0) := ⟨fun k => slices_ContainsFunc_int_int_with_impl_areNumbers_1.mono l0 a1_0 a2_0 k, rfl⟩
theorem slices_ContainsFunc_int_int_with_impl_areNumbers_1.fv_eq (l0 : List Int) (a1_0 : Int) (a2_0 : Int) : slices_ContainsFunc_int_int_with_impl_areNumbers_1.fv l0 a1_0 a2_0 = (slices_IndexFunc_int_int_with_impl_areNumbers_1.fv l0 a1_0 a2_0).bind fun t124 => (some (decide (t124 ≥ 0))) := by
  refine Is.lim (g := fun k => slices_ContainsFunc_int_int_with_impl_areNumbers_1.f k l0 a1_0 a2_0) ?_
  · unfold slices_ContainsFunc_int_int_with_impl_areNumbers_1.f
    repeat' first
    | with_reducible exact slices_IndexFunc_int_int_with_impl_areNumbers_1.f_is _ _ _
    | with_reducible exact Is.now _
    | with_reducible refine Is.ite ?_ ?_
    | with_reducible refine Is.bind ?_ (fun _ => ?_)
noncomputable def impl_areNumbers.fv (l0 : List Int) (a1 : Int) (a2 : Int) : Option (Bool) := Lim fun k => impl_areNumbers.f k l0 a1 a2
theorem impl_areNumbers.f_is (l0 : List Int) (a1 : Int) (a2 : Int) : Is (fun k => impl_areNumbers.f k l0 a1 a2) (impl_areNumbers.fv l0 a1 a2) := ⟨fun k => impl_areNumbers.mono l0 a1 a2 k, rfl⟩
theorem impl_areNumbers.fv_eq (l0 : List Int) (a1 : Int) (a2 : Int) : impl_areNumbers.fv l0 a1 a2 = (slices_ContainsFunc_int_int_with_impl_areNumbers_1.fv l0 a1 a2).bind fun t127 => (some (!t127)) := by
  refine Is.lim (g := fun k => impl_areNumbers.f k l0 a1 a2) ?_
  · unfold impl_areNumbers.f
    repeat' first
    | with_reducible exact slices_ContainsFunc_int_int_with_impl_areNumbers_1.f_is _ _ _
    | with_reducible exact Is.now _
    | with_reducible refine Is.ite ?_ ?_
    | with_reducible refine Is.bind ?_ (fun _ => ?_)
noncomputable def impl_AreCounts.fv (l0 : List Int) : Option (Bool) := Lim fun k => impl_AreCounts.f k l0
theorem impl_AreCounts.f_is (l0 : List Int) : Is (fun k => impl_AreCounts.f k l0) (impl_AreCounts.fv l0) := ⟨fun k => impl_AreCounts.mono l0 k, rfl⟩
theorem impl_AreCounts.fv_eq (l0 : List Int) : impl_AreCounts.fv l0 = if (l0.length : Int) ≤ 10 then ((impl_areNumbers.fv l0 0 10000).bind fun t128 => (some t128)) else (some false) := by
  refine Is.lim (g := fun k => impl_AreCounts.f k l0) ?_
  · unfold impl_AreCounts.f
    repeat' first
    | with_reducible exact impl_areNumbers.f_is _ _ _
    | with_reducible exact Is.now _
    | with_reducible refine Is.ite ?_ ?_
    | with_reducible refine Is.bind ?_ (fun _ => ?_)
end Go.Proofs.Ytaggmlokldaclaa.Print
