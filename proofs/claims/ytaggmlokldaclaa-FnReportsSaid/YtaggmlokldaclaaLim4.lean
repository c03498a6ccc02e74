/- Written by a program of this session (limx.py): the equations of what the printed functions come to. No condition. -/
import Derived.Test.YtaggmlokldaclaaBase
import Derived.Test.YtaggmlokldaclaaPrint4
import Derived.Test.YtaggmlokldaclaaLim1
namespace Go.Proofs.Ytaggmlokldaclaa.Print
open Go.RowKit Go.Proofs.YtaggmlokldaclaaW.PrintWords Go.Proofs.YtaggmlokldaclaaW.PrintLast Go.Proofs.Ytaggmlokldaclaa.Base
set_option linter.unusedVariables false
set_option maxRecDepth 20000
noncomputable def impl_SafeStages.j0v (x0 : Int) (x1 : Int) (x5 : List Int) (x16 : Bool) : Option (List Int) := Lim fun k => impl_SafeStages.j0 k x0 x1 x5 x16
noncomputable def impl_SafeStages.l0v (x0 : Int) (x1 : Int) (x5 : List Int) (x6 : Int) (x7 : Int) : Option (List Int) := Lim fun k => impl_SafeStages.l0 k x0 x1 x5 x6 x7
noncomputable def impl_SafeStages.l1v (x5 : List Int) (x8 : Int) : Option (List Int) := Lim fun k => impl_SafeStages.l1 k x5 x8
noncomputable def impl_SafeStages.fv (a0 : Int) (a1 : Int) : Option (List Int) := Lim fun k => impl_SafeStages.f k a0 a1
theorem impl_SafeStages.j0_is (x0 : Int) (x1 : Int) (x5 : List Int) (x16 : Bool) : Is (fun k => impl_SafeStages.j0 k x0 x1 x5 x16) (impl_SafeStages.j0v x0 x1 x5 x16) := ⟨fun k => (impl_SafeStages.mono_l k).1 x0 x1 x5 x16, rfl⟩
theorem impl_SafeStages.l0_is (x0 : Int) (x1 : Int) (x5 : List Int) (x6 : Int) (x7 : Int) : Is (fun k => impl_SafeStages.l0 k x0 x1 x5 x6 x7) (impl_SafeStages.l0v x0 x1 x5 x6 x7) := ⟨fun k => (impl_SafeStages.mono_l k).2.1 x0 x1 x5 x6 x7, rfl⟩
theorem impl_SafeStages.l1_is (x5 : List Int) (x8 : Int) : Is (fun k => impl_SafeStages.l1 k x5 x8) (impl_SafeStages.l1v x5 x8) := ⟨fun k => (impl_SafeStages.mono_l k).2.2 x5 x8, rfl⟩
theorem impl_SafeStages.f_is (a0 : Int) (a1 : Int) : Is (fun k => impl_SafeStages.f k a0 a1) (impl_SafeStages.fv a0 a1) := ⟨fun k => impl_SafeStages.mono a0 a1 k, rfl⟩
theorem impl_SafeStages.j0v_eq (x0 : Int) (x1 : Int) (x5 : List Int) (x16 : Bool) : impl_SafeStages.j0v x0 x1 x5 x16 = if x16 = true then (some x5) else (impl_SafeStages.l0v x0 x1 x5 0 1) := by
  refine Is.step (impl_SafeStages.j0_is x0 x1 x5 x16).mo (fun k => by rw [impl_SafeStages.j0]) ?_
  · skip
    repeat' first
    | with_reducible exact impl_SafeStages.l0_is _ _ _ _ _
    | with_reducible exact Is.now _
    | with_reducible refine Is.ite ?_ ?_
    | with_reducible refine Is.bind ?_ (fun _ => ?_)
theorem impl_SafeStages.l0v_eq (x0 : Int) (x1 : Int) (x5 : List Int) (x6 : Int) (x7 : Int) : impl_SafeStages.l0v x0 x1 x5 x6 x7 = if x7 ≤ 100 then ((impl_CeilDiv.f (wrap64 (x0 * x7)) 100).bind fun t202 => (if t202 ≤ x1 then (impl_SafeStages.l0v x0 x1 x5 x7 (wrap64 (x7 + 1))) else (impl_SafeStages.l0v x0 x1 x5 x6 (wrap64 (x7 + 1))))) else (impl_SafeStages.l1v x5 x6) := by
  refine Is.step (impl_SafeStages.l0_is x0 x1 x5 x6 x7).mo (fun k => by rw [impl_SafeStages.l0]) ?_
  · skip
    repeat' first
    | with_reducible exact impl_SafeStages.l0_is _ _ _ _ _
    | with_reducible exact impl_SafeStages.l1_is _ _
    | with_reducible exact Is.now _
    | with_reducible refine Is.ite ?_ ?_
    | with_reducible refine Is.bind ?_ (fun _ => ?_)
theorem impl_SafeStages.l1v_eq (x5 : List Int) (x8 : Int) : impl_SafeStages.l1v x5 x8 = if x8 > 0 then (if x8 < 100 then (if (x5.length : Int) < 4 then (if x5.length < 17592186044416 then (impl_SafeStages.l1v (x5 ++ [x8]) (wrap64 (x8 * 2))) else (none)) else (if x5.length < 17592186044416 then (some (x5 ++ [100])) else (none))) else (if x5.length < 17592186044416 then (some (x5 ++ [100])) else (none))) else (if x5.length < 17592186044416 then (some (x5 ++ [100])) else (none)) := by
  refine Is.step (impl_SafeStages.l1_is x5 x8).mo (fun k => by rw [impl_SafeStages.l1]) ?_
  · skip
    repeat' first
    | with_reducible exact impl_SafeStages.l1_is _ _
    | with_reducible exact Is.now _
    | with_reducible refine Is.ite ?_ ?_
    | with_reducible refine Is.bind ?_ (fun _ => ?_)
theorem impl_SafeStages.fv_eq (a0 : Int) (a1 : Int) : impl_SafeStages.fv a0 a1 = (some (([] : List Int) : List Int)).bind fun y198 => ((impl_InRange.f a0 1 10000).bind fun t201 => (if t201 = true then (impl_SafeStages.j0v a0 a1 y198 (decide (a1 < 0))) else (impl_SafeStages.j0v a0 a1 y198 true))) := by
  refine Is.lim (g := fun k => impl_SafeStages.f k a0 a1) ?_
  · unfold impl_SafeStages.f
    repeat' first
    | with_reducible exact impl_SafeStages.j0_is _ _ _ _
    | with_reducible exact Is.now _
    | with_reducible refine Is.ite ?_ ?_
    | with_reducible refine Is.bind ?_ (fun _ => ?_)
noncomputable def laws_markIntS.l0v (x0 : List Int) (x1 : Int) (x5 : Int) : Option (Int × List Int) := Lim fun k => laws_markIntS.l0 k x0 x1 x5
noncomputable def laws_markIntS.fv (l0 : List Int) (a1 : Int) : Option (Int × List Int) := Lim fun k => laws_markIntS.f k l0 a1
theorem laws_markIntS.l0_is (x0 : List Int) (x1 : Int) (x5 : Int) : Is (fun k => laws_markIntS.l0 k x0 x1 x5) (laws_markIntS.l0v x0 x1 x5) := ⟨fun k => (laws_markIntS.mono_l k) x0 x1 x5, rfl⟩
theorem laws_markIntS.f_is (l0 : List Int) (a1 : Int) : Is (fun k => laws_markIntS.f k l0 a1) (laws_markIntS.fv l0 a1) := ⟨fun k => laws_markIntS.mono l0 a1 k, rfl⟩
theorem laws_markIntS.l0v_eq (x0 : List Int) (x1 : Int) (x5 : Int) : laws_markIntS.l0v x0 x1 x5 = if x5 < (x0.length : Int) then (if 0 ≤ x5 then (laws_markIntS.l0v (x0.set (x5 : Int).toNat x1) (wrap64 (x1 + 1)) (wrap64 (x5 + 1))) else (none)) else (some (x1, x0)) := by
  refine Is.step (laws_markIntS.l0_is x0 x1 x5).mo (fun k => by rw [laws_markIntS.l0]) ?_
  · skip
    repeat' first
    | with_reducible exact laws_markIntS.l0_is _ _ _
    | with_reducible exact Is.now _
    | with_reducible refine Is.ite ?_ ?_
    | with_reducible refine Is.bind ?_ (fun _ => ?_)
theorem laws_markIntS.fv_eq (l0 : List Int) (a1 : Int) : laws_markIntS.fv l0 a1 = laws_markIntS.l0v l0 a1 0 := by
  refine Is.lim (g := fun k => laws_markIntS.f k l0 a1) ?_
  · unfold laws_markIntS.f
    repeat' first
    | with_reducible exact laws_markIntS.l0_is _ _ _
    | with_reducible exact Is.now _
    | with_reducible refine Is.ite ?_ ?_
    | with_reducible refine Is.bind ?_ (fun _ => ?_)
noncomputable def laws_heldIntS.l0v (x0 : List Int) (x1 : Int) (x5 : Int) : Option (Int) := Lim fun k => laws_heldIntS.l0 k x0 x1 x5
noncomputable def laws_heldIntS.fv (l0 : List Int) (a1 : Int) : Option (Int) := Lim fun k => laws_heldIntS.f k l0 a1
theorem laws_heldIntS.l0_is (x0 : List Int) (x1 : Int) (x5 : Int) : Is (fun k => laws_heldIntS.l0 k x0 x1 x5) (laws_heldIntS.l0v x0 x1 x5) := ⟨fun k => (laws_heldIntS.mono_l k) x0 x1 x5, rfl⟩
theorem laws_heldIntS.f_is (l0 : List Int) (a1 : Int) : Is (fun k => laws_heldIntS.f k l0 a1) (laws_heldIntS.fv l0 a1) := ⟨fun k => laws_heldIntS.mono l0 a1 k, rfl⟩
theorem laws_heldIntS.l0v_eq (x0 : List Int) (x1 : Int) (x5 : Int) : laws_heldIntS.l0v x0 x1 x5 = if x5 < (x0.length : Int) then (if 0 ≤ x5 then (if (rd x0 x5) = x1 then (laws_heldIntS.l0v x0 (wrap64 (x1 + 1)) (wrap64 (x5 + 1))) else (some (-1))) else (none)) else (some x1) := by
  refine Is.step (laws_heldIntS.l0_is x0 x1 x5).mo (fun k => by rw [laws_heldIntS.l0]) ?_
  · skip
    repeat' first
    | with_reducible exact laws_heldIntS.l0_is _ _ _
    | with_reducible exact Is.now _
    | with_reducible refine Is.ite ?_ ?_
    | with_reducible refine Is.bind ?_ (fun _ => ?_)
theorem laws_heldIntS.fv_eq (l0 : List Int) (a1 : Int) : laws_heldIntS.fv l0 a1 = laws_heldIntS.l0v l0 a1 0 := by
  refine Is.lim (g := fun k => laws_heldIntS.f k l0 a1) ?_
  · unfold laws_heldIntS.f
    repeat' first
    | with_reducible exact laws_heldIntS.l0_is _ _ _
    | with_reducible exact Is.now _
    | with_reducible refine Is.ite ?_ ?_
    | with_reducible refine Is.bind ?_ (fun _ => ?_)
noncomputable def spec_HideSmall.l0v (x0 : List Int) (x1 : Int) (x5 : List Int) (x6 : Int) : Option (List Int) := Lim fun k => spec_HideSmall.l0 k x0 x1 x5 x6
noncomputable def spec_HideSmall.j1v (x0 : List Int) (x1 : Int) (x5 : List Int) (x6 : Int) (x20 : Bool) : Option (List Int) := Lim fun k => spec_HideSmall.j1 k x0 x1 x5 x6 x20
noncomputable def spec_HideSmall.fv (l0 : List Int) (a1 : Int) : Option (List Int) := Lim fun k => spec_HideSmall.f k l0 a1
theorem spec_HideSmall.l0_is (x0 : List Int) (x1 : Int) (x5 : List Int) (x6 : Int) : Is (fun k => spec_HideSmall.l0 k x0 x1 x5 x6) (spec_HideSmall.l0v x0 x1 x5 x6) := ⟨fun k => (spec_HideSmall.mono_l k).1 x0 x1 x5 x6, rfl⟩
theorem spec_HideSmall.j1_is (x0 : List Int) (x1 : Int) (x5 : List Int) (x6 : Int) (x20 : Bool) : Is (fun k => spec_HideSmall.j1 k x0 x1 x5 x6 x20) (spec_HideSmall.j1v x0 x1 x5 x6 x20) := ⟨fun k => (spec_HideSmall.mono_l k).2 x0 x1 x5 x6 x20, rfl⟩
theorem spec_HideSmall.f_is (l0 : List Int) (a1 : Int) : Is (fun k => spec_HideSmall.f k l0 a1) (spec_HideSmall.fv l0 a1) := ⟨fun k => spec_HideSmall.mono l0 a1 k, rfl⟩
theorem spec_HideSmall.l0v_eq (x0 : List Int) (x1 : Int) (x5 : List Int) (x6 : Int) : spec_HideSmall.l0v x0 x1 x5 x6 = if x6 < (x0.length : Int) then ((spec_AreCounts.fv x0).bind fun t235 => (if t235 = true then ((spec_l1In.f x1 0 10000).bind fun t236 => (spec_HideSmall.j1v x0 x1 x5 x6 t236)) else (spec_HideSmall.j1v x0 x1 x5 x6 false))) else (spec_HideSmall.j1v x0 x1 x5 x6 false) := by
  refine Is.step (spec_HideSmall.l0_is x0 x1 x5 x6).mo (fun k => by rw [spec_HideSmall.l0]) ?_
  · skip
    repeat' first
    | with_reducible exact spec_AreCounts.f_is _
    | with_reducible exact spec_HideSmall.j1_is _ _ _ _ _
    | with_reducible exact Is.now _
    | with_reducible refine Is.ite ?_ ?_
    | with_reducible refine Is.bind ?_ (fun _ => ?_)
theorem spec_HideSmall.j1v_eq (x0 : List Int) (x1 : Int) (x5 : List Int) (x6 : Int) (x20 : Bool) : spec_HideSmall.j1v x0 x1 x5 x6 x20 = if x20 = true then (if 0 ≤ x6 then (if x6 < (x0.length : Int) then (if (rd x0 x6) < x1 then (if x5.length < 17592186044416 then (spec_HideSmall.l0v x0 x1 (x5 ++ [0]) (wrap64 (x6 + 1))) else (none)) else (if x5.length < 17592186044416 then (spec_HideSmall.l0v x0 x1 (x5 ++ [rd x0 x6]) (wrap64 (x6 + 1))) else (none))) else (none)) else (none)) else (some x5) := by
  refine Is.step (spec_HideSmall.j1_is x0 x1 x5 x6 x20).mo (fun k => by rw [spec_HideSmall.j1]) ?_
  · skip
    repeat' first
    | with_reducible exact spec_HideSmall.l0_is _ _ _ _
    | with_reducible exact Is.now _
    | with_reducible refine Is.ite ?_ ?_
    | with_reducible refine Is.bind ?_ (fun _ => ?_)
theorem spec_HideSmall.fv_eq (l0 : List Int) (a1 : Int) : spec_HideSmall.fv l0 a1 = spec_HideSmall.l0v l0 a1 (([] : List Int)) 0 := by
  refine Is.lim (g := fun k => spec_HideSmall.f k l0 a1) ?_
  · unfold spec_HideSmall.f
    repeat' first
    | with_reducible exact spec_HideSmall.l0_is _ _ _ _
    | with_reducible exact Is.now _
    | with_reducible refine Is.ite ?_ ?_
    | with_reducible refine Is.bind ?_ (fun _ => ?_)
noncomputable def impl_canHide.fv (l0 : List Int) (a1 : Int) : Option (Bool) := Lim fun k => impl_canHide.f k l0 a1
theorem impl_canHide.f_is (l0 : List Int) (a1 : Int) : Is (fun k => impl_canHide.f k l0 a1) (impl_canHide.fv l0 a1) := ⟨fun k => impl_canHide.mono l0 a1 k, rfl⟩
theorem impl_canHide.fv_eq (l0 : List Int) (a1 : Int) : impl_canHide.fv l0 a1 = (impl_AreCounts.fv l0).bind fun t244 => (if t244 = true then ((impl_InRange.f a1 0 10000).bind fun t245 => (some t245)) else (some false)) := by
  refine Is.lim (g := fun k => impl_canHide.f k l0 a1) ?_
  · unfold impl_canHide.f
    repeat' first
    | with_reducible exact impl_AreCounts.f_is _
    | with_reducible exact Is.now _
    | with_reducible refine Is.ite ?_ ?_
    | with_reducible refine Is.bind ?_ (fun _ => ?_)
end Go.Proofs.Ytaggmlokldaclaa.Print
