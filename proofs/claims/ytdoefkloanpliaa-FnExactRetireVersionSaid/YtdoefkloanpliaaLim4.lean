/- Written by a program of this session (limx.py): the equations of what the printed functions come to. No condition. -/
import Derived.Test.YtdoefkloanpliaaBase
import Derived.Test.YtdoefkloanpliaaPrint4
import Derived.Test.YtdoefkloanpliaaLim2
import Derived.Test.YtdoefkloanpliaaLim3
namespace Go.Proofs.Ytdoefkloanpliaa.Print
open Go.RowKit Go.Proofs.YtdoefkloanpliaaW.PrintWords Go.Proofs.YtdoefkloanpliaaW.PrintLast Go.Proofs.Ytdoefkloanpliaa.Base
set_option linter.unusedVariables false
set_option maxRecDepth 20000
noncomputable def impl_Stranded.l0v (x0 : List Int) (x7 : List Int) (x8 : List Int) (x16 : List (List Int)) (x17 : Int) (x18 : Int) : Option (List Int) := Lim fun k => impl_Stranded.l0 k x0 x7 x8 x16 x17 x18
noncomputable def impl_Stranded.fv (l0 : List Int) (l1 : List (List Int)) (a2 : Int) : Option (List Int) := Lim fun k => impl_Stranded.f k l0 l1 a2
theorem impl_Stranded.l0_is (x0 : List Int) (x7 : List Int) (x8 : List Int) (x16 : List (List Int)) (x17 : Int) (x18 : Int) : Is (fun k => impl_Stranded.l0 k x0 x7 x8 x16 x17 x18) (impl_Stranded.l0v x0 x7 x8 x16 x17 x18) := ⟨fun k => (impl_Stranded.mono_l k) x0 x7 x8 x16 x17 x18, rfl⟩
theorem impl_Stranded.f_is (l0 : List Int) (l1 : List (List Int)) (a2 : Int) : Is (fun k => impl_Stranded.f k l0 l1 a2) (impl_Stranded.fv l0 l1 a2) := ⟨fun k => impl_Stranded.mono l0 l1 a2 k, rfl⟩
theorem impl_Stranded.l0v_eq (x0 : List Int) (x7 : List Int) (x8 : List Int) (x16 : List (List Int)) (x17 : Int) (x18 : Int) : impl_Stranded.l0v x0 x7 x8 x16 x17 x18 = if x18 < x17 then (if 0 ≤ x18 then (if x18 < (x16.length : Int) then ((impl_BestCommon.fv x0 (rd_L1 x16 x18)).bind fun t199 => (if t199 > 0 then ((impl_BestCommon.fv x8 (rd_L1 x16 x18)).bind fun t200 => (if t200 = 0 then (if x7.length < 17592186044416 then (impl_Stranded.l0v x0 (x7 ++ [x18]) x8 x16 x17 (wrap64 (x18 + 1))) else (none)) else (impl_Stranded.l0v x0 x7 x8 x16 x17 (wrap64 (x18 + 1))))) else (impl_Stranded.l0v x0 x7 x8 x16 x17 (wrap64 (x18 + 1))))) else (none)) else (none)) else (some x7) := by
  refine Is.step (impl_Stranded.l0_is x0 x7 x8 x16 x17 x18).mo (fun k => by rw [impl_Stranded.l0]) ?_
  · skip
    repeat' first
    | with_reducible exact impl_BestCommon.f_is _ _
    | with_reducible exact impl_Stranded.l0_is _ _ _ _ _ _
    | with_reducible exact Is.now _
    | with_reducible refine Is.ite ?_ ?_
    | with_reducible refine Is.bind ?_ (fun _ => ?_)
theorem impl_Stranded.fv_eq (l0 : List Int) (l1 : List (List Int)) (a2 : Int) : impl_Stranded.fv l0 l1 a2 = (impl_without.fv l0 (([a2] : List Int))).bind fun t195 => (impl_Stranded.l0v l0 (([] : List Int)) t195 l1 (l1.length : Int) 0) := by
  refine Is.lim (g := fun k => impl_Stranded.f k l0 l1 a2) ?_
  · unfold impl_Stranded.f
    repeat' first
    | with_reducible exact impl_Stranded.l0_is _ _ _ _ _ _
    | with_reducible exact impl_without.f_is _ _
    | with_reducible exact Is.now _
    | with_reducible refine Is.ite ?_ ?_
    | with_reducible refine Is.bind ?_ (fun _ => ?_)
noncomputable def laws_markIntS.l0v (x0 : List Int) (x1 : Int) (x5 : Int) : Option (Int × List Int) := Lim fun k => laws_markIntS.l0 k x0 x1 x5
noncomputable def laws_markIntS.fv (l0 : List Int) (a1 : Int) : Option (Int × List Int) := Lim fun k => laws_markIntS.f k l0 a1
theorem laws_markIntS.l0_is (x0 : List Int) (x1 : Int) (x5 : Int) : Is (fun k => laws_markIntS.l0 k x0 x1 x5) (laws_markIntS.l0v x0 x1 x5) := ⟨fun k => (laws_markIntS.mono_l k) x0 x1 x5, rfl⟩
theorem laws_markIntS.f_is (l0 : List Int) (a1 : Int) : Is (fun k => laws_markIntS.f k l0 a1) (laws_markIntS.fv l0 a1) := ⟨fun k => laws_markIntS.mono l0 a1 k, rfl⟩
theorem laws_markIntS.l0v_eq (x0 : List Int) (x1 : Int) (x5 : Int) : laws_markIntS.l0v x0 x1 x5 = if x5 < (x0.length : Int) then (if 0 ≤ x5 then (laws_markIntS.l0v (x0.set (x5 : Int).toNat x1) (wrap64 (x1 + 1)) (wrap64 (x5 + 1))) else (none)) else (some (x1, x0)) := by
  refine Is.step (laws_markIntS.l0_is x0 x1 x5).mo (fun k => by rw [laws_markIntS.l0]) ?_
  · skip
    repeat' first
    | with_reducible exact laws_markIntS.l0_is _ _ _
    | with_reducible exact Is.now _
    | with_reducible refine Is.ite ?_ ?_
    | with_reducible refine Is.bind ?_ (fun _ => ?_)
theorem laws_markIntS.fv_eq (l0 : List Int) (a1 : Int) : laws_markIntS.fv l0 a1 = laws_markIntS.l0v l0 a1 0 := by
  refine Is.lim (g := fun k => laws_markIntS.f k l0 a1) ?_
  · unfold laws_markIntS.f
    repeat' first
    | with_reducible exact laws_markIntS.l0_is _ _ _
    | with_reducible exact Is.now _
    | with_reducible refine Is.ite ?_ ?_
    | with_reducible refine Is.bind ?_ (fun _ => ?_)
noncomputable def laws_markIntSS.l0v (x0 : List (List Int)) (x1 : Int) (x5 : Int) : Option (Int) := Lim fun k => laws_markIntSS.l0 k x0 x1 x5
noncomputable def laws_markIntSS.fv (l0 : List (List Int)) (a1 : Int) : Option (Int) := Lim fun k => laws_markIntSS.f k l0 a1
theorem laws_markIntSS.l0_is (x0 : List (List Int)) (x1 : Int) (x5 : Int) : Is (fun k => laws_markIntSS.l0 k x0 x1 x5) (laws_markIntSS.l0v x0 x1 x5) := ⟨fun k => (laws_markIntSS.mono_l k) x0 x1 x5, rfl⟩
theorem laws_markIntSS.f_is (l0 : List (List Int)) (a1 : Int) : Is (fun k => laws_markIntSS.f k l0 a1) (laws_markIntSS.fv l0 a1) := ⟨fun k => laws_markIntSS.mono l0 a1 k, rfl⟩
theorem laws_markIntSS.l0v_eq (x0 : List (List Int)) (x1 : Int) (x5 : Int) : laws_markIntSS.l0v x0 x1 x5 = if x5 < (x0.length : Int) then (if 0 ≤ x5 then ((laws_markIntS.fv (rd_L1 x0 x5) x1).bind fun bt1 => (laws_markIntSS.l0v (x0.set (x5 : Int).toNat bt1.2) bt1.1 (wrap64 (x5 + 1)))) else (none)) else (some x1) := by
  refine Is.step (laws_markIntSS.l0_is x0 x1 x5).mo (fun k => by rw [laws_markIntSS.l0]) ?_
  · skip
    repeat' first
    | with_reducible exact laws_markIntS.f_is _ _
    | with_reducible exact laws_markIntSS.l0_is _ _ _
    | with_reducible exact Is.now _
    | with_reducible refine Is.ite ?_ ?_
    | with_reducible refine Is.bind ?_ (fun _ => ?_)
theorem laws_markIntSS.fv_eq (l0 : List (List Int)) (a1 : Int) : laws_markIntSS.fv l0 a1 = laws_markIntSS.l0v l0 a1 0 := by
  refine Is.lim (g := fun k => laws_markIntSS.f k l0 a1) ?_
  · unfold laws_markIntSS.f
    repeat' first
    | with_reducible exact laws_markIntSS.l0_is _ _ _
    | with_reducible exact Is.now _
    | with_reducible refine Is.ite ?_ ?_
    | with_reducible refine Is.bind ?_ (fun _ => ?_)
noncomputable def laws_heldIntS.l0v (x0 : List Int) (x1 : Int) (x5 : Int) : Option (Int) := Lim fun k => laws_heldIntS.l0 k x0 x1 x5
noncomputable def laws_heldIntS.fv (l0 : List Int) (a1 : Int) : Option (Int) := Lim fun k => laws_heldIntS.f k l0 a1
theorem laws_heldIntS.l0_is (x0 : List Int) (x1 : Int) (x5 : Int) : Is (fun k => laws_heldIntS.l0 k x0 x1 x5) (laws_heldIntS.l0v x0 x1 x5) := ⟨fun k => (laws_heldIntS.mono_l k) x0 x1 x5, rfl⟩
theorem laws_heldIntS.f_is (l0 : List Int) (a1 : Int) : Is (fun k => laws_heldIntS.f k l0 a1) (laws_heldIntS.fv l0 a1) := ⟨fun k => laws_heldIntS.mono l0 a1 k, rfl⟩
theorem laws_heldIntS.l0v_eq (x0 : List Int) (x1 : Int) (x5 : Int) : laws_heldIntS.l0v x0 x1 x5 = if x5 < (x0.length : Int) then (if 0 ≤ x5 then (if (rd x0 x5) = x1 then (laws_heldIntS.l0v x0 (wrap64 (x1 + 1)) (wrap64 (x5 + 1))) else (some (-1))) else (none)) else (some x1) := by
  refine Is.step (laws_heldIntS.l0_is x0 x1 x5).mo (fun k => by rw [laws_heldIntS.l0]) ?_
  · skip
    repeat' first
    | with_reducible exact laws_heldIntS.l0_is _ _ _
    | with_reducible exact Is.now _
    | with_reducible refine Is.ite ?_ ?_
    | with_reducible refine Is.bind ?_ (fun _ => ?_)
theorem laws_heldIntS.fv_eq (l0 : List Int) (a1 : Int) : laws_heldIntS.fv l0 a1 = laws_heldIntS.l0v l0 a1 0 := by
  refine Is.lim (g := fun k => laws_heldIntS.f k l0 a1) ?_
  · unfold laws_heldIntS.f
    repeat' first
    | with_reducible exact laws_heldIntS.l0_is _ _ _
    | with_reducible exact Is.now _
    | with_reducible refine Is.ite ?_ ?_
    | with_reducible refine Is.bind ?_ (fun _ => ?_)
noncomputable def spec_UseOf.l0v (x0 : List Int) (x1 : List (List Int)) (x2 : Int) (x7 : Int) (x8 : Int) : Option (Int) := Lim fun k => spec_UseOf.l0 k x0 x1 x2 x7 x8
noncomputable def spec_UseOf.j1v (x0 : List Int) (x1 : List (List Int)) (x2 : Int) (x7 : Int) (x8 : Int) (x16 : Bool) : Option (Int) := Lim fun k => spec_UseOf.j1 k x0 x1 x2 x7 x8 x16
noncomputable def spec_UseOf.fv (l0 : List Int) (l1 : List (List Int)) (a2 : Int) : Option (Int) := Lim fun k => spec_UseOf.f k l0 l1 a2
theorem spec_UseOf.l0_is (x0 : List Int) (x1 : List (List Int)) (x2 : Int) (x7 : Int) (x8 : Int) : Is (fun k => spec_UseOf.l0 k x0 x1 x2 x7 x8) (spec_UseOf.l0v x0 x1 x2 x7 x8) := ⟨fun k => (spec_UseOf.mono_l k).1 x0 x1 x2 x7 x8, rfl⟩
theorem spec_UseOf.j1_is (x0 : List Int) (x1 : List (List Int)) (x2 : Int) (x7 : Int) (x8 : Int) (x16 : Bool) : Is (fun k => spec_UseOf.j1 k x0 x1 x2 x7 x8 x16) (spec_UseOf.j1v x0 x1 x2 x7 x8 x16) := ⟨fun k => (spec_UseOf.mono_l k).2 x0 x1 x2 x7 x8 x16, rfl⟩
theorem spec_UseOf.f_is (l0 : List Int) (l1 : List (List Int)) (a2 : Int) : Is (fun k => spec_UseOf.f k l0 l1 a2) (spec_UseOf.fv l0 l1 a2) := ⟨fun k => spec_UseOf.mono l0 l1 a2 k, rfl⟩
theorem spec_UseOf.l0v_eq (x0 : List Int) (x1 : List (List Int)) (x2 : Int) (x7 : Int) (x8 : Int) : spec_UseOf.l0v x0 x1 x2 x7 x8 = if x8 < (x1.length : Int) then (spec_UseOf.j1v x0 x1 x2 x7 x8 (decide (x2 ≥ 1))) else (spec_UseOf.j1v x0 x1 x2 x7 x8 false) := by
  refine Is.step (spec_UseOf.l0_is x0 x1 x2 x7 x8).mo (fun k => by rw [spec_UseOf.l0]) ?_
  · skip
    repeat' first
    | with_reducible exact spec_UseOf.j1_is _ _ _ _ _ _
    | with_reducible exact Is.now _
    | with_reducible refine Is.ite ?_ ?_
    | with_reducible refine Is.bind ?_ (fun _ => ?_)
theorem spec_UseOf.j1v_eq (x0 : List Int) (x1 : List (List Int)) (x2 : Int) (x7 : Int) (x8 : Int) (x16 : Bool) : spec_UseOf.j1v x0 x1 x2 x7 x8 x16 = if x16 = true then (if 0 ≤ x8 then (if x8 < (x1.length : Int) then ((spec_BestCommon.fv x0 (rd_L1 x1 x8)).bind fun t253 => (if t253 = x2 then (spec_UseOf.l0v x0 x1 x2 (wrap64 (x7 + 1)) (wrap64 (x8 + 1))) else (spec_UseOf.l0v x0 x1 x2 x7 (wrap64 (x8 + 1))))) else (none)) else (none)) else (some x7) := by
  refine Is.step (spec_UseOf.j1_is x0 x1 x2 x7 x8 x16).mo (fun k => by rw [spec_UseOf.j1]) ?_
  · skip
    repeat' first
    | with_reducible exact spec_BestCommon.f_is _ _
    | with_reducible exact spec_UseOf.l0_is _ _ _ _ _
    | with_reducible exact Is.now _
    | with_reducible refine Is.ite ?_ ?_
    | with_reducible refine Is.bind ?_ (fun _ => ?_)
theorem spec_UseOf.fv_eq (l0 : List Int) (l1 : List (List Int)) (a2 : Int) : spec_UseOf.fv l0 l1 a2 = spec_UseOf.l0v l0 l1 a2 0 0 := by
  refine Is.lim (g := fun k => spec_UseOf.f k l0 l1 a2) ?_
  · unfold spec_UseOf.f
    repeat' first
    | with_reducible exact spec_UseOf.l0_is _ _ _ _ _
    | with_reducible exact Is.now _
    | with_reducible refine Is.ite ?_ ?_
    | with_reducible refine Is.bind ?_ (fun _ => ?_)
end Go.Proofs.Ytdoefkloanpliaa.Print
