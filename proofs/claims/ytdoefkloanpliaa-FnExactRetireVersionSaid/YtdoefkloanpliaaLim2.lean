/- Written by a program of this session (limx.py): the equations of what the printed functions come to. No condition. -/
import Derived.Test.YtdoefkloanpliaaBase
import Derived.Test.YtdoefkloanpliaaPrint2
namespace Go.Proofs.Ytdoefkloanpliaa.Print
open Go.RowKit Go.Proofs.YtdoefkloanpliaaW.PrintWords Go.Proofs.YtdoefkloanpliaaW.PrintLast Go.Proofs.Ytdoefkloanpliaa.Base
set_option linter.unusedVariables false
set_option maxRecDepth 20000
noncomputable def spec_AreVersions.l0v (x0 : List Int) (x3 : Int) : Option (Bool) := Lim fun k => spec_AreVersions.l0 k x0 x3
noncomputable def spec_AreVersions.fv (l0 : List Int) : Option (Bool) := Lim fun k => spec_AreVersions.f k l0
theorem spec_AreVersions.l0_is (x0 : List Int) (x3 : Int) : Is (fun k => spec_AreVersions.l0 k x0 x3) (spec_AreVersions.l0v x0 x3) := ⟨fun k => (spec_AreVersions.mono_l k) x0 x3, rfl⟩
theorem spec_AreVersions.f_is (l0 : List Int) : Is (fun k => spec_AreVersions.f k l0) (spec_AreVersions.fv l0) := ⟨fun k => spec_AreVersions.mono l0 k, rfl⟩
theorem spec_AreVersions.l0v_eq (x0 : List Int) (x3 : Int) : spec_AreVersions.l0v x0 x3 = if x3 < (x0.length : Int) then (if 0 ≤ x3 then ((spec_l1In.f (rd x0 x3) 1 9).bind fun t122 => (if t122 = true then (if x3 > 0 then (if 0 ≤ (wrap64 (x3 - 1)) then (if (wrap64 (x3 - 1)) < (x0.length : Int) then (if (rd x0 (wrap64 (x3 - 1))) ≥ (rd x0 x3) then (some false) else (spec_AreVersions.l0v x0 (wrap64 (x3 + 1)))) else (none)) else (none)) else (spec_AreVersions.l0v x0 (wrap64 (x3 + 1)))) else (some false))) else (none)) else (some (decide ((x0.length : Int) > 0))) := by
  refine Is.step (spec_AreVersions.l0_is x0 x3).mo (fun k => by rw [spec_AreVersions.l0]) ?_
  · skip
    repeat' first
    | with_reducible exact spec_AreVersions.l0_is _ _
    | with_reducible exact Is.now _
    | with_reducible refine Is.ite ?_ ?_
    | with_reducible refine Is.bind ?_ (fun _ => ?_)
theorem spec_AreVersions.fv_eq (l0 : List Int) : spec_AreVersions.fv l0 = spec_AreVersions.l0v l0 0 := by
  refine Is.lim (g := fun k => spec_AreVersions.f k l0) ?_
  · unfold spec_AreVersions.f
    repeat' first
    | with_reducible exact spec_AreVersions.l0_is _ _
    | with_reducible exact Is.now _
    | with_reducible refine Is.ite ?_ ?_
    | with_reducible refine Is.bind ?_ (fun _ => ?_)
noncomputable def spec_l9Has.l0v (x0 : List Int) (x1 : Int) (x5 : Int) : Option (Bool) := Lim fun k => spec_l9Has.l0 k x0 x1 x5
noncomputable def spec_l9Has.fv (l0 : List Int) (a1 : Int) : Option (Bool) := Lim fun k => spec_l9Has.f k l0 a1
theorem spec_l9Has.l0_is (x0 : List Int) (x1 : Int) (x5 : Int) : Is (fun k => spec_l9Has.l0 k x0 x1 x5) (spec_l9Has.l0v x0 x1 x5) := ⟨fun k => (spec_l9Has.mono_l k) x0 x1 x5, rfl⟩
theorem spec_l9Has.f_is (l0 : List Int) (a1 : Int) : Is (fun k => spec_l9Has.f k l0 a1) (spec_l9Has.fv l0 a1) := ⟨fun k => spec_l9Has.mono l0 a1 k, rfl⟩
theorem spec_l9Has.l0v_eq (x0 : List Int) (x1 : Int) (x5 : Int) : spec_l9Has.l0v x0 x1 x5 = if x5 < (x0.length : Int) then (if 0 ≤ x5 then (if (rd x0 x5) = x1 then (some true) else (spec_l9Has.l0v x0 x1 (wrap64 (x5 + 1)))) else (none)) else (some false) := by
  refine Is.step (spec_l9Has.l0_is x0 x1 x5).mo (fun k => by rw [spec_l9Has.l0]) ?_
  · skip
    repeat' first
    | with_reducible exact spec_l9Has.l0_is _ _ _
    | with_reducible exact Is.now _
    | with_reducible refine Is.ite ?_ ?_
    | with_reducible refine Is.bind ?_ (fun _ => ?_)
theorem spec_l9Has.fv_eq (l0 : List Int) (a1 : Int) : spec_l9Has.fv l0 a1 = spec_l9Has.l0v l0 a1 0 := by
  refine Is.lim (g := fun k => spec_l9Has.f k l0 a1) ?_
  · unfold spec_l9Has.f
    repeat' first
    | with_reducible exact spec_l9Has.l0_is _ _ _
    | with_reducible exact Is.now _
    | with_reducible refine Is.ite ?_ ?_
    | with_reducible refine Is.bind ?_ (fun _ => ?_)
noncomputable def spec_CommonOf.l0v (x0 : List Int) (x1 : List Int) (x5 : List Int) (x6 : Int) : Option (List Int) := Lim fun k => spec_CommonOf.l0 k x0 x1 x5 x6
noncomputable def spec_CommonOf.fv (l0 : List Int) (l1 : List Int) : Option (List Int) := Lim fun k => spec_CommonOf.f k l0 l1
theorem spec_CommonOf.l0_is (x0 : List Int) (x1 : List Int) (x5 : List Int) (x6 : Int) : Is (fun k => spec_CommonOf.l0 k x0 x1 x5 x6) (spec_CommonOf.l0v x0 x1 x5 x6) := ⟨fun k => (spec_CommonOf.mono_l k) x0 x1 x5 x6, rfl⟩
theorem spec_CommonOf.f_is (l0 : List Int) (l1 : List Int) : Is (fun k => spec_CommonOf.f k l0 l1) (spec_CommonOf.fv l0 l1) := ⟨fun k => spec_CommonOf.mono l0 l1 k, rfl⟩
theorem spec_CommonOf.l0v_eq (x0 : List Int) (x1 : List Int) (x5 : List Int) (x6 : Int) : spec_CommonOf.l0v x0 x1 x5 x6 = if x6 < (x0.length : Int) then (if 0 ≤ x6 then ((spec_l9Has.fv x1 (rd x0 x6)).bind fun t130 => (if t130 = true then (if x5.length < 17592186044416 then (spec_CommonOf.l0v x0 x1 (x5 ++ [rd x0 x6]) (wrap64 (x6 + 1))) else (none)) else (spec_CommonOf.l0v x0 x1 x5 (wrap64 (x6 + 1))))) else (none)) else (some x5) := by
  refine Is.step (spec_CommonOf.l0_is x0 x1 x5 x6).mo (fun k => by rw [spec_CommonOf.l0]) ?_
  · skip
    repeat' first
    | with_reducible exact spec_CommonOf.l0_is _ _ _ _
    | with_reducible exact spec_l9Has.f_is _ _
    | with_reducible exact Is.now _
    | with_reducible refine Is.ite ?_ ?_
    | with_reducible refine Is.bind ?_ (fun _ => ?_)
theorem spec_CommonOf.fv_eq (l0 : List Int) (l1 : List Int) : spec_CommonOf.fv l0 l1 = spec_CommonOf.l0v l0 l1 (([] : List Int)) 0 := by
  refine Is.lim (g := fun k => spec_CommonOf.f k l0 l1) ?_
  · unfold spec_CommonOf.f
    repeat' first
    | with_reducible exact spec_CommonOf.l0_is _ _ _ _
    | with_reducible exact Is.now _
    | with_reducible refine Is.ite ?_ ?_
    | with_reducible refine Is.bind ?_ (fun _ => ?_)
noncomputable def spec_BestCommon.fv (l0 : List Int) (l1 : List Int) : Option (Int) := Lim fun k => spec_BestCommon.f k l0 l1
theorem spec_BestCommon.f_is (l0 : List Int) (l1 : List Int) : Is (fun k => spec_BestCommon.f k l0 l1) (spec_BestCommon.fv l0 l1) := ⟨fun k => spec_BestCommon.mono l0 l1 k, rfl⟩
theorem spec_BestCommon.fv_eq (l0 : List Int) (l1 : List Int) : spec_BestCommon.fv l0 l1 = (spec_CommonOf.fv l0 l1).bind fun t135 => ((spec_AreVersions.fv l0).bind fun t138 => (if t138 = true then ((spec_AreVersions.fv l1).bind fun t139 => (if t139 = true then (if (t135.length : Int) = 0 then (some 0) else (if 0 ≤ (wrap64 ((t135.length : Int) - 1)) then (if (wrap64 ((t135.length : Int) - 1)) < (t135.length : Int) then (some (rd t135 (wrap64 ((t135.length : Int) - 1)))) else (none)) else (none))) else (some 0))) else (some 0))) := by
  refine Is.lim (g := fun k => spec_BestCommon.f k l0 l1) ?_
  · unfold spec_BestCommon.f
    repeat' first
    | with_reducible exact spec_AreVersions.f_is _
    | with_reducible exact spec_CommonOf.f_is _ _
    | with_reducible exact Is.now _
    | with_reducible refine Is.ite ?_ ?_
    | with_reducible refine Is.bind ?_ (fun _ => ?_)
noncomputable def spec_l12Without.l0v (x0 : List Int) (x1 : Int) (x5 : List Int) (x6 : Int) : Option (List Int) := Lim fun k => spec_l12Without.l0 k x0 x1 x5 x6
noncomputable def spec_l12Without.fv (l0 : List Int) (a1 : Int) : Option (List Int) := Lim fun k => spec_l12Without.f k l0 a1
theorem spec_l12Without.l0_is (x0 : List Int) (x1 : Int) (x5 : List Int) (x6 : Int) : Is (fun k => spec_l12Without.l0 k x0 x1 x5 x6) (spec_l12Without.l0v x0 x1 x5 x6) := ⟨fun k => (spec_l12Without.mono_l k) x0 x1 x5 x6, rfl⟩
theorem spec_l12Without.f_is (l0 : List Int) (a1 : Int) : Is (fun k => spec_l12Without.f k l0 a1) (spec_l12Without.fv l0 a1) := ⟨fun k => spec_l12Without.mono l0 a1 k, rfl⟩
theorem spec_l12Without.l0v_eq (x0 : List Int) (x1 : Int) (x5 : List Int) (x6 : Int) : spec_l12Without.l0v x0 x1 x5 x6 = if x6 < (x0.length : Int) then (if 0 ≤ x6 then (if (rd x0 x6) = x1 then (spec_l12Without.l0v x0 x1 x5 (wrap64 (x6 + 1))) else (if x5.length < 17592186044416 then (spec_l12Without.l0v x0 x1 (x5 ++ [rd x0 x6]) (wrap64 (x6 + 1))) else (none))) else (none)) else (some x5) := by
  refine Is.step (spec_l12Without.l0_is x0 x1 x5 x6).mo (fun k => by rw [spec_l12Without.l0]) ?_
  · skip
    repeat' first
    | with_reducible exact spec_l12Without.l0_is _ _ _ _
    | with_reducible exact Is.now _
    | with_reducible refine Is.ite ?_ ?_
    | with_reducible refine Is.bind ?_ (fun _ => ?_)
theorem spec_l12Without.fv_eq (l0 : List Int) (a1 : Int) : spec_l12Without.fv l0 a1 = spec_l12Without.l0v l0 a1 (([] : List Int)) 0 := by
  refine Is.lim (g := fun k => spec_l12Without.f k l0 a1) ?_
  · unfold spec_l12Without.f
    repeat' first
    | with_reducible exact spec_l12Without.l0_is _ _ _ _
    | with_reducible exact Is.now _
    | with_reducible refine Is.ite ?_ ?_
    | with_reducible refine Is.bind ?_ (fun _ => ?_)
noncomputable def spec_Stranded.l0v (x0 : List Int) (x1 : List (List Int)) (x7 : List Int) (x8 : List Int) (x9 : Int) : Option (List Int) := Lim fun k => spec_Stranded.l0 k x0 x1 x7 x8 x9
noncomputable def spec_Stranded.fv (l0 : List Int) (l1 : List (List Int)) (a2 : Int) : Option (List Int) := Lim fun k => spec_Stranded.f k l0 l1 a2
theorem spec_Stranded.l0_is (x0 : List Int) (x1 : List (List Int)) (x7 : List Int) (x8 : List Int) (x9 : Int) : Is (fun k => spec_Stranded.l0 k x0 x1 x7 x8 x9) (spec_Stranded.l0v x0 x1 x7 x8 x9) := ⟨fun k => (spec_Stranded.mono_l k) x0 x1 x7 x8 x9, rfl⟩
theorem spec_Stranded.f_is (l0 : List Int) (l1 : List (List Int)) (a2 : Int) : Is (fun k => spec_Stranded.f k l0 l1 a2) (spec_Stranded.fv l0 l1 a2) := ⟨fun k => spec_Stranded.mono l0 l1 a2 k, rfl⟩
theorem spec_Stranded.l0v_eq (x0 : List Int) (x1 : List (List Int)) (x7 : List Int) (x8 : List Int) (x9 : Int) : spec_Stranded.l0v x0 x1 x7 x8 x9 = if x9 < (x1.length : Int) then (if 0 ≤ x9 then ((spec_BestCommon.fv x0 (rd_L1 x1 x9)).bind fun t156 => (if t156 > 0 then ((spec_BestCommon.fv x8 (rd_L1 x1 x9)).bind fun t158 => (if t158 = 0 then (if x7.length < 17592186044416 then (spec_Stranded.l0v x0 x1 (x7 ++ [x9]) x8 (wrap64 (x9 + 1))) else (none)) else (spec_Stranded.l0v x0 x1 x7 x8 (wrap64 (x9 + 1))))) else (spec_Stranded.l0v x0 x1 x7 x8 (wrap64 (x9 + 1))))) else (none)) else (some x7) := by
  refine Is.step (spec_Stranded.l0_is x0 x1 x7 x8 x9).mo (fun k => by rw [spec_Stranded.l0]) ?_
  · skip
    repeat' first
    | with_reducible exact spec_BestCommon.f_is _ _
    | with_reducible exact spec_Stranded.l0_is _ _ _ _ _
    | with_reducible exact Is.now _
    | with_reducible refine Is.ite ?_ ?_
    | with_reducible refine Is.bind ?_ (fun _ => ?_)
theorem spec_Stranded.fv_eq (l0 : List Int) (l1 : List (List Int)) (a2 : Int) : spec_Stranded.fv l0 l1 a2 = (spec_l12Without.fv l0 a2).bind fun t152 => (spec_Stranded.l0v l0 l1 (([] : List Int)) t152 0) := by
  refine Is.lim (g := fun k => spec_Stranded.f k l0 l1 a2) ?_
  · unfold spec_Stranded.f
    repeat' first
    | with_reducible exact spec_Stranded.l0_is _ _ _ _ _
    | with_reducible exact spec_l12Without.f_is _ _
    | with_reducible exact Is.now _
    | with_reducible refine Is.ite ?_ ?_
    | with_reducible refine Is.bind ?_ (fun _ => ?_)
end Go.Proofs.Ytdoefkloanpliaa.Print
