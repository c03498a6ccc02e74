/- Written by a program of this session (limx.py): the equations of what the printed functions come to. No condition. -/
import Derived.Test.YtdoefkloanpliaaBase
import Derived.Test.YtdoefkloanpliaaPrint1
namespace Go.Proofs.Ytdoefkloanpliaa.Print
open Go.RowKit Go.Proofs.YtdoefkloanpliaaW.PrintWords Go.Proofs.YtdoefkloanpliaaW.PrintLast Go.Proofs.Ytdoefkloanpliaa.Base
set_option linter.unusedVariables false
set_option maxRecDepth 20000
noncomputable def laws_szIntSS.l0v (x0 : List (List Int)) (x1 : Int) (x5 : Int) : Option (Int) := Lim fun k => laws_szIntSS.l0 k x0 x1 x5
noncomputable def laws_szIntSS.fv (l0 : List (List Int)) (a1 : Int) : Option (Int) := Lim fun k => laws_szIntSS.f k l0 a1
theorem laws_szIntSS.l0_is (x0 : List (List Int)) (x1 : Int) (x5 : Int) : Is (fun k => laws_szIntSS.l0 k x0 x1 x5) (laws_szIntSS.l0v x0 x1 x5) := ⟨fun k => (laws_szIntSS.mono_l k) x0 x1 x5, rfl⟩
theorem laws_szIntSS.f_is (l0 : List (List Int)) (a1 : Int) : Is (fun k => laws_szIntSS.f k l0 a1) (laws_szIntSS.fv l0 a1) := ⟨fun k => laws_szIntSS.mono l0 a1 k, rfl⟩
theorem laws_szIntSS.l0v_eq (x0 : List (List Int)) (x1 : Int) (x5 : Int) : laws_szIntSS.l0v x0 x1 x5 = if x5 < (x0.length : Int) then (if 0 ≤ x5 then ((laws_szIntS.f (rd_L1 x0 x5) x1).bind fun t102 => (if t102 < 0 then (some (-1)) else (laws_szIntSS.l0v x0 t102 (wrap64 (x5 + 1))))) else (none)) else (some x1) := by
  refine Is.step (laws_szIntSS.l0_is x0 x1 x5).mo (fun k => by rw [laws_szIntSS.l0]) ?_
  · skip
    repeat' first
    | with_reducible exact laws_szIntSS.l0_is _ _ _
    | with_reducible exact Is.now _
    | with_reducible refine Is.ite ?_ ?_
    | with_reducible refine Is.bind ?_ (fun _ => ?_)
theorem laws_szIntSS.fv_eq (l0 : List (List Int)) (a1 : Int) : laws_szIntSS.fv l0 a1 = if (wrap64 (a1 - (l0.length : Int))) < 0 then (some (-1)) else (laws_szIntSS.l0v l0 (wrap64 (a1 - (l0.length : Int))) 0) := by
  refine Is.lim (g := fun k => laws_szIntSS.f k l0 a1) ?_
  · unfold laws_szIntSS.f
    repeat' first
    | with_reducible exact laws_szIntSS.l0_is _ _ _
    | with_reducible exact Is.now _
    | with_reducible refine Is.ite ?_ ?_
    | with_reducible refine Is.bind ?_ (fun _ => ?_)
noncomputable def spec_AreVersions.l0v (x0 : List Int) (x3 : Int) : Option (Bool) := Lim fun k => spec_AreVersions.l0 k x0 x3
noncomputable def spec_AreVersions.fv (l0 : List Int) : Option (Bool) := Lim fun k => spec_AreVersions.f k l0
theorem spec_AreVersions.l0_is (x0 : List Int) (x3 : Int) : Is (fun k => spec_AreVersions.l0 k x0 x3) (spec_AreVersions.l0v x0 x3) := ⟨fun k => (spec_AreVersions.mono_l k) x0 x3, rfl⟩
theorem spec_AreVersions.f_is (l0 : List Int) : Is (fun k => spec_AreVersions.f k l0) (spec_AreVersions.fv l0) := ⟨fun k => spec_AreVersions.mono l0 k, rfl⟩
theorem spec_AreVersions.l0v_eq (x0 : List Int) (x3 : Int) : spec_AreVersions.l0v x0 x3 = if x3 < (x0.length : Int) then (if 0 ≤ x3 then ((spec_l1In.f (rd x0 x3) 1 9).bind fun t104 => (if t104 = true then (if x3 > 0 then (if 0 ≤ (wrap64 (x3 - 1)) then (if (wrap64 (x3 - 1)) < (x0.length : Int) then (if (rd x0 (wrap64 (x3 - 1))) ≥ (rd x0 x3) then (some false) else (spec_AreVersions.l0v x0 (wrap64 (x3 + 1)))) else (none)) else (none)) else (spec_AreVersions.l0v x0 (wrap64 (x3 + 1)))) else (some false))) else (none)) else (some (decide ((x0.length : Int) > 0))) := by
  refine Is.step (spec_AreVersions.l0_is x0 x3).mo (fun k => by rw [spec_AreVersions.l0]) ?_
  · skip
    repeat' first
    | with_reducible exact spec_AreVersions.l0_is _ _
    | with_reducible exact Is.now _
    | with_reducible refine Is.ite ?_ ?_
    | with_reducible refine Is.bind ?_ (fun _ => ?_)
theorem spec_AreVersions.fv_eq (l0 : List Int) : spec_AreVersions.fv l0 = spec_AreVersions.l0v l0 0 := by
  refine Is.lim (g := fun k => spec_AreVersions.f k l0) ?_
  · unfold spec_AreVersions.f
    repeat' first
    | with_reducible exact spec_AreVersions.l0_is _ _
    | with_reducible exact Is.now _
    | with_reducible refine Is.ite ?_ ?_
    | with_reducible refine Is.bind ?_ (fun _ => ?_)
noncomputable def spec_l9Has.l0v (x0 : List Int) (x1 : Int) (x5 : Int) : Option (Bool) := Lim fun k => spec_l9Has.l0 k x0 x1 x5
noncomputable def spec_l9Has.fv (l0 : List Int) (a1 : Int) : Option (Bool) := Lim fun k => spec_l9Has.f k l0 a1
theorem spec_l9Has.l0_is (x0 : List Int) (x1 : Int) (x5 : Int) : Is (fun k => spec_l9Has.l0 k x0 x1 x5) (spec_l9Has.l0v x0 x1 x5) := ⟨fun k => (spec_l9Has.mono_l k) x0 x1 x5, rfl⟩
theorem spec_l9Has.f_is (l0 : List Int) (a1 : Int) : Is (fun k => spec_l9Has.f k l0 a1) (spec_l9Has.fv l0 a1) := ⟨fun k => spec_l9Has.mono l0 a1 k, rfl⟩
theorem spec_l9Has.l0v_eq (x0 : List Int) (x1 : Int) (x5 : Int) : spec_l9Has.l0v x0 x1 x5 = if x5 < (x0.length : Int) then (if 0 ≤ x5 then (if (rd x0 x5) = x1 then (some true) else (spec_l9Has.l0v x0 x1 (wrap64 (x5 + 1)))) else (none)) else (some false) := by
  refine Is.step (spec_l9Has.l0_is x0 x1 x5).mo (fun k => by rw [spec_l9Has.l0]) ?_
  · skip
    repeat' first
    | with_reducible exact spec_l9Has.l0_is _ _ _
    | with_reducible exact Is.now _
    | with_reducible refine Is.ite ?_ ?_
    | with_reducible refine Is.bind ?_ (fun _ => ?_)
theorem spec_l9Has.fv_eq (l0 : List Int) (a1 : Int) : spec_l9Has.fv l0 a1 = spec_l9Has.l0v l0 a1 0 := by
  refine Is.lim (g := fun k => spec_l9Has.f k l0 a1) ?_
  · unfold spec_l9Has.f
    repeat' first
    | with_reducible exact spec_l9Has.l0_is _ _ _
    | with_reducible exact Is.now _
    | with_reducible refine Is.ite ?_ ?_
    | with_reducible refine Is.bind ?_ (fun _ => ?_)
noncomputable def spec_CommonOf.l0v (x0 : List Int) (x1 : List Int) (x5 : List Int) (x6 : Int) : Option (List Int) := Lim fun k => spec_CommonOf.l0 k x0 x1 x5 x6
noncomputable def spec_CommonOf.fv (l0 : List Int) (l1 : List Int) : Option (List Int) := Lim fun k => spec_CommonOf.f k l0 l1
theorem spec_CommonOf.l0_is (x0 : List Int) (x1 : List Int) (x5 : List Int) (x6 : Int) : Is (fun k => spec_CommonOf.l0 k x0 x1 x5 x6) (spec_CommonOf.l0v x0 x1 x5 x6) := ⟨fun k => (spec_CommonOf.mono_l k) x0 x1 x5 x6, rfl⟩
theorem spec_CommonOf.f_is (l0 : List Int) (l1 : List Int) : Is (fun k => spec_CommonOf.f k l0 l1) (spec_CommonOf.fv l0 l1) := ⟨fun k => spec_CommonOf.mono l0 l1 k, rfl⟩
theorem spec_CommonOf.l0v_eq (x0 : List Int) (x1 : List Int) (x5 : List Int) (x6 : Int) : spec_CommonOf.l0v x0 x1 x5 x6 = if x6 < (x0.length : Int) then (if 0 ≤ x6 then ((spec_l9Has.fv x1 (rd x0 x6)).bind fun t112 => (if t112 = true then (if x5.length < 17592186044416 then (spec_CommonOf.l0v x0 x1 (x5 ++ [rd x0 x6]) (wrap64 (x6 + 1))) else (none)) else (spec_CommonOf.l0v x0 x1 x5 (wrap64 (x6 + 1))))) else (none)) else (some x5) := by
  refine Is.step (spec_CommonOf.l0_is x0 x1 x5 x6).mo (fun k => by rw [spec_CommonOf.l0]) ?_
  · skip
    repeat' first
    | with_reducible exact spec_CommonOf.l0_is _ _ _ _
    | with_reducible exact spec_l9Has.f_is _ _
    | with_reducible exact Is.now _
    | with_reducible refine Is.ite ?_ ?_
    | with_reducible refine Is.bind ?_ (fun _ => ?_)
theorem spec_CommonOf.fv_eq (l0 : List Int) (l1 : List Int) : spec_CommonOf.fv l0 l1 = spec_CommonOf.l0v l0 l1 (([] : List Int)) 0 := by
  refine Is.lim (g := fun k => spec_CommonOf.f k l0 l1) ?_
  · unfold spec_CommonOf.f
    repeat' first
    | with_reducible exact spec_CommonOf.l0_is _ _ _ _
    | with_reducible exact Is.now _
    | with_reducible refine Is.ite ?_ ?_
    | with_reducible refine Is.bind ?_ (fun _ => ?_)
noncomputable def spec_BestCommon.fv (l0 : List Int) (l1 : List Int) : Option (Int) := Lim fun k => spec_BestCommon.f k l0 l1
theorem spec_BestCommon.f_is (l0 : List Int) (l1 : List Int) : Is (fun k => spec_BestCommon.f k l0 l1) (spec_BestCommon.fv l0 l1) := ⟨fun k => spec_BestCommon.mono l0 l1 k, rfl⟩
theorem spec_BestCommon.fv_eq (l0 : List Int) (l1 : List Int) : spec_BestCommon.fv l0 l1 = (spec_CommonOf.fv l0 l1).bind fun t117 => ((spec_AreVersions.fv l0).bind fun t120 => (if t120 = true then ((spec_AreVersions.fv l1).bind fun t121 => (if t121 = true then (if (t117.length : Int) = 0 then (some 0) else (if 0 ≤ (wrap64 ((t117.length : Int) - 1)) then (if (wrap64 ((t117.length : Int) - 1)) < (t117.length : Int) then (some (rd t117 (wrap64 ((t117.length : Int) - 1)))) else (none)) else (none))) else (some 0))) else (some 0))) := by
  refine Is.lim (g := fun k => spec_BestCommon.f k l0 l1) ?_
  · unfold spec_BestCommon.f
    repeat' first
    | with_reducible exact spec_AreVersions.f_is _
    | with_reducible exact spec_CommonOf.f_is _ _
    | with_reducible exact Is.now _
    | with_reducible refine Is.ite ?_ ?_
    | with_reducible refine Is.bind ?_ (fun _ => ?_)
end Go.Proofs.Ytdoefkloanpliaa.Print
