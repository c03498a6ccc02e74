/- Written by a program of this session (limx.py): the equations of what the printed functions come to. No condition. -/
import Derived.Test.YtdoefkloanpliaaBase
import Derived.Test.YtdoefkloanpliaaPrint1
namespace Go.Proofs.Ytdoefkloanpliaa.Print
open Go.RowKit Go.Proofs.YtdoefkloanpliaaW.PrintWords Go.Proofs.YtdoefkloanpliaaW.PrintLast Go.Proofs.Ytdoefkloanpliaa.Base
set_option linter.unusedVariables false
set_option maxRecDepth 20000
noncomputable def laws_szIntSS.l0v (x0 : List (List Int)) (x1 : Int) (x5 : Int) : Option (Int) := Lim fun k => laws_szIntSS.l0 k x0 x1 x5
noncomputable def laws_szIntSS.fv (l0 : List (List Int)) (a1 : Int) : Option (Int) := Lim fun k => laws_szIntSS.f k l0 a1
theorem laws_szIntSS.l0_is (x0 : List (List Int)) (x1 : Int) (x5 : Int) : Is (fun k => laws_szIntSS.l0 k x0 x1 x5) (laws_szIntSS.l0v x0 x1 x5) := ⟨fun k => (laws_szIntSS.mono_l k) x0 x1 x5, rfl⟩
theorem laws_szIntSS.f_is (l0 : List (List Int)) (a1 : Int) : Is (fun k => laws_szIntSS.f k l0 a1) (laws_szIntSS.fv l0 a1) := ⟨fun k => laws_szIntSS.mono l0 a1 k, rfl⟩
theorem laws_szIntSS.l0v_eq (x0 : List (List Int)) (x1 : Int) (x5 : Int) : laws_szIntSS.l0v x0 x1 x5 = if x5 < (x0.length : Int) then (if 0 ≤ x5 then ((laws_szIntS.f (rd_L1 x0 x5) x1).bind fun t102 => (if t102 < 0 then (some (-1)) else (laws_szIntSS.l0v x0 t102 (wrap64 (x5 + 1))))) else (none)) else (some x1) := by
  refine Is.step (laws_szIntSS.l0_is x0 x1 x5).mo (fun k => by rw [laws_szIntSS.l0]) ?_
  · skip
    repeat' first
    | with_reducible exact laws_szIntSS.l0_is _ _ _
    | with_reducible exact Is.now _
    | with_reducible refine Is.ite ?_ ?_
    | with_reducible refine Is.bind ?_ (fun _ => ?_)
theorem laws_szIntSS.fv_eq (l0 : List (List Int)) (a1 : Int) : laws_szIntSS.fv l0 a1 = if (wrap64 (a1 - (l0.length : Int))) < 0 then (some (-1)) else (laws_szIntSS.l0v l0 (wrap64 (a1 - (l0.length : Int))) 0) := by
  refine Is.lim (g := fun k => laws_szIntSS.f k l0 a1) ?_
  · unfold laws_szIntSS.f
    repeat' first
    | with_reducible exact laws_szIntSS.l0_is _ _ _
    | with_reducible exact Is.now _
    | with_reducible refine Is.ite ?_ ?_
    | with_reducible refine Is.bind ?_ (fun _ => ?_)
noncomputable def laws_toIntS.l0v (x0 : List Int) (x3 : List Int) (x4 : Int) : Option (List Int) := Lim fun k => laws_toIntS.l0 k x0 x3 x4
noncomputable def laws_toIntS.fv (l0 : List Int) : Option (List Int) := Lim fun k => laws_toIntS.f k l0
theorem laws_toIntS.l0_is (x0 : List Int) (x3 : List Int) (x4 : Int) : Is (fun k => laws_toIntS.l0 k x0 x3 x4) (laws_toIntS.l0v x0 x3 x4) := ⟨fun k => (laws_toIntS.mono_l k) x0 x3 x4, rfl⟩
theorem laws_toIntS.f_is (l0 : List Int) : Is (fun k => laws_toIntS.f k l0) (laws_toIntS.fv l0) := ⟨fun k => laws_toIntS.mono l0 k, rfl⟩
theorem laws_toIntS.l0v_eq (x0 : List Int) (x3 : List Int) (x4 : Int) : laws_toIntS.l0v x0 x3 x4 = if x4 < (x0.length : Int) then (if 0 ≤ x4 then (if x4 < (x3.length : Int) then (laws_toIntS.l0v x0 (x3.set (x4 : Int).toNat (rd x0 x4)) (wrap64 (x4 + 1))) else (none)) else (none)) else (some x3) := by
  refine Is.step (laws_toIntS.l0_is x0 x3 x4).mo (fun k => by rw [laws_toIntS.l0]) ?_
  · skip
    repeat' first
    | with_reducible exact laws_toIntS.l0_is _ _ _
    | with_reducible exact Is.now _
    | with_reducible refine Is.ite ?_ ?_
    | with_reducible refine Is.bind ?_ (fun _ => ?_)
theorem laws_toIntS.fv_eq (l0 : List Int) : laws_toIntS.fv l0 = if 0 ≤ (l0.length : Int) then (if ((l0.length : Int) : Int).toNat ≤ 35184372088832 then (laws_toIntS.l0v l0 (List.replicate ((l0.length : Int) : Int).toNat 0) 0) else (none)) else (none) := by
  refine Is.lim (g := fun k => laws_toIntS.f k l0) ?_
  · unfold laws_toIntS.f
    repeat' first
    | with_reducible exact laws_toIntS.l0_is _ _ _
    | with_reducible exact Is.now _
    | with_reducible refine Is.ite ?_ ?_
    | with_reducible refine Is.bind ?_ (fun _ => ?_)
noncomputable def laws_toIntSS.l0v (x0 : List (List Int)) (x3 : List (List Int)) (x4 : Int) : Option ((List (List Int))) := Lim fun k => laws_toIntSS.l0 k x0 x3 x4
noncomputable def laws_toIntSS.fv (l0 : List (List Int)) : Option ((List (List Int))) := Lim fun k => laws_toIntSS.f k l0
theorem laws_toIntSS.l0_is (x0 : List (List Int)) (x3 : List (List Int)) (x4 : Int) : Is (fun k => laws_toIntSS.l0 k x0 x3 x4) (laws_toIntSS.l0v x0 x3 x4) := ⟨fun k => (laws_toIntSS.mono_l k) x0 x3 x4, rfl⟩
theorem laws_toIntSS.f_is (l0 : List (List Int)) : Is (fun k => laws_toIntSS.f k l0) (laws_toIntSS.fv l0) := ⟨fun k => laws_toIntSS.mono l0 k, rfl⟩
theorem laws_toIntSS.l0v_eq (x0 : List (List Int)) (x3 : List (List Int)) (x4 : Int) : laws_toIntSS.l0v x0 x3 x4 = if x4 < (x0.length : Int) then (if 0 ≤ x4 then ((laws_toIntS.fv (rd_L1 x0 x4)).bind fun t112 => (if x4 < (x3.length : Int) then (laws_toIntSS.l0v x0 (x3.set (x4 : Int).toNat t112) (wrap64 (x4 + 1))) else (none))) else (none)) else (some x3) := by
  refine Is.step (laws_toIntSS.l0_is x0 x3 x4).mo (fun k => by rw [laws_toIntSS.l0]) ?_
  · skip
    repeat' first
    | with_reducible exact laws_toIntS.f_is _
    | with_reducible exact laws_toIntSS.l0_is _ _ _
    | with_reducible exact Is.now _
    | with_reducible refine Is.ite ?_ ?_
    | with_reducible refine Is.bind ?_ (fun _ => ?_)
theorem laws_toIntSS.fv_eq (l0 : List (List Int)) : laws_toIntSS.fv l0 = if 0 ≤ (l0.length : Int) then (if ((l0.length : Int) : Int).toNat ≤ 11728124029610 then (laws_toIntSS.l0v l0 (List.replicate ((l0.length : Int) : Int).toNat []) 0) else (none)) else (none) := by
  refine Is.lim (g := fun k => laws_toIntSS.f k l0) ?_
  · unfold laws_toIntSS.f
    repeat' first
    | with_reducible exact laws_toIntSS.l0_is _ _ _
    | with_reducible exact Is.now _
    | with_reducible refine Is.ite ?_ ?_
    | with_reducible refine Is.bind ?_ (fun _ => ?_)
noncomputable def laws_eqIntS.l0v (x0 : List Int) (x1 : List Int) (x5 : Int) : Option (Bool) := Lim fun k => laws_eqIntS.l0 k x0 x1 x5
noncomputable def laws_eqIntS.fv (l0 : List Int) (l1 : List Int) : Option (Bool) := Lim fun k => laws_eqIntS.f k l0 l1
theorem laws_eqIntS.l0_is (x0 : List Int) (x1 : List Int) (x5 : Int) : Is (fun k => laws_eqIntS.l0 k x0 x1 x5) (laws_eqIntS.l0v x0 x1 x5) := ⟨fun k => (laws_eqIntS.mono_l k) x0 x1 x5, rfl⟩
theorem laws_eqIntS.f_is (l0 : List Int) (l1 : List Int) : Is (fun k => laws_eqIntS.f k l0 l1) (laws_eqIntS.fv l0 l1) := ⟨fun k => laws_eqIntS.mono l0 l1 k, rfl⟩
theorem laws_eqIntS.l0v_eq (x0 : List Int) (x1 : List Int) (x5 : Int) : laws_eqIntS.l0v x0 x1 x5 = if x5 < (x0.length : Int) then (if 0 ≤ x5 then (if x5 < (x1.length : Int) then (if (rd x0 x5) = (rd x1 x5) then (laws_eqIntS.l0v x0 x1 (wrap64 (x5 + 1))) else (some false)) else (none)) else (none)) else (some true) := by
  refine Is.step (laws_eqIntS.l0_is x0 x1 x5).mo (fun k => by rw [laws_eqIntS.l0]) ?_
  · skip
    repeat' first
    | with_reducible exact laws_eqIntS.l0_is _ _ _
    | with_reducible exact Is.now _
    | with_reducible refine Is.ite ?_ ?_
    | with_reducible refine Is.bind ?_ (fun _ => ?_)
theorem laws_eqIntS.fv_eq (l0 : List Int) (l1 : List Int) : laws_eqIntS.fv l0 l1 = if (l0.length : Int) = (l1.length : Int) then (laws_eqIntS.l0v l0 l1 0) else (some false) := by
  refine Is.lim (g := fun k => laws_eqIntS.f k l0 l1) ?_
  · unfold laws_eqIntS.f
    repeat' first
    | with_reducible exact laws_eqIntS.l0_is _ _ _
    | with_reducible exact Is.now _
    | with_reducible refine Is.ite ?_ ?_
    | with_reducible refine Is.bind ?_ (fun _ => ?_)
noncomputable def laws_eqIntSS.l0v (x0 : List (List Int)) (x1 : List (List Int)) (x5 : Int) : Option (Bool) := Lim fun k => laws_eqIntSS.l0 k x0 x1 x5
noncomputable def laws_eqIntSS.fv (l0 : List (List Int)) (l1 : List (List Int)) : Option (Bool) := Lim fun k => laws_eqIntSS.f k l0 l1
theorem laws_eqIntSS.l0_is (x0 : List (List Int)) (x1 : List (List Int)) (x5 : Int) : Is (fun k => laws_eqIntSS.l0 k x0 x1 x5) (laws_eqIntSS.l0v x0 x1 x5) := ⟨fun k => (laws_eqIntSS.mono_l k) x0 x1 x5, rfl⟩
theorem laws_eqIntSS.f_is (l0 : List (List Int)) (l1 : List (List Int)) : Is (fun k => laws_eqIntSS.f k l0 l1) (laws_eqIntSS.fv l0 l1) := ⟨fun k => laws_eqIntSS.mono l0 l1 k, rfl⟩
theorem laws_eqIntSS.l0v_eq (x0 : List (List Int)) (x1 : List (List Int)) (x5 : Int) : laws_eqIntSS.l0v x0 x1 x5 = if x5 < (x0.length : Int) then (if 0 ≤ x5 then (if x5 < (x1.length : Int) then ((laws_eqIntS.fv (rd_L1 x0 x5) (rd_L1 x1 x5)).bind fun t120 => (if t120 = true then (laws_eqIntSS.l0v x0 x1 (wrap64 (x5 + 1))) else (some false))) else (none)) else (none)) else (some true) := by
  refine Is.step (laws_eqIntSS.l0_is x0 x1 x5).mo (fun k => by rw [laws_eqIntSS.l0]) ?_
  · skip
    repeat' first
    | with_reducible exact laws_eqIntS.f_is _ _
    | with_reducible exact laws_eqIntSS.l0_is _ _ _
    | with_reducible exact Is.now _
    | with_reducible refine Is.ite ?_ ?_
    | with_reducible refine Is.bind ?_ (fun _ => ?_)
theorem laws_eqIntSS.fv_eq (l0 : List (List Int)) (l1 : List (List Int)) : laws_eqIntSS.fv l0 l1 = if (l0.length : Int) = (l1.length : Int) then (laws_eqIntSS.l0v l0 l1 0) else (some false) := by
  refine Is.lim (g := fun k => laws_eqIntSS.f k l0 l1) ?_
  · unfold laws_eqIntSS.f
    repeat' first
    | with_reducible exact laws_eqIntSS.l0_is _ _ _
    | with_reducible exact Is.now _
    | with_reducible refine Is.ite ?_ ?_
    | with_reducible refine Is.bind ?_ (fun _ => ?_)
end Go.Proofs.Ytdoefkloanpliaa.Print
