/- Written by a program of this session (limx.py): the equations of what the printed functions come to. No condition. -/
import Derived.Test.YtdoefkloanpliaaBase
import Derived.Test.YtdoefkloanpliaaPrint2
namespace Go.Proofs.Ytdoefkloanpliaa.Print
open Go.RowKit Go.Proofs.YtdoefkloanpliaaW.PrintWords Go.Proofs.YtdoefkloanpliaaW.PrintLast Go.Proofs.Ytdoefkloanpliaa.Base
set_option linter.unusedVariables false
set_option maxRecDepth 20000
noncomputable def laws_eqIntS.l0v (x0 : List Int) (x1 : List Int) (x5 : Int) : Option (Bool) := Lim fun k => laws_eqIntS.l0 k x0 x1 x5
noncomputable def laws_eqIntS.fv (l0 : List Int) (l1 : List Int) : Option (Bool) := Lim fun k => laws_eqIntS.f k l0 l1
theorem laws_eqIntS.l0_is (x0 : List Int) (x1 : List Int) (x5 : Int) : Is (fun k => laws_eqIntS.l0 k x0 x1 x5) (laws_eqIntS.l0v x0 x1 x5) := ⟨fun k => (laws_eqIntS.mono_l k) x0 x1 x5, rfl⟩
theorem laws_eqIntS.f_is (l0 : List Int) (l1 : List Int) : Is (fun k => laws_eqIntS.f k l0 l1) (laws_eqIntS.fv l0 l1) := ⟨fun k => laws_eqIntS.mono l0 l1 k, rfl⟩
theorem laws_eqIntS.l0v_eq (x0 : List Int) (x1 : List Int) (x5 : Int) : laws_eqIntS.l0v x0 x1 x5 = if x5 < (x0.length : Int) then (if 0 ≤ x5 then (if x5 < (x1.length : Int) then (if (rd x0 x5) = (rd x1 x5) then (laws_eqIntS.l0v x0 x1 (wrap64 (x5 + 1))) else (some false)) else (none)) else (none)) else (some true) := by
  refine Is.step (laws_eqIntS.l0_is x0 x1 x5).mo (fun k => by rw [laws_eqIntS.l0]) ?_
  · skip
    repeat' first
    | with_reducible exact laws_eqIntS.l0_is _ _ _
    | with_reducible exact Is.now _
    | with_reducible refine Is.ite ?_ ?_
    | with_reducible refine Is.bind ?_ (fun _ => ?_)
theorem laws_eqIntS.fv_eq (l0 : List Int) (l1 : List Int) : laws_eqIntS.fv l0 l1 = if (l0.length : Int) = (l1.length : Int) then (laws_eqIntS.l0v l0 l1 0) else (some false) := by
  refine Is.lim (g := fun k => laws_eqIntS.f k l0 l1) ?_
  · unfold laws_eqIntS.f
    repeat' first
    | with_reducible exact laws_eqIntS.l0_is _ _ _
    | with_reducible exact Is.now _
    | with_reducible refine Is.ite ?_ ?_
    | with_reducible refine Is.bind ?_ (fun _ => ?_)
noncomputable def laws_eqBox.fv (a0_0 : Int) (l0_1 : List Int) (l0_2 : List Int) (a0_3 : Bool) (a1_0 : Int) (l1_1 : List Int) (l1_2 : List Int) (a1_3 : Bool) : Option (Bool) := Lim fun k => laws_eqBox.f k a0_0 l0_1 l0_2 a0_3 a1_0 l1_1 l1_2 a1_3
theorem laws_eqBox.f_is (a0_0 : Int) (l0_1 : List Int) (l0_2 : List Int) (a0_3 : Bool) (a1_0 : Int) (l1_1 : List Int) (l1_2 : List Int) (a1_3 : Bool) : Is (fun k => laws_eqBox.f k a0_0 l0_1 l0_2 a0_3 a1_0 l1_1 l1_2 a1_3) (laws_eqBox.fv a0_0 l0_1 l0_2 a0_3 a1_0 l1_1 l1_2 a1_3) := ⟨fun k => laws_eqBox.mono a0_0 l0_1 l0_2 a0_3 a1_0 l1_1 l1_2 a1_3 k, rfl⟩
theorem laws_eqBox.fv_eq (a0_0 : Int) (l0_1 : List Int) (l0_2 : List Int) (a0_3 : Bool) (a1_0 : Int) (l1_1 : List Int) (l1_2 : List Int) (a1_3 : Bool) : laws_eqBox.fv a0_0 l0_1 l0_2 a0_3 a1_0 l1_1 l1_2 a1_3 = if a0_0 = a1_0 then ((laws_eqIntS.fv l0_1 l1_1).bind fun t153 => (if t153 = true then ((laws_eqIntS.fv l0_2 l1_2).bind fun t154 => (if t154 = true then (if (a0_3 != a1_3) = true then (some false) else (some true)) else (some false))) else (some false))) else (some false) := by
  refine Is.lim (g := fun k => laws_eqBox.f k a0_0 l0_1 l0_2 a0_3 a1_0 l1_1 l1_2 a1_3) ?_
  · unfold laws_eqBox.f
    repeat' first
    | with_reducible exact laws_eqIntS.f_is _ _
    | with_reducible exact Is.now _
    | with_reducible refine Is.ite ?_ ?_
    | with_reducible refine Is.bind ?_ (fun _ => ?_)
noncomputable def laws_eqBoxS.l0v (x0 : List (S67)) (x1 : List (S67)) (x5 : Int) : Option (Bool) := Lim fun k => laws_eqBoxS.l0 k x0 x1 x5
noncomputable def laws_eqBoxS.fv (l0 : List (S67)) (l1 : List (S67)) : Option (Bool) := Lim fun k => laws_eqBoxS.f k l0 l1
theorem laws_eqBoxS.l0_is (x0 : List (S67)) (x1 : List (S67)) (x5 : Int) : Is (fun k => laws_eqBoxS.l0 k x0 x1 x5) (laws_eqBoxS.l0v x0 x1 x5) := ⟨fun k => (laws_eqBoxS.mono_l k) x0 x1 x5, rfl⟩
theorem laws_eqBoxS.f_is (l0 : List (S67)) (l1 : List (S67)) : Is (fun k => laws_eqBoxS.f k l0 l1) (laws_eqBoxS.fv l0 l1) := ⟨fun k => laws_eqBoxS.mono l0 l1 k, rfl⟩
theorem laws_eqBoxS.l0v_eq (x0 : List (S67)) (x1 : List (S67)) (x5 : Int) : laws_eqBoxS.l0v x0 x1 x5 = if x5 < (x0.length : Int) then (if 0 ≤ x5 then (if x5 < (x1.length : Int) then ((laws_eqBox.fv ((rd_T67 x0 x5).f0) ((rd_T67 x0 x5).f1) ((rd_T67 x0 x5).f2) ((rd_T67 x0 x5).f3) ((rd_T67 x1 x5).f0) ((rd_T67 x1 x5).f1) ((rd_T67 x1 x5).f2) ((rd_T67 x1 x5).f3)).bind fun t157 => (if t157 = true then (laws_eqBoxS.l0v x0 x1 (wrap64 (x5 + 1))) else (some false))) else (none)) else (none)) else (some true) := by
  refine Is.step (laws_eqBoxS.l0_is x0 x1 x5).mo (fun k => by rw [laws_eqBoxS.l0]) ?_
  · skip
    repeat' first
    | with_reducible exact laws_eqBox.f_is _ _ _ _ _ _ _ _
    | with_reducible exact laws_eqBoxS.l0_is _ _ _
    | with_reducible exact Is.now _
    | with_reducible refine Is.ite ?_ ?_
    | with_reducible refine Is.bind ?_ (fun _ => ?_)
theorem laws_eqBoxS.fv_eq (l0 : List (S67)) (l1 : List (S67)) : laws_eqBoxS.fv l0 l1 = if (l0.length : Int) = (l1.length : Int) then (laws_eqBoxS.l0v l0 l1 0) else (some false) := by
  refine Is.lim (g := fun k => laws_eqBoxS.f k l0 l1) ?_
  · unfold laws_eqBoxS.f
    repeat' first
    | with_reducible exact laws_eqBoxS.l0_is _ _ _
    | with_reducible exact Is.now _
    | with_reducible refine Is.ite ?_ ?_
    | with_reducible refine Is.bind ?_ (fun _ => ?_)
noncomputable def laws_eqEndpoint.fv (l0_0 : List Int) (l0_1 : List Int) (l0_2 : List (S67)) (a0_3 : Int) (l1_0 : List Int) (l1_1 : List Int) (l1_2 : List (S67)) (a1_3 : Int) : Option (Bool) := Lim fun k => laws_eqEndpoint.f k l0_0 l0_1 l0_2 a0_3 l1_0 l1_1 l1_2 a1_3
theorem laws_eqEndpoint.f_is (l0_0 : List Int) (l0_1 : List Int) (l0_2 : List (S67)) (a0_3 : Int) (l1_0 : List Int) (l1_1 : List Int) (l1_2 : List (S67)) (a1_3 : Int) : Is (fun k => laws_eqEndpoint.f k l0_0 l0_1 l0_2 a0_3 l1_0 l1_1 l1_2 a1_3) (laws_eqEndpoint.fv l0_0 l0_1 l0_2 a0_3 l1_0 l1_1 l1_2 a1_3) := ⟨fun k => laws_eqEndpoint.mono l0_0 l0_1 l0_2 a0_3 l1_0 l1_1 l1_2 a1_3 k, rfl⟩
theorem laws_eqEndpoint.fv_eq (l0_0 : List Int) (l0_1 : List Int) (l0_2 : List (S67)) (a0_3 : Int) (l1_0 : List Int) (l1_1 : List Int) (l1_2 : List (S67)) (a1_3 : Int) : laws_eqEndpoint.fv l0_0 l0_1 l0_2 a0_3 l1_0 l1_1 l1_2 a1_3 = (laws_eqIntS.fv l0_0 l1_0).bind fun t160 => (if t160 = true then ((laws_eqIntS.fv l0_1 l1_1).bind fun t161 => (if t161 = true then ((laws_eqBoxS.fv l0_2 l1_2).bind fun t162 => (if t162 = true then (if a0_3 = a1_3 then (some true) else (some false)) else (some false))) else (some false))) else (some false)) := by
  refine Is.lim (g := fun k => laws_eqEndpoint.f k l0_0 l0_1 l0_2 a0_3 l1_0 l1_1 l1_2 a1_3) ?_
  · unfold laws_eqEndpoint.f
    repeat' first
    | with_reducible exact laws_eqBoxS.f_is _ _
    | with_reducible exact laws_eqIntS.f_is _ _
    | with_reducible exact Is.now _
    | with_reducible refine Is.ite ?_ ?_
    | with_reducible refine Is.bind ?_ (fun _ => ?_)
end Go.Proofs.Ytdoefkloanpliaa.Print
