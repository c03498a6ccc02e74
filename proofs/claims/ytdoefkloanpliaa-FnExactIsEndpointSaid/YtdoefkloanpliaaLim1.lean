/- Written by a program of this session (limx.py): the equations of what the printed functions come to. No condition. -/
import Derived.Test.YtdoefkloanpliaaBase
import Derived.Test.YtdoefkloanpliaaPrint1
namespace Go.Proofs.Ytdoefkloanpliaa.Print
open Go.RowKit Go.Proofs.YtdoefkloanpliaaW.PrintWords Go.Proofs.YtdoefkloanpliaaW.PrintLast Go.Proofs.Ytdoefkloanpliaa.Base
set_option linter.unusedVariables false
set_option maxRecDepth 20000
noncomputable def laws_szBoxS.l0v (x0 : List (S64)) (x1 : Int) (x5 : Int) : Option (Int) := Lim fun k => laws_szBoxS.l0 k x0 x1 x5
noncomputable def laws_szBoxS.fv (l0 : List (S64)) (a1 : Int) : Option (Int) := Lim fun k => laws_szBoxS.f k l0 a1
theorem laws_szBoxS.l0_is (x0 : List (S64)) (x1 : Int) (x5 : Int) : Is (fun k => laws_szBoxS.l0 k x0 x1 x5) (laws_szBoxS.l0v x0 x1 x5) := ⟨fun k => (laws_szBoxS.mono_l k) x0 x1 x5, rfl⟩
theorem laws_szBoxS.f_is (l0 : List (S64)) (a1 : Int) : Is (fun k => laws_szBoxS.f k l0 a1) (laws_szBoxS.fv l0 a1) := ⟨fun k => laws_szBoxS.mono l0 a1 k, rfl⟩
theorem laws_szBoxS.l0v_eq (x0 : List (S64)) (x1 : Int) (x5 : Int) : laws_szBoxS.l0v x0 x1 x5 = if x5 < (x0.length : Int) then (if 0 ≤ x5 then ((laws_szBox.f ((rd_T64 x0 x5).f0) ((rd_T64 x0 x5).f1) ((rd_T64 x0 x5).f2) ((rd_T64 x0 x5).f3) x1).bind fun t105 => (if t105 < 0 then (some (-1)) else (laws_szBoxS.l0v x0 t105 (wrap64 (x5 + 1))))) else (none)) else (some x1) := by
  refine Is.step (laws_szBoxS.l0_is x0 x1 x5).mo (fun k => by rw [laws_szBoxS.l0]) ?_
  · skip
    repeat' first
    | with_reducible exact laws_szBoxS.l0_is _ _ _
    | with_reducible exact Is.now _
    | with_reducible refine Is.ite ?_ ?_
    | with_reducible refine Is.bind ?_ (fun _ => ?_)
theorem laws_szBoxS.fv_eq (l0 : List (S64)) (a1 : Int) : laws_szBoxS.fv l0 a1 = if (wrap64 (a1 - (l0.length : Int))) < 0 then (some (-1)) else (laws_szBoxS.l0v l0 (wrap64 (a1 - (l0.length : Int))) 0) := by
  refine Is.lim (g := fun k => laws_szBoxS.f k l0 a1) ?_
  · unfold laws_szBoxS.f
    repeat' first
    | with_reducible exact laws_szBoxS.l0_is _ _ _
    | with_reducible exact Is.now _
    | with_reducible refine Is.ite ?_ ?_
    | with_reducible refine Is.bind ?_ (fun _ => ?_)
noncomputable def laws_szEndpoint.fv (l0_0 : List Int) (l0_1 : List Int) (l0_2 : List (S64)) (a0_3 : Int) (a1 : Int) : Option (Int) := Lim fun k => laws_szEndpoint.f k l0_0 l0_1 l0_2 a0_3 a1
theorem laws_szEndpoint.f_is (l0_0 : List Int) (l0_1 : List Int) (l0_2 : List (S64)) (a0_3 : Int) (a1 : Int) : Is (fun k => laws_szEndpoint.f k l0_0 l0_1 l0_2 a0_3 a1) (laws_szEndpoint.fv l0_0 l0_1 l0_2 a0_3 a1) := ⟨fun k => laws_szEndpoint.mono l0_0 l0_1 l0_2 a0_3 a1 k, rfl⟩
theorem laws_szEndpoint.fv_eq (l0_0 : List Int) (l0_1 : List Int) (l0_2 : List (S64)) (a0_3 : Int) (a1 : Int) : laws_szEndpoint.fv l0_0 l0_1 l0_2 a0_3 a1 = (laws_szIntS.f l0_0 a1).bind fun t107 => (if t107 < 0 then (some (-1)) else ((laws_szIntS.f l0_1 t107).bind fun t108 => (if t108 < 0 then (some (-1)) else ((laws_szBoxS.fv l0_2 t108).bind fun t109 => (if t109 < 0 then (some (-1)) else (some t109)))))) := by
  refine Is.lim (g := fun k => laws_szEndpoint.f k l0_0 l0_1 l0_2 a0_3 a1) ?_
  · unfold laws_szEndpoint.f
    repeat' first
    | with_reducible exact laws_szBoxS.f_is _ _
    | with_reducible exact Is.now _
    | with_reducible refine Is.ite ?_ ?_
    | with_reducible refine Is.bind ?_ (fun _ => ?_)
noncomputable def laws_toIntS.l0v (x0 : List Int) (x3 : List Int) (x4 : Int) : Option (List Int) := Lim fun k => laws_toIntS.l0 k x0 x3 x4
noncomputable def laws_toIntS.fv (l0 : List Int) : Option (List Int) := Lim fun k => laws_toIntS.f k l0
theorem laws_toIntS.l0_is (x0 : List Int) (x3 : List Int) (x4 : Int) : Is (fun k => laws_toIntS.l0 k x0 x3 x4) (laws_toIntS.l0v x0 x3 x4) := ⟨fun k => (laws_toIntS.mono_l k) x0 x3 x4, rfl⟩
theorem laws_toIntS.f_is (l0 : List Int) : Is (fun k => laws_toIntS.f k l0) (laws_toIntS.fv l0) := ⟨fun k => laws_toIntS.mono l0 k, rfl⟩
theorem laws_toIntS.l0v_eq (x0 : List Int) (x3 : List Int) (x4 : Int) : laws_toIntS.l0v x0 x3 x4 = if x4 < (x0.length : Int) then (if 0 ≤ x4 then (if x4 < (x3.length : Int) then (laws_toIntS.l0v x0 (x3.set (x4 : Int).toNat (rd x0 x4)) (wrap64 (x4 + 1))) else (none)) else (none)) else (some x3) := by
  refine Is.step (laws_toIntS.l0_is x0 x3 x4).mo (fun k => by rw [laws_toIntS.l0]) ?_
  · skip
    repeat' first
    | with_reducible exact laws_toIntS.l0_is _ _ _
    | with_reducible exact Is.now _
    | with_reducible refine Is.ite ?_ ?_
    | with_reducible refine Is.bind ?_ (fun _ => ?_)
theorem laws_toIntS.fv_eq (l0 : List Int) : laws_toIntS.fv l0 = if 0 ≤ (l0.length : Int) then (if ((l0.length : Int) : Int).toNat ≤ 35184372088832 then (laws_toIntS.l0v l0 (List.replicate ((l0.length : Int) : Int).toNat 0) 0) else (none)) else (none) := by
  refine Is.lim (g := fun k => laws_toIntS.f k l0) ?_
  · unfold laws_toIntS.f
    repeat' first
    | with_reducible exact laws_toIntS.l0_is _ _ _
    | with_reducible exact Is.now _
    | with_reducible refine Is.ite ?_ ?_
    | with_reducible refine Is.bind ?_ (fun _ => ?_)
noncomputable def laws_toBox.fv (a0_0 : Int) (l0_1 : List Int) (l0_2 : List Int) (a0_3 : Bool) : Option (Int × List Int × List Int × Bool) := Lim fun k => laws_toBox.f k a0_0 l0_1 l0_2 a0_3
theorem laws_toBox.f_is (a0_0 : Int) (l0_1 : List Int) (l0_2 : List Int) (a0_3 : Bool) : Is (fun k => laws_toBox.f k a0_0 l0_1 l0_2 a0_3) (laws_toBox.fv a0_0 l0_1 l0_2 a0_3) := ⟨fun k => laws_toBox.mono a0_0 l0_1 l0_2 a0_3 k, rfl⟩
theorem laws_toBox.fv_eq (a0_0 : Int) (l0_1 : List Int) (l0_2 : List Int) (a0_3 : Bool) : laws_toBox.fv a0_0 l0_1 l0_2 a0_3 = (laws_toIntS.fv l0_1).bind fun t118 => ((laws_toIntS.fv l0_2).bind fun t121 => (some (a0_0, t118, t121, a0_3))) := by
  refine Is.lim (g := fun k => laws_toBox.f k a0_0 l0_1 l0_2 a0_3) ?_
  · unfold laws_toBox.f
    repeat' first
    | with_reducible exact laws_toIntS.f_is _
    | with_reducible exact Is.now _
    | with_reducible refine Is.ite ?_ ?_
    | with_reducible refine Is.bind ?_ (fun _ => ?_)
noncomputable def laws_toBoxS.l0v (x0 : List (S64)) (x3 : List (S67)) (x4 : Int) : Option ((List (S67))) := Lim fun k => laws_toBoxS.l0 k x0 x3 x4
noncomputable def laws_toBoxS.fv (l0 : List (S64)) : Option ((List (S67))) := Lim fun k => laws_toBoxS.f k l0
theorem laws_toBoxS.l0_is (x0 : List (S64)) (x3 : List (S67)) (x4 : Int) : Is (fun k => laws_toBoxS.l0 k x0 x3 x4) (laws_toBoxS.l0v x0 x3 x4) := ⟨fun k => (laws_toBoxS.mono_l k) x0 x3 x4, rfl⟩
theorem laws_toBoxS.f_is (l0 : List (S64)) : Is (fun k => laws_toBoxS.f k l0) (laws_toBoxS.fv l0) := ⟨fun k => laws_toBoxS.mono l0 k, rfl⟩
theorem laws_toBoxS.l0v_eq (x0 : List (S64)) (x3 : List (S67)) (x4 : Int) : laws_toBoxS.l0v x0 x3 x4 = if x4 < (x0.length : Int) then (if 0 ≤ x4 then ((laws_toBox.fv ((rd_T64 x0 x4).f0) ((rd_T64 x0 x4).f1) ((rd_T64 x0 x4).f2) ((rd_T64 x0 x4).f3)).bind fun bt128 => (if x4 < (x3.length : Int) then (laws_toBoxS.l0v x0 (x3.set (x4 : Int).toNat (⟨bt128.1, bt128.2.1, bt128.2.2.1, bt128.2.2.2⟩ : S67)) (wrap64 (x4 + 1))) else (none))) else (none)) else (some x3) := by
  refine Is.step (laws_toBoxS.l0_is x0 x3 x4).mo (fun k => by rw [laws_toBoxS.l0]) ?_
  · skip
    repeat' first
    | with_reducible exact laws_toBox.f_is _ _ _ _
    | with_reducible exact laws_toBoxS.l0_is _ _ _
    | with_reducible exact Is.now _
    | with_reducible refine Is.ite ?_ ?_
    | with_reducible refine Is.bind ?_ (fun _ => ?_)
theorem laws_toBoxS.fv_eq (l0 : List (S64)) : laws_toBoxS.fv l0 = if 0 ≤ (l0.length : Int) then (if ((l0.length : Int) : Int).toNat ≤ 4398046511104 then (laws_toBoxS.l0v l0 (List.replicate ((l0.length : Int) : Int).toNat z67) 0) else (none)) else (none) := by
  refine Is.lim (g := fun k => laws_toBoxS.f k l0) ?_
  · unfold laws_toBoxS.f
    repeat' first
    | with_reducible exact laws_toBoxS.l0_is _ _ _
    | with_reducible exact Is.now _
    | with_reducible refine Is.ite ?_ ?_
    | with_reducible refine Is.bind ?_ (fun _ => ?_)
noncomputable def laws_toEndpoint.fv (l0_0 : List Int) (l0_1 : List Int) (l0_2 : List (S64)) (a0_3 : Int) : Option (List Int × List Int × (List (S67)) × Int) := Lim fun k => laws_toEndpoint.f k l0_0 l0_1 l0_2 a0_3
theorem laws_toEndpoint.f_is (l0_0 : List Int) (l0_1 : List Int) (l0_2 : List (S64)) (a0_3 : Int) : Is (fun k => laws_toEndpoint.f k l0_0 l0_1 l0_2 a0_3) (laws_toEndpoint.fv l0_0 l0_1 l0_2 a0_3) := ⟨fun k => laws_toEndpoint.mono l0_0 l0_1 l0_2 a0_3 k, rfl⟩
theorem laws_toEndpoint.fv_eq (l0_0 : List Int) (l0_1 : List Int) (l0_2 : List (S64)) (a0_3 : Int) : laws_toEndpoint.fv l0_0 l0_1 l0_2 a0_3 = (laws_toIntS.fv l0_0).bind fun t140 => ((laws_toIntS.fv l0_1).bind fun t143 => ((laws_toBoxS.fv l0_2).bind fun t146 => (some (t140, t143, t146, a0_3)))) := by
  refine Is.lim (g := fun k => laws_toEndpoint.f k l0_0 l0_1 l0_2 a0_3) ?_
  · unfold laws_toEndpoint.f
    repeat' first
    | with_reducible exact laws_toBoxS.f_is _
    | with_reducible exact laws_toIntS.f_is _
    | with_reducible exact Is.now _
    | with_reducible refine Is.ite ?_ ?_
    | with_reducible refine Is.bind ?_ (fun _ => ?_)
end Go.Proofs.Ytdoefkloanpliaa.Print
