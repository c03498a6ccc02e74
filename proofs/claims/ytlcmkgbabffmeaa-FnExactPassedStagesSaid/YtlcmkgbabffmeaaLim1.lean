/- Written by a program of this session (limx.py): the equations of what the printed functions come to. No condition. -/
import Derived.Test.YtlcmkgbabffmeaaBase
import Derived.Test.YtlcmkgbabffmeaaPrint1
namespace Go.Proofs.Ytlcmkgbabffmeaa.Print
open Go.RowKit Go.Proofs.YtlcmkgbabffmeaaW.PrintWords Go.Proofs.YtlcmkgbabffmeaaW.PrintLast Go.Proofs.Ytlcmkgbabffmeaa.Base
set_option linter.unusedVariables false
set_option maxRecDepth 20000
noncomputable def laws_toIntS.l0v (x0 : List Int) (x3 : List Int) (x4 : Int) : Option (List Int) := Lim fun k => laws_toIntS.l0 k x0 x3 x4
noncomputable def laws_toIntS.fv (l0 : List Int) : Option (List Int) := Lim fun k => laws_toIntS.f k l0
theorem laws_toIntS.l0_is (x0 : List Int) (x3 : List Int) (x4 : Int) : Is (fun k => laws_toIntS.l0 k x0 x3 x4) (laws_toIntS.l0v x0 x3 x4) := ⟨fun k => (laws_toIntS.mono_l k) x0 x3 x4, rfl⟩
theorem laws_toIntS.f_is (l0 : List Int) : Is (fun k => laws_toIntS.f k l0) (laws_toIntS.fv l0) := ⟨fun k => laws_toIntS.mono l0 k, rfl⟩
theorem laws_toIntS.l0v_eq (x0 : List Int) (x3 : List Int) (x4 : Int) : laws_toIntS.l0v x0 x3 x4 = if x4 < (x0.length : Int) then (if 0 ≤ x4 then (if x4 < (x3.length : Int) then (laws_toIntS.l0v x0 (x3.set (x4 : Int).toNat (rd x0 x4)) (wrap64 (x4 + 1))) else (none)) else (none)) else (some x3) := by
  refine Is.step (laws_toIntS.l0_is x0 x3 x4).mo (fun k => by rw [laws_toIntS.l0]) ?_
  · skip
    repeat' first
    | with_reducible exact laws_toIntS.l0_is _ _ _
    | with_reducible exact Is.now _
    | with_reducible refine Is.ite ?_ ?_
    | with_reducible refine Is.bind ?_ (fun _ => ?_)
theorem laws_toIntS.fv_eq (l0 : List Int) : laws_toIntS.fv l0 = if 0 ≤ (l0.length : Int) then (if ((l0.length : Int) : Int).toNat ≤ 35184372088832 then (laws_toIntS.l0v l0 (List.replicate ((l0.length : Int) : Int).toNat 0) 0) else (none)) else (none) := by
  refine Is.lim (g := fun k => laws_toIntS.f k l0) ?_
  · unfold laws_toIntS.f
    repeat' first
    | with_reducible exact laws_toIntS.l0_is _ _ _
    | with_reducible exact Is.now _
    | with_reducible refine Is.ite ?_ ?_
    | with_reducible refine Is.bind ?_ (fun _ => ?_)
noncomputable def laws_toRollout.fv (a0_0 : Int) (l0_1 : List Int) (a0_2 : Int) (a0_3 : Bool) : Option (Int × List Int × Int × Bool) := Lim fun k => laws_toRollout.f k a0_0 l0_1 a0_2 a0_3
theorem laws_toRollout.f_is (a0_0 : Int) (l0_1 : List Int) (a0_2 : Int) (a0_3 : Bool) : Is (fun k => laws_toRollout.f k a0_0 l0_1 a0_2 a0_3) (laws_toRollout.fv a0_0 l0_1 a0_2 a0_3) := ⟨fun k => laws_toRollout.mono a0_0 l0_1 a0_2 a0_3 k, rfl⟩
theorem laws_toRollout.fv_eq (a0_0 : Int) (l0_1 : List Int) (a0_2 : Int) (a0_3 : Bool) : laws_toRollout.fv a0_0 l0_1 a0_2 a0_3 = (laws_toIntS.fv l0_1).bind fun t111 => (some (a0_0, t111, a0_2, a0_3)) := by
  refine Is.lim (g := fun k => laws_toRollout.f k a0_0 l0_1 a0_2 a0_3) ?_
  · unfold laws_toRollout.f
    repeat' first
    | with_reducible exact laws_toIntS.f_is _
    | with_reducible exact Is.now _
    | with_reducible refine Is.ite ?_ ?_
    | with_reducible refine Is.bind ?_ (fun _ => ?_)
noncomputable def laws_eqIntS.l0v (x0 : List Int) (x1 : List Int) (x5 : Int) : Option (Bool) := Lim fun k => laws_eqIntS.l0 k x0 x1 x5
noncomputable def laws_eqIntS.fv (l0 : List Int) (l1 : List Int) : Option (Bool) := Lim fun k => laws_eqIntS.f k l0 l1
theorem laws_eqIntS.l0_is (x0 : List Int) (x1 : List Int) (x5 : Int) : Is (fun k => laws_eqIntS.l0 k x0 x1 x5) (laws_eqIntS.l0v x0 x1 x5) := ⟨fun k => (laws_eqIntS.mono_l k) x0 x1 x5, rfl⟩
theorem laws_eqIntS.f_is (l0 : List Int) (l1 : List Int) : Is (fun k => laws_eqIntS.f k l0 l1) (laws_eqIntS.fv l0 l1) := ⟨fun k => laws_eqIntS.mono l0 l1 k, rfl⟩
theorem laws_eqIntS.l0v_eq (x0 : List Int) (x1 : List Int) (x5 : Int) : laws_eqIntS.l0v x0 x1 x5 = if x5 < (x0.length : Int) then (if 0 ≤ x5 then (if x5 < (x1.length : Int) then (if (rd x0 x5) = (rd x1 x5) then (laws_eqIntS.l0v x0 x1 (wrap64 (x5 + 1))) else (some false)) else (none)) else (none)) else (some true) := by
  refine Is.step (laws_eqIntS.l0_is x0 x1 x5).mo (fun k => by rw [laws_eqIntS.l0]) ?_
  · skip
    repeat' first
    | with_reducible exact laws_eqIntS.l0_is _ _ _
    | with_reducible exact Is.now _
    | with_reducible refine Is.ite ?_ ?_
    | with_reducible refine Is.bind ?_ (fun _ => ?_)
theorem laws_eqIntS.fv_eq (l0 : List Int) (l1 : List Int) : laws_eqIntS.fv l0 l1 = if (l0.length : Int) = (l1.length : Int) then (laws_eqIntS.l0v l0 l1 0) else (some false) := by
  refine Is.lim (g := fun k => laws_eqIntS.f k l0 l1) ?_
  · unfold laws_eqIntS.f
    repeat' first
    | with_reducible exact laws_eqIntS.l0_is _ _ _
    | with_reducible exact Is.now _
    | with_reducible refine Is.ite ?_ ?_
    | with_reducible refine Is.bind ?_ (fun _ => ?_)
noncomputable def laws_eqRollout.fv (a0_0 : Int) (l0_1 : List Int) (a0_2 : Int) (a0_3 : Bool) (a1_0 : Int) (l1_1 : List Int) (a1_2 : Int) (a1_3 : Bool) : Option (Bool) := Lim fun k => laws_eqRollout.f k a0_0 l0_1 a0_2 a0_3 a1_0 l1_1 a1_2 a1_3
theorem laws_eqRollout.f_is (a0_0 : Int) (l0_1 : List Int) (a0_2 : Int) (a0_3 : Bool) (a1_0 : Int) (l1_1 : List Int) (a1_2 : Int) (a1_3 : Bool) : Is (fun k => laws_eqRollout.f k a0_0 l0_1 a0_2 a0_3 a1_0 l1_1 a1_2 a1_3) (laws_eqRollout.fv a0_0 l0_1 a0_2 a0_3 a1_0 l1_1 a1_2 a1_3) := ⟨fun k => laws_eqRollout.mono a0_0 l0_1 a0_2 a0_3 a1_0 l1_1 a1_2 a1_3 k, rfl⟩
theorem laws_eqRollout.fv_eq (a0_0 : Int) (l0_1 : List Int) (a0_2 : Int) (a0_3 : Bool) (a1_0 : Int) (l1_1 : List Int) (a1_2 : Int) (a1_3 : Bool) : laws_eqRollout.fv a0_0 l0_1 a0_2 a0_3 a1_0 l1_1 a1_2 a1_3 = if a0_0 = a1_0 then ((laws_eqIntS.fv l0_1 l1_1).bind fun t118 => (if t118 = true then (if a0_2 = a1_2 then (if (a0_3 != a1_3) = true then (some false) else (some true)) else (some false)) else (some false))) else (some false) := by
  refine Is.lim (g := fun k => laws_eqRollout.f k a0_0 l0_1 a0_2 a0_3 a1_0 l1_1 a1_2 a1_3) ?_
  · unfold laws_eqRollout.f
    repeat' first
    | with_reducible exact laws_eqIntS.f_is _ _
    | with_reducible exact Is.now _
    | with_reducible refine Is.ite ?_ ?_
    | with_reducible refine Is.bind ?_ (fun _ => ?_)
noncomputable def spec_IsRollout.l0v (x3 : Int) (x120000 : Int) (x120001 : List Int) (x120002 : Int) (x120003 : Bool) : Option (Bool) := Lim fun k => spec_IsRollout.l0 k x3 x120000 x120001 x120002 x120003
noncomputable def spec_IsRollout.fv (a0_0 : Int) (l0_1 : List Int) (a0_2 : Int) (a0_3 : Bool) : Option (Bool) := Lim fun k => spec_IsRollout.f k a0_0 l0_1 a0_2 a0_3
theorem spec_IsRollout.l0_is (x3 : Int) (x120000 : Int) (x120001 : List Int) (x120002 : Int) (x120003 : Bool) : Is (fun k => spec_IsRollout.l0 k x3 x120000 x120001 x120002 x120003) (spec_IsRollout.l0v x3 x120000 x120001 x120002 x120003) := ⟨fun k => (spec_IsRollout.mono_l k) x3 x120000 x120001 x120002 x120003, rfl⟩
theorem spec_IsRollout.f_is (a0_0 : Int) (l0_1 : List Int) (a0_2 : Int) (a0_3 : Bool) : Is (fun k => spec_IsRollout.f k a0_0 l0_1 a0_2 a0_3) (spec_IsRollout.fv a0_0 l0_1 a0_2 a0_3) := ⟨fun k => spec_IsRollout.mono a0_0 l0_1 a0_2 a0_3 k, rfl⟩
theorem spec_IsRollout.l0v_eq (x3 : Int) (x120000 : Int) (x120001 : List Int) (x120002 : Int) (x120003 : Bool) : spec_IsRollout.l0v x3 x120000 x120001 x120002 x120003 = if x3 < (x120001.length : Int) then (if 0 ≤ x3 then ((spec_l1In.f (rd x120001 x3) 1 100).bind fun t121 => (if t121 = true then (if x3 > 0 then (if 0 ≤ (wrap64 (x3 - 1)) then (if (wrap64 (x3 - 1)) < (x120001.length : Int) then (if (rd x120001 (wrap64 (x3 - 1))) ≥ (rd x120001 x3) then (some false) else (spec_IsRollout.l0v (wrap64 (x3 + 1)) x120000 x120001 x120002 x120003)) else (none)) else (none)) else (spec_IsRollout.l0v (wrap64 (x3 + 1)) x120000 x120001 x120002 x120003)) else (some false))) else (none)) else ((spec_l1In.f x120000 1 9).bind fun t124 => (if t124 = true then ((spec_l1In.f (x120001.length : Int) 1 5).bind fun t125 => (if t125 = true then (if 0 ≤ (wrap64 ((x120001.length : Int) - 1)) then (if (wrap64 ((x120001.length : Int) - 1)) < (x120001.length : Int) then (if (rd x120001 (wrap64 ((x120001.length : Int) - 1))) = 100 then ((spec_l1In.f x120002 0 (wrap64 ((x120001.length : Int) - 1))).bind fun t127 => (some t127)) else (some false)) else (none)) else (none)) else (some false))) else (some false))) := by
  refine Is.step (spec_IsRollout.l0_is x3 x120000 x120001 x120002 x120003).mo (fun k => by rw [spec_IsRollout.l0]) ?_
  · skip
    repeat' first
    | with_reducible exact spec_IsRollout.l0_is _ _ _ _ _
    | with_reducible exact Is.now _
    | with_reducible refine Is.ite ?_ ?_
    | with_reducible refine Is.bind ?_ (fun _ => ?_)
theorem spec_IsRollout.fv_eq (a0_0 : Int) (l0_1 : List Int) (a0_2 : Int) (a0_3 : Bool) : spec_IsRollout.fv a0_0 l0_1 a0_2 a0_3 = spec_IsRollout.l0v 0 a0_0 l0_1 a0_2 a0_3 := by
  refine Is.lim (g := fun k => spec_IsRollout.f k a0_0 l0_1 a0_2 a0_3) ?_
  · unfold spec_IsRollout.f
    repeat' first
    | with_reducible exact spec_IsRollout.l0_is _ _ _ _ _
    | with_reducible exact Is.now _
    | with_reducible refine Is.ite ?_ ?_
    | with_reducible refine Is.bind ?_ (fun _ => ?_)
end Go.Proofs.Ytlcmkgbabffmeaa.Print
