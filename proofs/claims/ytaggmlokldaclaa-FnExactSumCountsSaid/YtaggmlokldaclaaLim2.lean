/- Written by a program of this session (limx.py): the equations of what the printed functions come to. No condition. -/
import Derived.Test.YtaggmlokldaclaaBase
import Derived.Test.YtaggmlokldaclaaPrint2
import Derived.Test.YtaggmlokldaclaaLim1
namespace Go.Proofs.Ytaggmlokldaclaa.Print
open Go.RowKit Go.Proofs.YtaggmlokldaclaaW.PrintWords Go.Proofs.YtaggmlokldaclaaW.PrintLast Go.Proofs.Ytaggmlokldaclaa.Base
set_option linter.unusedVariables false
set_option maxRecDepth 20000
noncomputable def laws_eqIntS.l0v (x0 : List Int) (x1 : List Int) (x5 : Int) : Option (Bool) := Lim fun k => laws_eqIntS.l0 k x0 x1 x5
noncomputable def laws_eqIntS.fv (l0 : List Int) (l1 : List Int) : Option (Bool) := Lim fun k => laws_eqIntS.f k l0 l1
theorem laws_eqIntS.l0_is (x0 : List Int) (x1 : List Int) (x5 : Int) : Is (fun k => laws_eqIntS.l0 k x0 x1 x5) (laws_eqIntS.l0v x0 x1 x5) := ⟨fun k => (laws_eqIntS.mono_l k) x0 x1 x5, rfl⟩
theorem laws_eqIntS.f_is (l0 : List Int) (l1 : List Int) : Is (fun k => laws_eqIntS.f k l0 l1) (laws_eqIntS.fv l0 l1) := ⟨fun k => laws_eqIntS.mono l0 l1 k, rfl⟩
theorem laws_eqIntS.l0v_eq (x0 : List Int) (x1 : List Int) (x5 : Int) : laws_eqIntS.l0v x0 x1 x5 = if x5 < (x0.length : Int) then (if 0 ≤ x5 then (if x5 < (x1.length : Int) then (if (rd x0 x5) = (rd x1 x5) then (laws_eqIntS.l0v x0 x1 (wrap64 (x5 + 1))) else (some false)) else (none)) else (none)) else (some true) := by
  refine Is.step (laws_eqIntS.l0_is x0 x1 x5).mo (fun k => by rw [laws_eqIntS.l0]) ?_
  · skip
    repeat' first
    | with_reducible exact laws_eqIntS.l0_is _ _ _
    | with_reducible exact Is.now _
    | with_reducible refine Is.ite ?_ ?_
    | with_reducible refine Is.bind ?_ (fun _ => ?_)
theorem laws_eqIntS.fv_eq (l0 : List Int) (l1 : List Int) : laws_eqIntS.fv l0 l1 = if (l0.length : Int) = (l1.length : Int) then (laws_eqIntS.l0v l0 l1 0) else (some false) := by
  refine Is.lim (g := fun k => laws_eqIntS.f k l0 l1) ?_
  · unfold laws_eqIntS.f
    repeat' first
    | with_reducible exact laws_eqIntS.l0_is _ _ _
    | with_reducible exact Is.now _
    | with_reducible refine Is.ite ?_ ?_
    | with_reducible refine Is.bind ?_ (fun _ => ?_)
noncomputable def spec_SignalOf.j0v (x0 : Int) (x1 : Int) (x2 : Int) (x3 : Int) (x26 : Bool) : Option (Int) := Lim fun k => spec_SignalOf.j0 k x0 x1 x2 x3 x26
noncomputable def spec_SignalOf.j1v (x0 : Int) (x1 : Int) (x2 : Int) (x3 : Int) (x27 : Bool) : Option (Int) := Lim fun k => spec_SignalOf.j1 k x0 x1 x2 x3 x27
noncomputable def spec_SignalOf.fv (a0 : Int) (a1 : Int) (a2 : Int) (a3 : Int) : Option (Int) := Lim fun k => spec_SignalOf.f k a0 a1 a2 a3
theorem spec_SignalOf.j0_is (x0 : Int) (x1 : Int) (x2 : Int) (x3 : Int) (x26 : Bool) : Is (fun k => spec_SignalOf.j0 k x0 x1 x2 x3 x26) (spec_SignalOf.j0v x0 x1 x2 x3 x26) := ⟨fun k => (spec_SignalOf.mono_l k).1 x0 x1 x2 x3 x26, rfl⟩
theorem spec_SignalOf.j1_is (x0 : Int) (x1 : Int) (x2 : Int) (x3 : Int) (x27 : Bool) : Is (fun k => spec_SignalOf.j1 k x0 x1 x2 x3 x27) (spec_SignalOf.j1v x0 x1 x2 x3 x27) := ⟨fun k => (spec_SignalOf.mono_l k).2 x0 x1 x2 x3 x27, rfl⟩
theorem spec_SignalOf.f_is (a0 : Int) (a1 : Int) (a2 : Int) (a3 : Int) : Is (fun k => spec_SignalOf.f k a0 a1 a2 a3) (spec_SignalOf.fv a0 a1 a2 a3) := ⟨fun k => spec_SignalOf.mono a0 a1 a2 a3 k, rfl⟩
theorem spec_SignalOf.j0v_eq (x0 : Int) (x1 : Int) (x2 : Int) (x3 : Int) (x26 : Bool) : spec_SignalOf.j0v x0 x1 x2 x3 x26 = if x26 = true then (some 0) else (if (wrap64 (100 * x1)) > (wrap64 (x3 * x2)) then (spec_SignalOf.j1v x0 x1 x2 x3 (decide ((wrap64 (100 * x1)) > (wrap64 (x3 * (wrap64 (x0 + x1))))))) else (spec_SignalOf.j1v x0 x1 x2 x3 false)) := by
  refine Is.step (spec_SignalOf.j0_is x0 x1 x2 x3 x26).mo (fun k => by rw [spec_SignalOf.j0]) ?_
  · skip
    repeat' first
    | with_reducible exact spec_SignalOf.j1_is _ _ _ _ _
    | with_reducible exact Is.now _
    | with_reducible refine Is.ite ?_ ?_
    | with_reducible refine Is.bind ?_ (fun _ => ?_)
theorem spec_SignalOf.j1v_eq (x0 : Int) (x1 : Int) (x2 : Int) (x3 : Int) (x27 : Bool) : spec_SignalOf.j1v x0 x1 x2 x3 x27 = if x27 = true then (some 2) else (if (wrap64 (x0 + x1)) < x2 then (some 0) else (if (wrap64 (100 * x1)) ≤ (wrap64 (x3 * (wrap64 (x0 + x1)))) then (some 1) else (some 2))) := by
  refine Is.step (spec_SignalOf.j1_is x0 x1 x2 x3 x27).mo (fun k => by rw [spec_SignalOf.j1]) ?_
  · skip
    repeat' first
    | with_reducible exact Is.now _
    | with_reducible refine Is.ite ?_ ?_
    | with_reducible refine Is.bind ?_ (fun _ => ?_)
theorem spec_SignalOf.fv_eq (a0 : Int) (a1 : Int) (a2 : Int) (a3 : Int) : spec_SignalOf.fv a0 a1 a2 a3 = (spec_l1In.f a0 0 10000).bind fun t143 => (if t143 = true then ((spec_l1In.f a1 0 10000).bind fun t144 => (if t144 = true then ((spec_l1In.f a2 1 10000).bind fun t145 => (if t145 = true then ((spec_l1In.f a3 0 100).bind fun t146 => (spec_SignalOf.j0v a0 a1 a2 a3 (!t146))) else (spec_SignalOf.j0v a0 a1 a2 a3 true))) else (spec_SignalOf.j0v a0 a1 a2 a3 true))) else (spec_SignalOf.j0v a0 a1 a2 a3 true)) := by
  refine Is.lim (g := fun k => spec_SignalOf.f k a0 a1 a2 a3) ?_
  · unfold spec_SignalOf.f
    repeat' first
    | with_reducible exact spec_SignalOf.j0_is _ _ _ _ _
    | with_reducible exact Is.now _
    | with_reducible refine Is.ite ?_ ?_
    | with_reducible refine Is.bind ?_ (fun _ => ?_)
noncomputable def impl_SignalOf.j0v (x0 : Int) (x1 : Int) (x2 : Int) (x3 : Int) (x24 : Bool) : Option (Int) := Lim fun k => impl_SignalOf.j0 k x0 x1 x2 x3 x24
noncomputable def impl_SignalOf.j1v (x1 : Int) (x2 : Int) (x3 : Int) (x9 : Int) (x28 : Bool) : Option (Int) := Lim fun k => impl_SignalOf.j1 k x1 x2 x3 x9 x28
noncomputable def impl_SignalOf.fv (a0 : Int) (a1 : Int) (a2 : Int) (a3 : Int) : Option (Int) := Lim fun k => impl_SignalOf.f k a0 a1 a2 a3
theorem impl_SignalOf.j0_is (x0 : Int) (x1 : Int) (x2 : Int) (x3 : Int) (x24 : Bool) : Is (fun k => impl_SignalOf.j0 k x0 x1 x2 x3 x24) (impl_SignalOf.j0v x0 x1 x2 x3 x24) := ⟨fun k => (impl_SignalOf.mono_l k).1 x0 x1 x2 x3 x24, rfl⟩
theorem impl_SignalOf.j1_is (x1 : Int) (x2 : Int) (x3 : Int) (x9 : Int) (x28 : Bool) : Is (fun k => impl_SignalOf.j1 k x1 x2 x3 x9 x28) (impl_SignalOf.j1v x1 x2 x3 x9 x28) := ⟨fun k => (impl_SignalOf.mono_l k).2 x1 x2 x3 x9 x28, rfl⟩
theorem impl_SignalOf.f_is (a0 : Int) (a1 : Int) (a2 : Int) (a3 : Int) : Is (fun k => impl_SignalOf.f k a0 a1 a2 a3) (impl_SignalOf.fv a0 a1 a2 a3) := ⟨fun k => impl_SignalOf.mono a0 a1 a2 a3 k, rfl⟩
theorem impl_SignalOf.j0v_eq (x0 : Int) (x1 : Int) (x2 : Int) (x3 : Int) (x24 : Bool) : impl_SignalOf.j0v x0 x1 x2 x3 x24 = if x24 = true then (some 0) else (if (wrap64 (100 * x1)) > (wrap64 (x3 * x2)) then (impl_SignalOf.j1v x1 x2 x3 (wrap64 (x0 + x1)) (decide ((wrap64 (100 * x1)) > (wrap64 (x3 * (wrap64 (x0 + x1))))))) else (impl_SignalOf.j1v x1 x2 x3 (wrap64 (x0 + x1)) false)) := by
  refine Is.step (impl_SignalOf.j0_is x0 x1 x2 x3 x24).mo (fun k => by rw [impl_SignalOf.j0]) ?_
  · skip
    repeat' first
    | with_reducible exact impl_SignalOf.j1_is _ _ _ _ _
    | with_reducible exact Is.now _
    | with_reducible refine Is.ite ?_ ?_
    | with_reducible refine Is.bind ?_ (fun _ => ?_)
theorem impl_SignalOf.j1v_eq (x1 : Int) (x2 : Int) (x3 : Int) (x9 : Int) (x28 : Bool) : impl_SignalOf.j1v x1 x2 x3 x9 x28 = if x28 = true then (some 2) else (if x9 < x2 then (some 0) else (if (wrap64 (100 * x1)) ≤ (wrap64 (x3 * x9)) then (some 1) else (some 2))) := by
  refine Is.step (impl_SignalOf.j1_is x1 x2 x3 x9 x28).mo (fun k => by rw [impl_SignalOf.j1]) ?_
  · skip
    repeat' first
    | with_reducible exact Is.now _
    | with_reducible refine Is.ite ?_ ?_
    | with_reducible refine Is.bind ?_ (fun _ => ?_)
theorem impl_SignalOf.fv_eq (a0 : Int) (a1 : Int) (a2 : Int) (a3 : Int) : impl_SignalOf.fv a0 a1 a2 a3 = (impl_areNumbers.fv (([a0, a1, a2] : List Int)) 0 10000).bind fun t150 => (if t150 = true then (if a2 = 0 then (impl_SignalOf.j0v a0 a1 a2 a3 true) else ((impl_InRange.f a3 0 100).bind fun t151 => (impl_SignalOf.j0v a0 a1 a2 a3 (!t151)))) else (impl_SignalOf.j0v a0 a1 a2 a3 true)) := by
  refine Is.lim (g := fun k => impl_SignalOf.f k a0 a1 a2 a3) ?_
  · unfold impl_SignalOf.f
    repeat' first
    | with_reducible exact impl_SignalOf.j0_is _ _ _ _ _
    | with_reducible exact impl_areNumbers.f_is _ _ _
    | with_reducible exact Is.now _
    | with_reducible refine Is.ite ?_ ?_
    | with_reducible refine Is.bind ?_ (fun _ => ?_)
noncomputable def spec_ShareOf.j0v (x0 : List Int) (x1 : Int) (x6 : Int) (x18 : Bool) : Option (Int × Int) := Lim fun k => spec_ShareOf.j0 k x0 x1 x6 x18
noncomputable def spec_ShareOf.l0v (x0 : List Int) (x1 : Int) (x6 : Int) (x7 : Int) : Option (Int × Int) := Lim fun k => spec_ShareOf.l0 k x0 x1 x6 x7
noncomputable def spec_ShareOf.fv (l0 : List Int) (a1 : Int) : Option (Int × Int) := Lim fun k => spec_ShareOf.f k l0 a1
theorem spec_ShareOf.j0_is (x0 : List Int) (x1 : Int) (x6 : Int) (x18 : Bool) : Is (fun k => spec_ShareOf.j0 k x0 x1 x6 x18) (spec_ShareOf.j0v x0 x1 x6 x18) := ⟨fun k => (spec_ShareOf.mono_l k).1 x0 x1 x6 x18, rfl⟩
theorem spec_ShareOf.l0_is (x0 : List Int) (x1 : Int) (x6 : Int) (x7 : Int) : Is (fun k => spec_ShareOf.l0 k x0 x1 x6 x7) (spec_ShareOf.l0v x0 x1 x6 x7) := ⟨fun k => (spec_ShareOf.mono_l k).2 x0 x1 x6 x7, rfl⟩
theorem spec_ShareOf.f_is (l0 : List Int) (a1 : Int) : Is (fun k => spec_ShareOf.f k l0 a1) (spec_ShareOf.fv l0 a1) := ⟨fun k => spec_ShareOf.mono l0 a1 k, rfl⟩
theorem spec_ShareOf.j0v_eq (x0 : List Int) (x1 : Int) (x6 : Int) (x18 : Bool) : spec_ShareOf.j0v x0 x1 x6 x18 = if x18 = true then (some (0, 0)) else (spec_ShareOf.l0v x0 x1 x6 0) := by
  refine Is.step (spec_ShareOf.j0_is x0 x1 x6 x18).mo (fun k => by rw [spec_ShareOf.j0]) ?_
  · skip
    repeat' first
    | with_reducible exact spec_ShareOf.l0_is _ _ _ _
    | with_reducible exact Is.now _
    | with_reducible refine Is.ite ?_ ?_
    | with_reducible refine Is.bind ?_ (fun _ => ?_)
theorem spec_ShareOf.l0v_eq (x0 : List Int) (x1 : Int) (x6 : Int) (x7 : Int) : spec_ShareOf.l0v x0 x1 x6 x7 = if x7 < (x0.length : Int) then (if 0 ≤ x7 then (spec_ShareOf.l0v x0 x1 (wrap64 (x6 + (rd x0 x7))) (wrap64 (x7 + 1))) else (none)) else (if 0 ≤ x1 then (if x1 < (x0.length : Int) then (some (rd x0 x1, x6)) else (none)) else (none)) := by
  refine Is.step (spec_ShareOf.l0_is x0 x1 x6 x7).mo (fun k => by rw [spec_ShareOf.l0]) ?_
  · skip
    repeat' first
    | with_reducible exact spec_ShareOf.l0_is _ _ _ _
    | with_reducible exact Is.now _
    | with_reducible refine Is.ite ?_ ?_
    | with_reducible refine Is.bind ?_ (fun _ => ?_)
theorem spec_ShareOf.fv_eq (l0 : List Int) (a1 : Int) : spec_ShareOf.fv l0 a1 = (spec_AreCounts.fv l0).bind fun t154 => (if t154 = true then ((spec_l1In.f a1 0 (wrap64 ((l0.length : Int) - 1))).bind fun t155 => (spec_ShareOf.j0v l0 a1 0 (!t155))) else (spec_ShareOf.j0v l0 a1 0 true)) := by
  refine Is.lim (g := fun k => spec_ShareOf.f k l0 a1) ?_
  · unfold spec_ShareOf.f
    repeat' first
    | with_reducible exact spec_AreCounts.f_is _
    | with_reducible exact spec_ShareOf.j0_is _ _ _ _
    | with_reducible exact Is.now _
    | with_reducible refine Is.ite ?_ ?_
    | with_reducible refine Is.bind ?_ (fun _ => ?_)
end Go.Proofs.Ytaggmlokldaclaa.Print
