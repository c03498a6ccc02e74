/- Written by a program of this session (limx.py): the equations of what the printed functions come to. No condition. -/
import Derived.Test.YtlcmkgbabffmeaaBase
import Derived.Test.YtlcmkgbabffmeaaPrint2
namespace Go.Proofs.Ytlcmkgbabffmeaa.Print
open Go.RowKit Go.Proofs.YtlcmkgbabffmeaaW.PrintWords Go.Proofs.YtlcmkgbabffmeaaW.PrintLast Go.Proofs.Ytlcmkgbabffmeaa.Base
set_option linter.unusedVariables false
set_option maxRecDepth 20000
noncomputable def impl_IsRollout.l0v (x6 : List Int) (x7 : Int) (x8 : Int) (x124000 : Int) (x124001 : List Int) (x124002 : Int) (x124003 : Bool) : Option (Bool) := Lim fun k => impl_IsRollout.l0 k x6 x7 x8 x124000 x124001 x124002 x124003
noncomputable def impl_IsRollout.fv (a0_0 : Int) (l0_1 : List Int) (a0_2 : Int) (a0_3 : Bool) : Option (Bool) := Lim fun k => impl_IsRollout.f k a0_0 l0_1 a0_2 a0_3
theorem impl_IsRollout.l0_is (x6 : List Int) (x7 : Int) (x8 : Int) (x124000 : Int) (x124001 : List Int) (x124002 : Int) (x124003 : Bool) : Is (fun k => impl_IsRollout.l0 k x6 x7 x8 x124000 x124001 x124002 x124003) (impl_IsRollout.l0v x6 x7 x8 x124000 x124001 x124002 x124003) := ⟨fun k => (impl_IsRollout.mono_l k) x6 x7 x8 x124000 x124001 x124002 x124003, rfl⟩
theorem impl_IsRollout.f_is (a0_0 : Int) (l0_1 : List Int) (a0_2 : Int) (a0_3 : Bool) : Is (fun k => impl_IsRollout.f k a0_0 l0_1 a0_2 a0_3) (impl_IsRollout.fv a0_0 l0_1 a0_2 a0_3) := ⟨fun k => impl_IsRollout.mono a0_0 l0_1 a0_2 a0_3 k, rfl⟩
theorem impl_IsRollout.l0v_eq (x6 : List Int) (x7 : Int) (x8 : Int) (x124000 : Int) (x124001 : List Int) (x124002 : Int) (x124003 : Bool) : impl_IsRollout.l0v x6 x7 x8 x124000 x124001 x124002 x124003 = if x8 < x7 then (if 0 ≤ x8 then (if x8 < (x6.length : Int) then ((impl_InRange.f (rd x6 x8) 1 100).bind fun t125 => (if t125 = true then (if x8 > 0 then (if 0 ≤ (wrap64 (x8 - 1)) then (if (wrap64 (x8 - 1)) < (x124001.length : Int) then (if (rd x124001 (wrap64 (x8 - 1))) ≥ (rd x6 x8) then (some false) else (impl_IsRollout.l0v x6 x7 (wrap64 (x8 + 1)) x124000 x124001 x124002 x124003)) else (none)) else (none)) else (impl_IsRollout.l0v x6 x7 (wrap64 (x8 + 1)) x124000 x124001 x124002 x124003)) else (some false))) else (none)) else (none)) else ((impl_InRange.f x124000 1 9).bind fun t127 => (if t127 = true then ((impl_InRange.f (x124001.length : Int) 1 5).bind fun t128 => (if t128 = true then (if 0 ≤ (wrap64 ((x124001.length : Int) - 1)) then (if (wrap64 ((x124001.length : Int) - 1)) < (x124001.length : Int) then (if (rd x124001 (wrap64 ((x124001.length : Int) - 1))) = 100 then ((impl_InRange.f x124002 0 (wrap64 ((x124001.length : Int) - 1))).bind fun t130 => (some t130)) else (some false)) else (none)) else (none)) else (some false))) else (some false))) := by
  refine Is.step (impl_IsRollout.l0_is x6 x7 x8 x124000 x124001 x124002 x124003).mo (fun k => by rw [impl_IsRollout.l0]) ?_
  · skip
    repeat' first
    | with_reducible exact impl_IsRollout.l0_is _ _ _ _ _ _ _
    | with_reducible exact Is.now _
    | with_reducible refine Is.ite ?_ ?_
    | with_reducible refine Is.bind ?_ (fun _ => ?_)
theorem impl_IsRollout.fv_eq (a0_0 : Int) (l0_1 : List Int) (a0_2 : Int) (a0_3 : Bool) : impl_IsRollout.fv a0_0 l0_1 a0_2 a0_3 = impl_IsRollout.l0v l0_1 (l0_1.length : Int) 0 a0_0 l0_1 a0_2 a0_3 := by
  refine Is.lim (g := fun k => impl_IsRollout.f k a0_0 l0_1 a0_2 a0_3) ?_
  · unfold impl_IsRollout.f
    repeat' first
    | with_reducible exact impl_IsRollout.l0_is _ _ _ _ _ _ _
    | with_reducible exact Is.now _
    | with_reducible refine Is.ite ?_ ?_
    | with_reducible refine Is.bind ?_ (fun _ => ?_)
noncomputable def laws_eqIntS.l0v (x0 : List Int) (x1 : List Int) (x5 : Int) : Option (Bool) := Lim fun k => laws_eqIntS.l0 k x0 x1 x5
noncomputable def laws_eqIntS.fv (l0 : List Int) (l1 : List Int) : Option (Bool) := Lim fun k => laws_eqIntS.f k l0 l1
theorem laws_eqIntS.l0_is (x0 : List Int) (x1 : List Int) (x5 : Int) : Is (fun k => laws_eqIntS.l0 k x0 x1 x5) (laws_eqIntS.l0v x0 x1 x5) := ⟨fun k => (laws_eqIntS.mono_l k) x0 x1 x5, rfl⟩
theorem laws_eqIntS.f_is (l0 : List Int) (l1 : List Int) : Is (fun k => laws_eqIntS.f k l0 l1) (laws_eqIntS.fv l0 l1) := ⟨fun k => laws_eqIntS.mono l0 l1 k, rfl⟩
theorem laws_eqIntS.l0v_eq (x0 : List Int) (x1 : List Int) (x5 : Int) : laws_eqIntS.l0v x0 x1 x5 = if x5 < (x0.length : Int) then (if 0 ≤ x5 then (if x5 < (x1.length : Int) then (if (rd x0 x5) = (rd x1 x5) then (laws_eqIntS.l0v x0 x1 (wrap64 (x5 + 1))) else (some false)) else (none)) else (none)) else (some true) := by
  refine Is.step (laws_eqIntS.l0_is x0 x1 x5).mo (fun k => by rw [laws_eqIntS.l0]) ?_
  · skip
    repeat' first
    | with_reducible exact laws_eqIntS.l0_is _ _ _
    | with_reducible exact Is.now _
    | with_reducible refine Is.ite ?_ ?_
    | with_reducible refine Is.bind ?_ (fun _ => ?_)
theorem laws_eqIntS.fv_eq (l0 : List Int) (l1 : List Int) : laws_eqIntS.fv l0 l1 = if (l0.length : Int) = (l1.length : Int) then (laws_eqIntS.l0v l0 l1 0) else (some false) := by
  refine Is.lim (g := fun k => laws_eqIntS.f k l0 l1) ?_
  · unfold laws_eqIntS.f
    repeat' first
    | with_reducible exact laws_eqIntS.l0_is _ _ _
    | with_reducible exact Is.now _
    | with_reducible refine Is.ite ?_ ?_
    | with_reducible refine Is.bind ?_ (fun _ => ?_)
noncomputable def laws_eqRollout.fv (a0_0 : Int) (l0_1 : List Int) (a0_2 : Int) (a0_3 : Bool) (a1_0 : Int) (l1_1 : List Int) (a1_2 : Int) (a1_3 : Bool) : Option (Bool) := Lim fun k => laws_eqRollout.f k a0_0 l0_1 a0_2 a0_3 a1_0 l1_1 a1_2 a1_3
theorem laws_eqRollout.f_is (a0_0 : Int) (l0_1 : List Int) (a0_2 : Int) (a0_3 : Bool) (a1_0 : Int) (l1_1 : List Int) (a1_2 : Int) (a1_3 : Bool) : Is (fun k => laws_eqRollout.f k a0_0 l0_1 a0_2 a0_3 a1_0 l1_1 a1_2 a1_3) (laws_eqRollout.fv a0_0 l0_1 a0_2 a0_3 a1_0 l1_1 a1_2 a1_3) := ⟨fun k => laws_eqRollout.mono a0_0 l0_1 a0_2 a0_3 a1_0 l1_1 a1_2 a1_3 k, rfl⟩
theorem laws_eqRollout.fv_eq (a0_0 : Int) (l0_1 : List Int) (a0_2 : Int) (a0_3 : Bool) (a1_0 : Int) (l1_1 : List Int) (a1_2 : Int) (a1_3 : Bool) : laws_eqRollout.fv a0_0 l0_1 a0_2 a0_3 a1_0 l1_1 a1_2 a1_3 = if a0_0 = a1_0 then ((laws_eqIntS.fv l0_1 l1_1).bind fun t135 => (if t135 = true then (if a0_2 = a1_2 then (if (a0_3 != a1_3) = true then (some false) else (some true)) else (some false)) else (some false))) else (some false) := by
  refine Is.lim (g := fun k => laws_eqRollout.f k a0_0 l0_1 a0_2 a0_3 a1_0 l1_1 a1_2 a1_3) ?_
  · unfold laws_eqRollout.f
    repeat' first
    | with_reducible exact laws_eqIntS.f_is _ _
    | with_reducible exact Is.now _
    | with_reducible refine Is.ite ?_ ?_
    | with_reducible refine Is.bind ?_ (fun _ => ?_)
noncomputable def spec_EqualInts.l0v (x0 : List Int) (x1 : List Int) (x5 : Int) : Option (Bool) := Lim fun k => spec_EqualInts.l0 k x0 x1 x5
noncomputable def spec_EqualInts.fv (l0 : List Int) (l1 : List Int) : Option (Bool) := Lim fun k => spec_EqualInts.f k l0 l1
theorem spec_EqualInts.l0_is (x0 : List Int) (x1 : List Int) (x5 : Int) : Is (fun k => spec_EqualInts.l0 k x0 x1 x5) (spec_EqualInts.l0v x0 x1 x5) := ⟨fun k => (spec_EqualInts.mono_l k) x0 x1 x5, rfl⟩
theorem spec_EqualInts.f_is (l0 : List Int) (l1 : List Int) : Is (fun k => spec_EqualInts.f k l0 l1) (spec_EqualInts.fv l0 l1) := ⟨fun k => spec_EqualInts.mono l0 l1 k, rfl⟩
theorem spec_EqualInts.l0v_eq (x0 : List Int) (x1 : List Int) (x5 : Int) : spec_EqualInts.l0v x0 x1 x5 = if x5 < (x0.length : Int) then (if 0 ≤ x5 then (if x5 < (x1.length : Int) then (if (rd x0 x5) = (rd x1 x5) then (spec_EqualInts.l0v x0 x1 (wrap64 (x5 + 1))) else (some false)) else (none)) else (none)) else (some true) := by
  refine Is.step (spec_EqualInts.l0_is x0 x1 x5).mo (fun k => by rw [spec_EqualInts.l0]) ?_
  · skip
    repeat' first
    | with_reducible exact spec_EqualInts.l0_is _ _ _
    | with_reducible exact Is.now _
    | with_reducible refine Is.ite ?_ ?_
    | with_reducible refine Is.bind ?_ (fun _ => ?_)
theorem spec_EqualInts.fv_eq (l0 : List Int) (l1 : List Int) : spec_EqualInts.fv l0 l1 = if (l0.length : Int) = (l1.length : Int) then (spec_EqualInts.l0v l0 l1 0) else (some false) := by
  refine Is.lim (g := fun k => spec_EqualInts.f k l0 l1) ?_
  · unfold spec_EqualInts.f
    repeat' first
    | with_reducible exact spec_EqualInts.l0_is _ _ _
    | with_reducible exact Is.now _
    | with_reducible refine Is.ite ?_ ?_
    | with_reducible refine Is.bind ?_ (fun _ => ?_)
end Go.Proofs.Ytlcmkgbabffmeaa.Print
