/- Written by a program of this session (limx.py): the equations of what the printed functions come to. No condition. -/
import Derived.Test.YtlcmkgbabffmeaaBase
import Derived.Test.YtlcmkgbabffmeaaPrint5
import Derived.Test.YtlcmkgbabffmeaaLim1
import Derived.Test.YtlcmkgbabffmeaaLim2
import Derived.Test.YtlcmkgbabffmeaaLim4
namespace Go.Proofs.Ytlcmkgbabffmeaa.Print
open Go.RowKit Go.Proofs.YtlcmkgbabffmeaaW.PrintWords Go.Proofs.YtlcmkgbabffmeaaW.PrintLast Go.Proofs.Ytlcmkgbabffmeaa.Base
set_option linter.unusedVariables false
set_option maxRecDepth 20000
noncomputable def laws_markRollout.fv (a0_0 : Int) (l0_1 : List Int) (a0_2 : Int) (a0_3 : Bool) (a1 : Int) : Option (Int × List Int) := Lim fun k => laws_markRollout.f k a0_0 l0_1 a0_2 a0_3 a1
theorem laws_markRollout.f_is (a0_0 : Int) (l0_1 : List Int) (a0_2 : Int) (a0_3 : Bool) (a1 : Int) : Is (fun k => laws_markRollout.f k a0_0 l0_1 a0_2 a0_3 a1) (laws_markRollout.fv a0_0 l0_1 a0_2 a0_3 a1) := ⟨fun k => laws_markRollout.mono a0_0 l0_1 a0_2 a0_3 a1 k, rfl⟩
theorem laws_markRollout.fv_eq (a0_0 : Int) (l0_1 : List Int) (a0_2 : Int) (a0_3 : Bool) (a1 : Int) : laws_markRollout.fv a0_0 l0_1 a0_2 a0_3 a1 = (laws_markIntS.fv l0_1 a1).bind fun bt320 => (some (bt320.1, bt320.2)) := by
  refine Is.lim (g := fun k => laws_markRollout.f k a0_0 l0_1 a0_2 a0_3 a1) ?_
  · unfold laws_markRollout.f
    repeat' first
    | with_reducible exact laws_markIntS.f_is _ _
    | with_reducible exact Is.now _
    | with_reducible refine Is.ite ?_ ?_
    | with_reducible refine Is.bind ?_ (fun _ => ?_)
noncomputable def laws_heldIntS.l0v (x0 : List Int) (x1 : Int) (x5 : Int) : Option (Int) := Lim fun k => laws_heldIntS.l0 k x0 x1 x5
noncomputable def laws_heldIntS.fv (l0 : List Int) (a1 : Int) : Option (Int) := Lim fun k => laws_heldIntS.f k l0 a1
theorem laws_heldIntS.l0_is (x0 : List Int) (x1 : Int) (x5 : Int) : Is (fun k => laws_heldIntS.l0 k x0 x1 x5) (laws_heldIntS.l0v x0 x1 x5) := ⟨fun k => (laws_heldIntS.mono_l k) x0 x1 x5, rfl⟩
theorem laws_heldIntS.f_is (l0 : List Int) (a1 : Int) : Is (fun k => laws_heldIntS.f k l0 a1) (laws_heldIntS.fv l0 a1) := ⟨fun k => laws_heldIntS.mono l0 a1 k, rfl⟩
theorem laws_heldIntS.l0v_eq (x0 : List Int) (x1 : Int) (x5 : Int) : laws_heldIntS.l0v x0 x1 x5 = if x5 < (x0.length : Int) then (if 0 ≤ x5 then (if (rd x0 x5) = x1 then (laws_heldIntS.l0v x0 (wrap64 (x1 + 1)) (wrap64 (x5 + 1))) else (some (-1))) else (none)) else (some x1) := by
  refine Is.step (laws_heldIntS.l0_is x0 x1 x5).mo (fun k => by rw [laws_heldIntS.l0]) ?_
  · skip
    repeat' first
    | with_reducible exact laws_heldIntS.l0_is _ _ _
    | with_reducible exact Is.now _
    | with_reducible refine Is.ite ?_ ?_
    | with_reducible refine Is.bind ?_ (fun _ => ?_)
theorem laws_heldIntS.fv_eq (l0 : List Int) (a1 : Int) : laws_heldIntS.fv l0 a1 = laws_heldIntS.l0v l0 a1 0 := by
  refine Is.lim (g := fun k => laws_heldIntS.f k l0 a1) ?_
  · unfold laws_heldIntS.f
    repeat' first
    | with_reducible exact laws_heldIntS.l0_is _ _ _
    | with_reducible exact Is.now _
    | with_reducible refine Is.ite ?_ ?_
    | with_reducible refine Is.bind ?_ (fun _ => ?_)
noncomputable def laws_heldRollout.fv (a0_0 : Int) (l0_1 : List Int) (a0_2 : Int) (a0_3 : Bool) (a1 : Int) : Option (Int) := Lim fun k => laws_heldRollout.f k a0_0 l0_1 a0_2 a0_3 a1
theorem laws_heldRollout.f_is (a0_0 : Int) (l0_1 : List Int) (a0_2 : Int) (a0_3 : Bool) (a1 : Int) : Is (fun k => laws_heldRollout.f k a0_0 l0_1 a0_2 a0_3 a1) (laws_heldRollout.fv a0_0 l0_1 a0_2 a0_3 a1) := ⟨fun k => laws_heldRollout.mono a0_0 l0_1 a0_2 a0_3 a1 k, rfl⟩
theorem laws_heldRollout.fv_eq (a0_0 : Int) (l0_1 : List Int) (a0_2 : Int) (a0_3 : Bool) (a1 : Int) : laws_heldRollout.fv a0_0 l0_1 a0_2 a0_3 a1 = (laws_heldIntS.fv l0_1 a1).bind fun t324 => (if t324 < 0 then (some (-1)) else (some t324)) := by
  refine Is.lim (g := fun k => laws_heldRollout.f k a0_0 l0_1 a0_2 a0_3 a1) ?_
  · unfold laws_heldRollout.f
    repeat' first
    | with_reducible exact laws_heldIntS.f_is _ _
    | with_reducible exact Is.now _
    | with_reducible refine Is.ite ?_ ?_
    | with_reducible refine Is.bind ?_ (fun _ => ?_)
noncomputable def spec_BackStage.fv (a0_0 : Int) (l0_1 : List Int) (a0_2 : Int) (a0_3 : Bool) : Option (Int × List Int × Int × Bool × Bool) := Lim fun k => spec_BackStage.f k a0_0 l0_1 a0_2 a0_3
theorem spec_BackStage.f_is (a0_0 : Int) (l0_1 : List Int) (a0_2 : Int) (a0_3 : Bool) : Is (fun k => spec_BackStage.f k a0_0 l0_1 a0_2 a0_3) (spec_BackStage.fv a0_0 l0_1 a0_2 a0_3) := ⟨fun k => spec_BackStage.mono a0_0 l0_1 a0_2 a0_3 k, rfl⟩
theorem spec_BackStage.fv_eq (a0_0 : Int) (l0_1 : List Int) (a0_2 : Int) (a0_3 : Bool) : spec_BackStage.fv a0_0 l0_1 a0_2 a0_3 = (spec_l26Copy.f a0_0 l0_1 a0_2 a0_3).bind fun bt388 => ((spec_IsRollout.fv a0_0 l0_1 a0_2 a0_3).bind fun t395 => (if t395 = true then (if a0_3 = true then (some (bt388.1, bt388.2.1, bt388.2.2.1, bt388.2.2.2, false)) else (some (bt388.1, bt388.2.1, 0, true, true))) else (some (bt388.1, bt388.2.1, bt388.2.2.1, bt388.2.2.2, false)))) := by
  refine Is.lim (g := fun k => spec_BackStage.f k a0_0 l0_1 a0_2 a0_3) ?_
  · unfold spec_BackStage.f
    repeat' first
    | with_reducible exact spec_IsRollout.f_is _ _ _ _
    | with_reducible exact Is.now _
    | with_reducible refine Is.ite ?_ ?_
    | with_reducible refine Is.bind ?_ (fun _ => ?_)
noncomputable def impl_BackStage.fv (a0_0 : Int) (l0_1 : List Int) (a0_2 : Int) (a0_3 : Bool) : Option (Int × List Int × Int × Bool × Bool) := Lim fun k => impl_BackStage.f k a0_0 l0_1 a0_2 a0_3
theorem impl_BackStage.f_is (a0_0 : Int) (l0_1 : List Int) (a0_2 : Int) (a0_3 : Bool) : Is (fun k => impl_BackStage.f k a0_0 l0_1 a0_2 a0_3) (impl_BackStage.fv a0_0 l0_1 a0_2 a0_3) := ⟨fun k => impl_BackStage.mono a0_0 l0_1 a0_2 a0_3 k, rfl⟩
theorem impl_BackStage.fv_eq (a0_0 : Int) (l0_1 : List Int) (a0_2 : Int) (a0_3 : Bool) : impl_BackStage.fv a0_0 l0_1 a0_2 a0_3 = (impl_copyRollout.f a0_0 l0_1 a0_2 a0_3).bind fun bt398 => ((impl_IsRollout.fv a0_0 l0_1 a0_2 a0_3).bind fun t405 => (if t405 = true then (if a0_3 = true then (some (bt398.1, bt398.2.1, bt398.2.2.1, bt398.2.2.2, false)) else (some (bt398.1, bt398.2.1, 0, true, true))) else (some (bt398.1, bt398.2.1, bt398.2.2.1, bt398.2.2.2, false)))) := by
  refine Is.lim (g := fun k => impl_BackStage.f k a0_0 l0_1 a0_2 a0_3) ?_
  · unfold impl_BackStage.f
    repeat' first
    | with_reducible exact impl_IsRollout.f_is _ _ _ _
    | with_reducible exact Is.now _
    | with_reducible refine Is.ite ?_ ?_
    | with_reducible refine Is.bind ?_ (fun _ => ?_)
noncomputable def spec_l1New.l0v (x0 : List Int) (x3 : Int) (x4 : Int) : Option (List Int × Int × Int) := Lim fun k => spec_l1New.l0 k x0 x3 x4
noncomputable def spec_l1New.fv (l0 : List Int) : Option (List Int × Int × Int) := Lim fun k => spec_l1New.f k l0
theorem spec_l1New.l0_is (x0 : List Int) (x3 : Int) (x4 : Int) : Is (fun k => spec_l1New.l0 k x0 x3 x4) (spec_l1New.l0v x0 x3 x4) := ⟨fun k => (spec_l1New.mono_l k) x0 x3 x4, rfl⟩
theorem spec_l1New.f_is (l0 : List Int) : Is (fun k => spec_l1New.f k l0) (spec_l1New.fv l0) := ⟨fun k => spec_l1New.mono l0 k, rfl⟩
theorem spec_l1New.l0v_eq (x0 : List Int) (x3 : Int) (x4 : Int) : spec_l1New.l0v x0 x3 x4 = if x4 < (x0.length : Int) then (if x4 < 4000 then (if 0 ≤ x4 then (spec_l1New.l0v x0 (Go.bits .and .i64 (wrap64 ((wrap64 ((wrap64 (x3 * 137)) + (wrap64 (rd x0 x4)))) + 11)) 1073741823) (wrap64 (x4 + 1))) else (none)) else (some (x0, 0, x3))) else (some (x0, 0, x3)) := by
  refine Is.step (spec_l1New.l0_is x0 x3 x4).mo (fun k => by rw [spec_l1New.l0]) ?_
  · skip
    repeat' first
    | with_reducible exact spec_l1New.l0_is _ _ _
    | with_reducible exact Is.now _
    | with_reducible refine Is.ite ?_ ?_
    | with_reducible refine Is.bind ?_ (fun _ => ?_)
theorem spec_l1New.fv_eq (l0 : List Int) : spec_l1New.fv l0 = spec_l1New.l0v l0 (wrap64 (193017 + (l0.length : Int))) 0 := by
  refine Is.lim (g := fun k => spec_l1New.f k l0) ?_
  · unfold spec_l1New.f
    repeat' first
    | with_reducible exact spec_l1New.l0_is _ _ _
    | with_reducible exact Is.now _
    | with_reducible refine Is.ite ?_ ?_
    | with_reducible refine Is.bind ?_ (fun _ => ?_)
end Go.Proofs.Ytlcmkgbabffmeaa.Print
