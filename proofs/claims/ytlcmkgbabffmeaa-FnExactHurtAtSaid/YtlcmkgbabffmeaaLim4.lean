/- Written by a program of this session (limx.py): the equations of what the printed functions come to. No condition. -/
import Derived.Test.YtlcmkgbabffmeaaBase
import Derived.Test.YtlcmkgbabffmeaaPrint4
import Derived.Test.YtlcmkgbabffmeaaLim1
import Derived.Test.YtlcmkgbabffmeaaLim2
import Derived.Test.YtlcmkgbabffmeaaLim3
namespace Go.Proofs.Ytlcmkgbabffmeaa.Print
open Go.RowKit Go.Proofs.YtlcmkgbabffmeaaW.PrintWords Go.Proofs.YtlcmkgbabffmeaaW.PrintLast Go.Proofs.Ytlcmkgbabffmeaa.Base
set_option linter.unusedVariables false
set_option maxRecDepth 20000
noncomputable def impl_CountIn.fv (a0_0 : Int) (l0_1 : List Int) (a0_2 : Int) (a0_3 : Bool) (a1 : Int) : Option (Int) := Lim fun k => impl_CountIn.f k a0_0 l0_1 a0_2 a0_3 a1
theorem impl_CountIn.f_is (a0_0 : Int) (l0_1 : List Int) (a0_2 : Int) (a0_3 : Bool) (a1 : Int) : Is (fun k => impl_CountIn.f k a0_0 l0_1 a0_2 a0_3 a1) (impl_CountIn.fv a0_0 l0_1 a0_2 a0_3 a1) := ⟨fun k => impl_CountIn.mono a0_0 l0_1 a0_2 a0_3 a1 k, rfl⟩
theorem impl_CountIn.fv_eq (a0_0 : Int) (l0_1 : List Int) (a0_2 : Int) (a0_3 : Bool) (a1 : Int) : impl_CountIn.fv a0_0 l0_1 a0_2 a0_3 a1 = (impl_IsRollout.fv a0_0 l0_1 a0_2 a0_3).bind fun t226 => (if t226 = true then (if a0_3 = true then (some 0) else ((impl_InRange.f a1 0 10000).bind fun t227 => (if t227 = true then (if 0 ≤ a0_2 then (if a0_2 < (l0_1.length : Int) then ((impl_CeilDiv.f (wrap64 (a1 * (rd l0_1 a0_2))) 100).bind fun t229 => (some t229)) else (none)) else (none)) else (some 0)))) else (some 0)) := by
  refine Is.lim (g := fun k => impl_CountIn.f k a0_0 l0_1 a0_2 a0_3 a1) ?_
  · unfold impl_CountIn.f
    repeat' first
    | with_reducible exact impl_IsRollout.f_is _ _ _ _
    | with_reducible exact Is.now _
    | with_reducible refine Is.ite ?_ ?_
    | with_reducible refine Is.bind ?_ (fun _ => ?_)
noncomputable def spec_IsIn.fv (a0_0 : Int) (l0_1 : List Int) (a0_2 : Int) (a0_3 : Bool) (a1 : Int) (a2 : Int) : Option (Bool) := Lim fun k => spec_IsIn.f k a0_0 l0_1 a0_2 a0_3 a1 a2
theorem spec_IsIn.f_is (a0_0 : Int) (l0_1 : List Int) (a0_2 : Int) (a0_3 : Bool) (a1 : Int) (a2 : Int) : Is (fun k => spec_IsIn.f k a0_0 l0_1 a0_2 a0_3 a1 a2) (spec_IsIn.fv a0_0 l0_1 a0_2 a0_3 a1 a2) := ⟨fun k => spec_IsIn.mono a0_0 l0_1 a0_2 a0_3 a1 a2 k, rfl⟩
theorem spec_IsIn.fv_eq (a0_0 : Int) (l0_1 : List Int) (a0_2 : Int) (a0_3 : Bool) (a1 : Int) (a2 : Int) : spec_IsIn.fv a0_0 l0_1 a0_2 a0_3 a1 a2 = if a1 ≥ 0 then (if a1 < a2 then ((spec_CountIn.fv a0_0 l0_1 a0_2 a0_3 a2).bind fun t255 => (some (decide (a1 < t255)))) else (some false)) else (some false) := by
  refine Is.lim (g := fun k => spec_IsIn.f k a0_0 l0_1 a0_2 a0_3 a1 a2) ?_
  · unfold spec_IsIn.f
    repeat' first
    | with_reducible exact spec_CountIn.f_is _ _ _ _ _
    | with_reducible exact Is.now _
    | with_reducible refine Is.ite ?_ ?_
    | with_reducible refine Is.bind ?_ (fun _ => ?_)
noncomputable def impl_IsIn.fv (a0_0 : Int) (l0_1 : List Int) (a0_2 : Int) (a0_3 : Bool) (a1 : Int) (a2 : Int) : Option (Bool) := Lim fun k => impl_IsIn.f k a0_0 l0_1 a0_2 a0_3 a1 a2
theorem impl_IsIn.f_is (a0_0 : Int) (l0_1 : List Int) (a0_2 : Int) (a0_3 : Bool) (a1 : Int) (a2 : Int) : Is (fun k => impl_IsIn.f k a0_0 l0_1 a0_2 a0_3 a1 a2) (impl_IsIn.fv a0_0 l0_1 a0_2 a0_3 a1 a2) := ⟨fun k => impl_IsIn.mono a0_0 l0_1 a0_2 a0_3 a1 a2 k, rfl⟩
theorem impl_IsIn.fv_eq (a0_0 : Int) (l0_1 : List Int) (a0_2 : Int) (a0_3 : Bool) (a1 : Int) (a2 : Int) : impl_IsIn.fv a0_0 l0_1 a0_2 a0_3 a1 a2 = if a1 ≥ 0 then (if a1 < a2 then ((impl_CountIn.fv a0_0 l0_1 a0_2 a0_3 a2).bind fun t257 => (some (decide (a1 < t257)))) else (some false)) else (some false) := by
  refine Is.lim (g := fun k => impl_IsIn.f k a0_0 l0_1 a0_2 a0_3 a1 a2) ?_
  · unfold impl_IsIn.f
    repeat' first
    | with_reducible exact impl_CountIn.f_is _ _ _ _ _
    | with_reducible exact Is.now _
    | with_reducible refine Is.ite ?_ ?_
    | with_reducible refine Is.bind ?_ (fun _ => ?_)
noncomputable def spec_NextStage.fv (a0_0 : Int) (l0_1 : List Int) (a0_2 : Int) (a0_3 : Bool) : Option (Int × List Int × Int × Bool × Bool) := Lim fun k => spec_NextStage.f k a0_0 l0_1 a0_2 a0_3
theorem spec_NextStage.f_is (a0_0 : Int) (l0_1 : List Int) (a0_2 : Int) (a0_3 : Bool) : Is (fun k => spec_NextStage.f k a0_0 l0_1 a0_2 a0_3) (spec_NextStage.fv a0_0 l0_1 a0_2 a0_3) := ⟨fun k => spec_NextStage.mono a0_0 l0_1 a0_2 a0_3 k, rfl⟩
theorem spec_NextStage.fv_eq (a0_0 : Int) (l0_1 : List Int) (a0_2 : Int) (a0_3 : Bool) : spec_NextStage.fv a0_0 l0_1 a0_2 a0_3 = (spec_l26Copy.f a0_0 l0_1 a0_2 a0_3).bind fun bt292 => ((spec_IsRollout.fv a0_0 l0_1 a0_2 a0_3).bind fun t299 => (if t299 = true then (if a0_3 = true then (some (bt292.1, bt292.2.1, bt292.2.2.1, bt292.2.2.2, false)) else (if a0_2 = (wrap64 ((l0_1.length : Int) - 1)) then (some (bt292.1, bt292.2.1, bt292.2.2.1, bt292.2.2.2, false)) else (some (bt292.1, bt292.2.1, wrap64 (a0_2 + 1), bt292.2.2.2, true)))) else (some (bt292.1, bt292.2.1, bt292.2.2.1, bt292.2.2.2, false)))) := by
  refine Is.lim (g := fun k => spec_NextStage.f k a0_0 l0_1 a0_2 a0_3) ?_
  · unfold spec_NextStage.f
    repeat' first
    | with_reducible exact spec_IsRollout.f_is _ _ _ _
    | with_reducible exact Is.now _
    | with_reducible refine Is.ite ?_ ?_
    | with_reducible refine Is.bind ?_ (fun _ => ?_)
noncomputable def impl_NextStage.fv (a0_0 : Int) (l0_1 : List Int) (a0_2 : Int) (a0_3 : Bool) : Option (Int × List Int × Int × Bool × Bool) := Lim fun k => impl_NextStage.f k a0_0 l0_1 a0_2 a0_3
theorem impl_NextStage.f_is (a0_0 : Int) (l0_1 : List Int) (a0_2 : Int) (a0_3 : Bool) : Is (fun k => impl_NextStage.f k a0_0 l0_1 a0_2 a0_3) (impl_NextStage.fv a0_0 l0_1 a0_2 a0_3) := ⟨fun k => impl_NextStage.mono a0_0 l0_1 a0_2 a0_3 k, rfl⟩
theorem impl_NextStage.fv_eq (a0_0 : Int) (l0_1 : List Int) (a0_2 : Int) (a0_3 : Bool) : impl_NextStage.fv a0_0 l0_1 a0_2 a0_3 = (impl_copyRollout.f a0_0 l0_1 a0_2 a0_3).bind fun bt310 => ((impl_IsRollout.fv a0_0 l0_1 a0_2 a0_3).bind fun t317 => (if t317 = true then (if a0_3 = true then (some (bt310.1, bt310.2.1, bt310.2.2.1, bt310.2.2.2, false)) else (if a0_2 = (wrap64 ((l0_1.length : Int) - 1)) then (some (bt310.1, bt310.2.1, bt310.2.2.1, bt310.2.2.2, false)) else (some (bt310.1, bt310.2.1, wrap64 (bt310.2.2.1 + 1), bt310.2.2.2, true)))) else (some (bt310.1, bt310.2.1, bt310.2.2.1, bt310.2.2.2, false)))) := by
  refine Is.lim (g := fun k => impl_NextStage.f k a0_0 l0_1 a0_2 a0_3) ?_
  · unfold impl_NextStage.f
    repeat' first
    | with_reducible exact impl_IsRollout.f_is _ _ _ _
    | with_reducible exact Is.now _
    | with_reducible refine Is.ite ?_ ?_
    | with_reducible refine Is.bind ?_ (fun _ => ?_)
noncomputable def laws_markIntS.l0v (x0 : List Int) (x1 : Int) (x5 : Int) : Option (Int × List Int) := Lim fun k => laws_markIntS.l0 k x0 x1 x5
noncomputable def laws_markIntS.fv (l0 : List Int) (a1 : Int) : Option (Int × List Int) := Lim fun k => laws_markIntS.f k l0 a1
theorem laws_markIntS.l0_is (x0 : List Int) (x1 : Int) (x5 : Int) : Is (fun k => laws_markIntS.l0 k x0 x1 x5) (laws_markIntS.l0v x0 x1 x5) := ⟨fun k => (laws_markIntS.mono_l k) x0 x1 x5, rfl⟩
theorem laws_markIntS.f_is (l0 : List Int) (a1 : Int) : Is (fun k => laws_markIntS.f k l0 a1) (laws_markIntS.fv l0 a1) := ⟨fun k => laws_markIntS.mono l0 a1 k, rfl⟩
theorem laws_markIntS.l0v_eq (x0 : List Int) (x1 : Int) (x5 : Int) : laws_markIntS.l0v x0 x1 x5 = if x5 < (x0.length : Int) then (if 0 ≤ x5 then (laws_markIntS.l0v (x0.set (x5 : Int).toNat x1) (wrap64 (x1 + 1)) (wrap64 (x5 + 1))) else (none)) else (some (x1, x0)) := by
  refine Is.step (laws_markIntS.l0_is x0 x1 x5).mo (fun k => by rw [laws_markIntS.l0]) ?_
  · skip
    repeat' first
    | with_reducible exact laws_markIntS.l0_is _ _ _
    | with_reducible exact Is.now _
    | with_reducible refine Is.ite ?_ ?_
    | with_reducible refine Is.bind ?_ (fun _ => ?_)
theorem laws_markIntS.fv_eq (l0 : List Int) (a1 : Int) : laws_markIntS.fv l0 a1 = laws_markIntS.l0v l0 a1 0 := by
  refine Is.lim (g := fun k => laws_markIntS.f k l0 a1) ?_
  · unfold laws_markIntS.f
    repeat' first
    | with_reducible exact laws_markIntS.l0_is _ _ _
    | with_reducible exact Is.now _
    | with_reducible refine Is.ite ?_ ?_
    | with_reducible refine Is.bind ?_ (fun _ => ?_)
end Go.Proofs.Ytlcmkgbabffmeaa.Print
