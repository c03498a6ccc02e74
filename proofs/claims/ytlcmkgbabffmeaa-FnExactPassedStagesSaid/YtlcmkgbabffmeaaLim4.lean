/- Written by a program of this session (limx.py): the equations of what the printed functions come to. No condition. -/
import Derived.Test.YtlcmkgbabffmeaaBase
import Derived.Test.YtlcmkgbabffmeaaPrint4
import Derived.Test.YtlcmkgbabffmeaaLim1
import Derived.Test.YtlcmkgbabffmeaaLim3
namespace Go.Proofs.Ytlcmkgbabffmeaa.Print
open Go.RowKit Go.Proofs.YtlcmkgbabffmeaaW.PrintWords Go.Proofs.YtlcmkgbabffmeaaW.PrintLast Go.Proofs.Ytlcmkgbabffmeaa.Base
set_option linter.unusedVariables false
set_option maxRecDepth 20000
noncomputable def spec_CountIn.fv (a0_0 : Int) (l0_1 : List Int) (a0_2 : Int) (a0_3 : Bool) (a1 : Int) : Option (Int) := Lim fun k => spec_CountIn.f k a0_0 l0_1 a0_2 a0_3 a1
theorem spec_CountIn.f_is (a0_0 : Int) (l0_1 : List Int) (a0_2 : Int) (a0_3 : Bool) (a1 : Int) : Is (fun k => spec_CountIn.f k a0_0 l0_1 a0_2 a0_3 a1) (spec_CountIn.fv a0_0 l0_1 a0_2 a0_3 a1) := ⟨fun k => spec_CountIn.mono a0_0 l0_1 a0_2 a0_3 a1 k, rfl⟩
theorem spec_CountIn.fv_eq (a0_0 : Int) (l0_1 : List Int) (a0_2 : Int) (a0_3 : Bool) (a1 : Int) : spec_CountIn.fv a0_0 l0_1 a0_2 a0_3 a1 = (spec_IsRollout.fv a0_0 l0_1 a0_2 a0_3).bind fun t288 => (if t288 = true then (if a0_3 = true then (some 0) else ((spec_l1In.f a1 0 10000).bind fun t289 => (if t289 = true then (if 0 ≤ a0_2 then (if a0_2 < (l0_1.length : Int) then ((spec_CeilDiv.f (wrap64 (a1 * (rd l0_1 a0_2))) 100).bind fun t291 => (some t291)) else (none)) else (none)) else (some 0)))) else (some 0)) := by
  refine Is.lim (g := fun k => spec_CountIn.f k a0_0 l0_1 a0_2 a0_3 a1) ?_
  · unfold spec_CountIn.f
    repeat' first
    | with_reducible exact spec_IsRollout.f_is _ _ _ _
    | with_reducible exact Is.now _
    | with_reducible refine Is.ite ?_ ?_
    | with_reducible refine Is.bind ?_ (fun _ => ?_)
noncomputable def impl_CountIn.fv (a0_0 : Int) (l0_1 : List Int) (a0_2 : Int) (a0_3 : Bool) (a1 : Int) : Option (Int) := Lim fun k => impl_CountIn.f k a0_0 l0_1 a0_2 a0_3 a1
theorem impl_CountIn.f_is (a0_0 : Int) (l0_1 : List Int) (a0_2 : Int) (a0_3 : Bool) (a1 : Int) : Is (fun k => impl_CountIn.f k a0_0 l0_1 a0_2 a0_3 a1) (impl_CountIn.fv a0_0 l0_1 a0_2 a0_3 a1) := ⟨fun k => impl_CountIn.mono a0_0 l0_1 a0_2 a0_3 a1 k, rfl⟩
theorem impl_CountIn.fv_eq (a0_0 : Int) (l0_1 : List Int) (a0_2 : Int) (a0_3 : Bool) (a1 : Int) : impl_CountIn.fv a0_0 l0_1 a0_2 a0_3 a1 = (impl_IsRollout.fv a0_0 l0_1 a0_2 a0_3).bind fun t295 => (if t295 = true then (if a0_3 = true then (some 0) else ((impl_InRange.f a1 0 10000).bind fun t296 => (if t296 = true then (if 0 ≤ a0_2 then (if a0_2 < (l0_1.length : Int) then ((impl_CeilDiv.f (wrap64 (a1 * (rd l0_1 a0_2))) 100).bind fun t298 => (some t298)) else (none)) else (none)) else (some 0)))) else (some 0)) := by
  refine Is.lim (g := fun k => impl_CountIn.f k a0_0 l0_1 a0_2 a0_3 a1) ?_
  · unfold impl_CountIn.f
    repeat' first
    | with_reducible exact impl_IsRollout.f_is _ _ _ _
    | with_reducible exact Is.now _
    | with_reducible refine Is.ite ?_ ?_
    | with_reducible refine Is.bind ?_ (fun _ => ?_)
noncomputable def impl_MostHurt.j0v (x1 : Int) (x2 : Int) (x19 : Bool) (x300000 : Int) (x300001 : List Int) (x300002 : Int) (x300003 : Bool) : Option (Int) := Lim fun k => impl_MostHurt.j0 k x1 x2 x19 x300000 x300001 x300002 x300003
noncomputable def impl_MostHurt.l0v (x1 : Int) (x7 : Int) (x20 : Int) (x21 : Int) (x300000 : Int) (x300001 : List Int) (x300002 : Int) (x300003 : Bool) : Option (Int) := Lim fun k => impl_MostHurt.l0 k x1 x7 x20 x21 x300000 x300001 x300002 x300003
noncomputable def impl_MostHurt.fv (a0_0 : Int) (l0_1 : List Int) (a0_2 : Int) (a0_3 : Bool) (a1 : Int) (a2 : Int) : Option (Int) := Lim fun k => impl_MostHurt.f k a0_0 l0_1 a0_2 a0_3 a1 a2
theorem impl_MostHurt.j0_is (x1 : Int) (x2 : Int) (x19 : Bool) (x300000 : Int) (x300001 : List Int) (x300002 : Int) (x300003 : Bool) : Is (fun k => impl_MostHurt.j0 k x1 x2 x19 x300000 x300001 x300002 x300003) (impl_MostHurt.j0v x1 x2 x19 x300000 x300001 x300002 x300003) := ⟨fun k => (impl_MostHurt.mono_l k).1 x1 x2 x19 x300000 x300001 x300002 x300003, rfl⟩
theorem impl_MostHurt.l0_is (x1 : Int) (x7 : Int) (x20 : Int) (x21 : Int) (x300000 : Int) (x300001 : List Int) (x300002 : Int) (x300003 : Bool) : Is (fun k => impl_MostHurt.l0 k x1 x7 x20 x21 x300000 x300001 x300002 x300003) (impl_MostHurt.l0v x1 x7 x20 x21 x300000 x300001 x300002 x300003) := ⟨fun k => (impl_MostHurt.mono_l k).2 x1 x7 x20 x21 x300000 x300001 x300002 x300003, rfl⟩
theorem impl_MostHurt.f_is (a0_0 : Int) (l0_1 : List Int) (a0_2 : Int) (a0_3 : Bool) (a1 : Int) (a2 : Int) : Is (fun k => impl_MostHurt.f k a0_0 l0_1 a0_2 a0_3 a1 a2) (impl_MostHurt.fv a0_0 l0_1 a0_2 a0_3 a1 a2) := ⟨fun k => impl_MostHurt.mono a0_0 l0_1 a0_2 a0_3 a1 a2 k, rfl⟩
theorem impl_MostHurt.j0v_eq (x1 : Int) (x2 : Int) (x19 : Bool) (x300000 : Int) (x300001 : List Int) (x300002 : Int) (x300003 : Bool) : impl_MostHurt.j0v x1 x2 x19 x300000 x300001 x300002 x300003 = if x19 = true then (some 0) else (impl_MostHurt.l0v x1 0 x2 0 x300000 x300001 x300002 x300003) := by
  refine Is.step (impl_MostHurt.j0_is x1 x2 x19 x300000 x300001 x300002 x300003).mo (fun k => by rw [impl_MostHurt.j0]) ?_
  · skip
    repeat' first
    | with_reducible exact impl_MostHurt.l0_is _ _ _ _ _ _ _ _
    | with_reducible exact Is.now _
    | with_reducible refine Is.ite ?_ ?_
    | with_reducible refine Is.bind ?_ (fun _ => ?_)
theorem impl_MostHurt.l0v_eq (x1 : Int) (x7 : Int) (x20 : Int) (x21 : Int) (x300000 : Int) (x300001 : List Int) (x300002 : Int) (x300003 : Bool) : impl_MostHurt.l0v x1 x7 x20 x21 x300000 x300001 x300002 x300003 = if x21 < x20 then ((impl_CountIn.fv x300000 x300001 x21 x300003 x1).bind fun t302 => (impl_MostHurt.l0v x1 (mx x7 t302) x20 (wrap64 (x21 + 1)) x300000 x300001 x21 x300003)) else (some x7) := by
  refine Is.step (impl_MostHurt.l0_is x1 x7 x20 x21 x300000 x300001 x300002 x300003).mo (fun k => by rw [impl_MostHurt.l0]) ?_
  · skip
    repeat' first
    | with_reducible exact impl_CountIn.f_is _ _ _ _ _
    | with_reducible exact impl_MostHurt.l0_is _ _ _ _ _ _ _ _
    | with_reducible exact Is.now _
    | with_reducible refine Is.ite ?_ ?_
    | with_reducible refine Is.bind ?_ (fun _ => ?_)
theorem impl_MostHurt.fv_eq (a0_0 : Int) (l0_1 : List Int) (a0_2 : Int) (a0_3 : Bool) (a1 : Int) (a2 : Int) : impl_MostHurt.fv a0_0 l0_1 a0_2 a0_3 a1 a2 = (impl_IsRollout.fv a0_0 l0_1 a0_2 a0_3).bind fun t300 => (if t300 = true then ((impl_InRange.f a2 1 (l0_1.length : Int)).bind fun t301 => (impl_MostHurt.j0v a1 a2 (!t301) a0_0 l0_1 a0_2 a0_3)) else (impl_MostHurt.j0v a1 a2 true a0_0 l0_1 a0_2 a0_3)) := by
  refine Is.lim (g := fun k => impl_MostHurt.f k a0_0 l0_1 a0_2 a0_3 a1 a2) ?_
  · unfold impl_MostHurt.f
    repeat' first
    | with_reducible exact impl_IsRollout.f_is _ _ _ _
    | with_reducible exact impl_MostHurt.j0_is _ _ _ _ _ _ _
    | with_reducible exact Is.now _
    | with_reducible refine Is.ite ?_ ?_
    | with_reducible refine Is.bind ?_ (fun _ => ?_)
noncomputable def impl_IsIn.fv (a0_0 : Int) (l0_1 : List Int) (a0_2 : Int) (a0_3 : Bool) (a1 : Int) (a2 : Int) : Option (Bool) := Lim fun k => impl_IsIn.f k a0_0 l0_1 a0_2 a0_3 a1 a2
theorem impl_IsIn.f_is (a0_0 : Int) (l0_1 : List Int) (a0_2 : Int) (a0_3 : Bool) (a1 : Int) (a2 : Int) : Is (fun k => impl_IsIn.f k a0_0 l0_1 a0_2 a0_3 a1 a2) (impl_IsIn.fv a0_0 l0_1 a0_2 a0_3 a1 a2) := ⟨fun k => impl_IsIn.mono a0_0 l0_1 a0_2 a0_3 a1 a2 k, rfl⟩
theorem impl_IsIn.fv_eq (a0_0 : Int) (l0_1 : List Int) (a0_2 : Int) (a0_3 : Bool) (a1 : Int) (a2 : Int) : impl_IsIn.fv a0_0 l0_1 a0_2 a0_3 a1 a2 = if a1 ≥ 0 then (if a1 < a2 then ((impl_CountIn.fv a0_0 l0_1 a0_2 a0_3 a2).bind fun t304 => (some (decide (a1 < t304)))) else (some false)) else (some false) := by
  refine Is.lim (g := fun k => impl_IsIn.f k a0_0 l0_1 a0_2 a0_3 a1 a2) ?_
  · unfold impl_IsIn.f
    repeat' first
    | with_reducible exact impl_CountIn.f_is _ _ _ _ _
    | with_reducible exact Is.now _
    | with_reducible refine Is.ite ?_ ?_
    | with_reducible refine Is.bind ?_ (fun _ => ?_)
noncomputable def impl_HurtAt.l0v (x1 : Int) (x7 : Int) (x14 : List Bool) (x15 : Int) (x16 : Int) (x306000 : Int) (x306001 : List Int) (x306002 : Int) (x306003 : Bool) : Option (Int) := Lim fun k => impl_HurtAt.l0 k x1 x7 x14 x15 x16 x306000 x306001 x306002 x306003
noncomputable def impl_HurtAt.fv (a0_0 : Int) (l0_1 : List Int) (a0_2 : Int) (a0_3 : Bool) (a1 : Int) (l2 : List Bool) : Option (Int) := Lim fun k => impl_HurtAt.f k a0_0 l0_1 a0_2 a0_3 a1 l2
theorem impl_HurtAt.l0_is (x1 : Int) (x7 : Int) (x14 : List Bool) (x15 : Int) (x16 : Int) (x306000 : Int) (x306001 : List Int) (x306002 : Int) (x306003 : Bool) : Is (fun k => impl_HurtAt.l0 k x1 x7 x14 x15 x16 x306000 x306001 x306002 x306003) (impl_HurtAt.l0v x1 x7 x14 x15 x16 x306000 x306001 x306002 x306003) := ⟨fun k => (impl_HurtAt.mono_l k) x1 x7 x14 x15 x16 x306000 x306001 x306002 x306003, rfl⟩
theorem impl_HurtAt.f_is (a0_0 : Int) (l0_1 : List Int) (a0_2 : Int) (a0_3 : Bool) (a1 : Int) (l2 : List Bool) : Is (fun k => impl_HurtAt.f k a0_0 l0_1 a0_2 a0_3 a1 l2) (impl_HurtAt.fv a0_0 l0_1 a0_2 a0_3 a1 l2) := ⟨fun k => impl_HurtAt.mono a0_0 l0_1 a0_2 a0_3 a1 l2 k, rfl⟩
theorem impl_HurtAt.l0v_eq (x1 : Int) (x7 : Int) (x14 : List Bool) (x15 : Int) (x16 : Int) (x306000 : Int) (x306001 : List Int) (x306002 : Int) (x306003 : Bool) : impl_HurtAt.l0v x1 x7 x14 x15 x16 x306000 x306001 x306002 x306003 = if x16 < x15 then (if 0 ≤ x16 then (if x16 < (x14.length : Int) then (if rdOf false x14 x16 = true then ((impl_IsIn.fv x306000 x306001 x306002 x306003 x16 x1).bind fun t307 => (if t307 = true then (impl_HurtAt.l0v x1 (wrap64 (x7 + 1)) x14 x15 (wrap64 (x16 + 1)) x306000 x306001 x306002 x306003) else (impl_HurtAt.l0v x1 x7 x14 x15 (wrap64 (x16 + 1)) x306000 x306001 x306002 x306003))) else (impl_HurtAt.l0v x1 x7 x14 x15 (wrap64 (x16 + 1)) x306000 x306001 x306002 x306003)) else (none)) else (none)) else (some x7) := by
  refine Is.step (impl_HurtAt.l0_is x1 x7 x14 x15 x16 x306000 x306001 x306002 x306003).mo (fun k => by rw [impl_HurtAt.l0]) ?_
  · skip
    repeat' first
    | with_reducible exact impl_HurtAt.l0_is _ _ _ _ _ _ _ _ _
    | with_reducible exact impl_IsIn.f_is _ _ _ _ _ _
    | with_reducible exact Is.now _
    | with_reducible refine Is.ite ?_ ?_
    | with_reducible refine Is.bind ?_ (fun _ => ?_)
theorem impl_HurtAt.fv_eq (a0_0 : Int) (l0_1 : List Int) (a0_2 : Int) (a0_3 : Bool) (a1 : Int) (l2 : List Bool) : impl_HurtAt.fv a0_0 l0_1 a0_2 a0_3 a1 l2 = if a1 = (l2.length : Int) then (impl_HurtAt.l0v a1 0 l2 (l2.length : Int) 0 a0_0 l0_1 a0_2 a0_3) else (some 0) := by
  refine Is.lim (g := fun k => impl_HurtAt.f k a0_0 l0_1 a0_2 a0_3 a1 l2) ?_
  · unfold impl_HurtAt.f
    repeat' first
    | with_reducible exact impl_HurtAt.l0_is _ _ _ _ _ _ _ _ _
    | with_reducible exact Is.now _
    | with_reducible refine Is.ite ?_ ?_
    | with_reducible refine Is.bind ?_ (fun _ => ?_)
end Go.Proofs.Ytlcmkgbabffmeaa.Print
