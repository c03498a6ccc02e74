/- Written by a program of this session (limx.py): the equations of what the printed functions come to. No condition. -/
import Derived.Test.YtdoefkloanpliaaBase
import Derived.Test.YtdoefkloanpliaaPrint5
import Derived.Test.YtdoefkloanpliaaLim2
import Derived.Test.YtdoefkloanpliaaLim3
import Derived.Test.YtdoefkloanpliaaLim4
namespace Go.Proofs.Ytdoefkloanpliaa.Print
open Go.RowKit Go.Proofs.YtdoefkloanpliaaW.PrintWords Go.Proofs.YtdoefkloanpliaaW.PrintLast Go.Proofs.Ytdoefkloanpliaa.Base
set_option linter.unusedVariables false
set_option maxRecDepth 20000
noncomputable def spec_MayRetire.j0v (x0 : List Int) (x1 : List (List Int)) (x2 : Int) (x3 : Int) (x27 : Bool) : Option (Bool) := Lim fun k => spec_MayRetire.j0 k x0 x1 x2 x3 x27
noncomputable def spec_MayRetire.fv (l0 : List Int) (l1 : List (List Int)) (a2 : Int) (a3 : Int) : Option (Bool) := Lim fun k => spec_MayRetire.f k l0 l1 a2 a3
theorem spec_MayRetire.j0_is (x0 : List Int) (x1 : List (List Int)) (x2 : Int) (x3 : Int) (x27 : Bool) : Is (fun k => spec_MayRetire.j0 k x0 x1 x2 x3 x27) (spec_MayRetire.j0v x0 x1 x2 x3 x27) := ⟨fun k => (spec_MayRetire.mono_l k) x0 x1 x2 x3 x27, rfl⟩
theorem spec_MayRetire.f_is (l0 : List Int) (l1 : List (List Int)) (a2 : Int) (a3 : Int) : Is (fun k => spec_MayRetire.f k l0 l1 a2 a3) (spec_MayRetire.fv l0 l1 a2 a3) := ⟨fun k => spec_MayRetire.mono l0 l1 a2 a3 k, rfl⟩
theorem spec_MayRetire.j0v_eq (x0 : List Int) (x1 : List (List Int)) (x2 : Int) (x3 : Int) (x27 : Bool) : spec_MayRetire.j0v x0 x1 x2 x3 x27 = if x27 = true then (some false) else ((spec_Stranded.fv x0 x1 x2).bind fun t257 => (if (t257.length : Int) = 0 then ((spec_UseOf.fv x0 x1 x2).bind fun t260 => (some (decide ((wrap64 (1000 * t260)) ≤ (wrap64 (x3 * (x1.length : Int))))))) else (some false))) := by
  refine Is.step (spec_MayRetire.j0_is x0 x1 x2 x3 x27).mo (fun k => by rw [spec_MayRetire.j0]) ?_
  · skip
    repeat' first
    | with_reducible exact spec_Stranded.f_is _ _ _
    | with_reducible exact spec_UseOf.f_is _ _ _
    | with_reducible exact Is.now _
    | with_reducible refine Is.ite ?_ ?_
    | with_reducible refine Is.bind ?_ (fun _ => ?_)
theorem spec_MayRetire.fv_eq (l0 : List Int) (l1 : List (List Int)) (a2 : Int) (a3 : Int) : spec_MayRetire.fv l0 l1 a2 a3 = (spec_AreVersions.fv l0).bind fun t254 => (if t254 = true then ((spec_l9Has.fv l0 a2).bind fun t255 => (if t255 = true then (if (l0.length : Int) = 1 then (spec_MayRetire.j0v l0 l1 a2 a3 true) else ((spec_l1In.f a3 0 1000).bind fun t256 => (spec_MayRetire.j0v l0 l1 a2 a3 (!t256)))) else (spec_MayRetire.j0v l0 l1 a2 a3 true))) else (spec_MayRetire.j0v l0 l1 a2 a3 true)) := by
  refine Is.lim (g := fun k => spec_MayRetire.f k l0 l1 a2 a3) ?_
  · unfold spec_MayRetire.f
    repeat' first
    | with_reducible exact spec_AreVersions.f_is _
    | with_reducible exact spec_MayRetire.j0_is _ _ _ _ _
    | with_reducible exact spec_l9Has.f_is _ _
    | with_reducible exact Is.now _
    | with_reducible refine Is.ite ?_ ?_
    | with_reducible refine Is.bind ?_ (fun _ => ?_)
noncomputable def spec_RetireVersion.fv (l0 : List Int) (l1 : List (List Int)) (a2 : Int) (a3 : Int) : Option (List Int × Bool) := Lim fun k => spec_RetireVersion.f k l0 l1 a2 a3
theorem spec_RetireVersion.f_is (l0 : List Int) (l1 : List (List Int)) (a2 : Int) (a3 : Int) : Is (fun k => spec_RetireVersion.f k l0 l1 a2 a3) (spec_RetireVersion.fv l0 l1 a2 a3) := ⟨fun k => spec_RetireVersion.mono l0 l1 a2 a3 k, rfl⟩
theorem spec_RetireVersion.fv_eq (l0 : List Int) (l1 : List (List Int)) (a2 : Int) (a3 : Int) : spec_RetireVersion.fv l0 l1 a2 a3 = (spec_MayRetire.fv l0 l1 a2 a3).bind fun t261 => (if t261 = true then ((spec_l12Without.fv l0 a2).bind fun t262 => (some (t262, true))) else ((some (([] : List Int) : List Int)).bind fun y265 => (if y265.length + l0.length < 17592186044416 then (some ((y265 ++ l0), false)) else (none)))) := by
  refine Is.lim (g := fun k => spec_RetireVersion.f k l0 l1 a2 a3) ?_
  · unfold spec_RetireVersion.f
    repeat' first
    | with_reducible exact spec_MayRetire.f_is _ _ _ _
    | with_reducible exact spec_l12Without.f_is _ _
    | with_reducible exact Is.now _
    | with_reducible refine Is.ite ?_ ?_
    | with_reducible refine Is.bind ?_ (fun _ => ?_)
noncomputable def impl_UseOf.l0v (x0 : List Int) (x2 : Int) (x7 : Int) (x12 : List (List Int)) (x13 : Int) (x14 : Int) : Option (Int) := Lim fun k => impl_UseOf.l0 k x0 x2 x7 x12 x13 x14
noncomputable def impl_UseOf.fv (l0 : List Int) (l1 : List (List Int)) (a2 : Int) : Option (Int) := Lim fun k => impl_UseOf.f k l0 l1 a2
theorem impl_UseOf.l0_is (x0 : List Int) (x2 : Int) (x7 : Int) (x12 : List (List Int)) (x13 : Int) (x14 : Int) : Is (fun k => impl_UseOf.l0 k x0 x2 x7 x12 x13 x14) (impl_UseOf.l0v x0 x2 x7 x12 x13 x14) := ⟨fun k => (impl_UseOf.mono_l k) x0 x2 x7 x12 x13 x14, rfl⟩
theorem impl_UseOf.f_is (l0 : List Int) (l1 : List (List Int)) (a2 : Int) : Is (fun k => impl_UseOf.f k l0 l1 a2) (impl_UseOf.fv l0 l1 a2) := ⟨fun k => impl_UseOf.mono l0 l1 a2 k, rfl⟩
theorem impl_UseOf.l0v_eq (x0 : List Int) (x2 : Int) (x7 : Int) (x12 : List (List Int)) (x13 : Int) (x14 : Int) : impl_UseOf.l0v x0 x2 x7 x12 x13 x14 = if x14 < x13 then (if 0 ≤ x14 then (if x14 < (x12.length : Int) then ((impl_BestCommon.fv x0 (rd_L1 x12 x14)).bind fun t272 => (if t272 = x2 then (impl_UseOf.l0v x0 x2 (wrap64 (x7 + 1)) x12 x13 (wrap64 (x14 + 1))) else (impl_UseOf.l0v x0 x2 x7 x12 x13 (wrap64 (x14 + 1))))) else (none)) else (none)) else (some x7) := by
  refine Is.step (impl_UseOf.l0_is x0 x2 x7 x12 x13 x14).mo (fun k => by rw [impl_UseOf.l0]) ?_
  · skip
    repeat' first
    | with_reducible exact impl_BestCommon.f_is _ _
    | with_reducible exact impl_UseOf.l0_is _ _ _ _ _ _
    | with_reducible exact Is.now _
    | with_reducible refine Is.ite ?_ ?_
    | with_reducible refine Is.bind ?_ (fun _ => ?_)
theorem impl_UseOf.fv_eq (l0 : List Int) (l1 : List (List Int)) (a2 : Int) : impl_UseOf.fv l0 l1 a2 = if a2 < 1 then (some 0) else (impl_UseOf.l0v l0 a2 0 l1 (l1.length : Int) 0) := by
  refine Is.lim (g := fun k => impl_UseOf.f k l0 l1 a2) ?_
  · unfold impl_UseOf.f
    repeat' first
    | with_reducible exact impl_UseOf.l0_is _ _ _ _ _ _
    | with_reducible exact Is.now _
    | with_reducible refine Is.ite ?_ ?_
    | with_reducible refine Is.bind ?_ (fun _ => ?_)
noncomputable def impl_MayRetire.j0v (x0 : List Int) (x1 : List (List Int)) (x2 : Int) (x3 : Int) (x27 : Bool) : Option (Bool) := Lim fun k => impl_MayRetire.j0 k x0 x1 x2 x3 x27
noncomputable def impl_MayRetire.fv (l0 : List Int) (l1 : List (List Int)) (a2 : Int) (a3 : Int) : Option (Bool) := Lim fun k => impl_MayRetire.f k l0 l1 a2 a3
theorem impl_MayRetire.j0_is (x0 : List Int) (x1 : List (List Int)) (x2 : Int) (x3 : Int) (x27 : Bool) : Is (fun k => impl_MayRetire.j0 k x0 x1 x2 x3 x27) (impl_MayRetire.j0v x0 x1 x2 x3 x27) := ⟨fun k => (impl_MayRetire.mono_l k) x0 x1 x2 x3 x27, rfl⟩
theorem impl_MayRetire.f_is (l0 : List Int) (l1 : List (List Int)) (a2 : Int) (a3 : Int) : Is (fun k => impl_MayRetire.f k l0 l1 a2 a3) (impl_MayRetire.fv l0 l1 a2 a3) := ⟨fun k => impl_MayRetire.mono l0 l1 a2 a3 k, rfl⟩
theorem impl_MayRetire.j0v_eq (x0 : List Int) (x1 : List (List Int)) (x2 : Int) (x3 : Int) (x27 : Bool) : impl_MayRetire.j0v x0 x1 x2 x3 x27 = if x27 = true then (some false) else ((impl_Stranded.fv x0 x1 x2).bind fun t276 => (if (t276.length : Int) = 0 then ((impl_UseOf.fv x0 x1 x2).bind fun t279 => (some (decide ((wrap64 (1000 * t279)) ≤ (wrap64 (x3 * (x1.length : Int))))))) else (some false))) := by
  refine Is.step (impl_MayRetire.j0_is x0 x1 x2 x3 x27).mo (fun k => by rw [impl_MayRetire.j0]) ?_
  · skip
    repeat' first
    | with_reducible exact impl_Stranded.f_is _ _ _
    | with_reducible exact impl_UseOf.f_is _ _ _
    | with_reducible exact Is.now _
    | with_reducible refine Is.ite ?_ ?_
    | with_reducible refine Is.bind ?_ (fun _ => ?_)
theorem impl_MayRetire.fv_eq (l0 : List Int) (l1 : List (List Int)) (a2 : Int) (a3 : Int) : impl_MayRetire.fv l0 l1 a2 a3 = (impl_AreVersions.fv l0).bind fun t273 => (if t273 = true then ((slices_Contains_int_int.fv l0 a2).bind fun t274 => (if t274 = true then (if (l0.length : Int) = 1 then (impl_MayRetire.j0v l0 l1 a2 a3 true) else ((impl_InRange.f a3 0 1000).bind fun t275 => (impl_MayRetire.j0v l0 l1 a2 a3 (!t275)))) else (impl_MayRetire.j0v l0 l1 a2 a3 true))) else (impl_MayRetire.j0v l0 l1 a2 a3 true)) := by
  refine Is.lim (g := fun k => impl_MayRetire.f k l0 l1 a2 a3) ?_
  · unfold impl_MayRetire.f
    repeat' first
    | with_reducible exact impl_AreVersions.f_is _
    | with_reducible exact impl_MayRetire.j0_is _ _ _ _ _
    | with_reducible exact slices_Contains_int_int.f_is _ _
    | with_reducible exact Is.now _
    | with_reducible refine Is.ite ?_ ?_
    | with_reducible refine Is.bind ?_ (fun _ => ?_)
noncomputable def impl_RetireVersion.fv (l0 : List Int) (l1 : List (List Int)) (a2 : Int) (a3 : Int) : Option (List Int × Bool) := Lim fun k => impl_RetireVersion.f k l0 l1 a2 a3
theorem impl_RetireVersion.f_is (l0 : List Int) (l1 : List (List Int)) (a2 : Int) (a3 : Int) : Is (fun k => impl_RetireVersion.f k l0 l1 a2 a3) (impl_RetireVersion.fv l0 l1 a2 a3) := ⟨fun k => impl_RetireVersion.mono l0 l1 a2 a3 k, rfl⟩
theorem impl_RetireVersion.fv_eq (l0 : List Int) (l1 : List (List Int)) (a2 : Int) (a3 : Int) : impl_RetireVersion.fv l0 l1 a2 a3 = (impl_MayRetire.fv l0 l1 a2 a3).bind fun t280 => (if t280 = true then ((impl_without.fv l0 (([a2] : List Int))).bind fun t284 => (some (t284, true))) else ((some (([] : List Int) : List Int)).bind fun y287 => (if y287.length + l0.length < 17592186044416 then (some ((y287 ++ l0), false)) else (none)))) := by
  refine Is.lim (g := fun k => impl_RetireVersion.f k l0 l1 a2 a3) ?_
  · unfold impl_RetireVersion.f
    repeat' first
    | with_reducible exact impl_MayRetire.f_is _ _ _ _
    | with_reducible exact impl_without.f_is _ _
    | with_reducible exact Is.now _
    | with_reducible refine Is.ite ?_ ?_
    | with_reducible refine Is.bind ?_ (fun _ => ?_)
end Go.Proofs.Ytdoefkloanpliaa.Print
