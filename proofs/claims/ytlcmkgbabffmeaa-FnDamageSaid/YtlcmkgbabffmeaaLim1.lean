/- Written by a program of this session (limx.py): the equations of what the printed functions come to. No condition. -/
import Derived.Test.YtlcmkgbabffmeaaBase
import Derived.Test.YtlcmkgbabffmeaaPrint1
namespace Go.Proofs.Ytlcmkgbabffmeaa.Print
open Go.RowKit Go.Proofs.YtlcmkgbabffmeaaW.PrintWords Go.Proofs.YtlcmkgbabffmeaaW.PrintLast Go.Proofs.Ytlcmkgbabffmeaa.Base
set_option linter.unusedVariables false
set_option maxRecDepth 20000
noncomputable def impl_IsRollout.l0v (x6 : List Int) (x7 : Int) (x8 : Int) (x102000 : Int) (x102001 : List Int) (x102002 : Int) (x102003 : Bool) : Option (Bool) := Lim fun k => impl_IsRollout.l0 k x6 x7 x8 x102000 x102001 x102002 x102003
noncomputable def impl_IsRollout.fv (a0_0 : Int) (l0_1 : List Int) (a0_2 : Int) (a0_3 : Bool) : Option (Bool) := Lim fun k => impl_IsRollout.f k a0_0 l0_1 a0_2 a0_3
theorem impl_IsRollout.l0_is (x6 : List Int) (x7 : Int) (x8 : Int) (x102000 : Int) (x102001 : List Int) (x102002 : Int) (x102003 : Bool) : Is (fun k => impl_IsRollout.l0 k x6 x7 x8 x102000 x102001 x102002 x102003) (impl_IsRollout.l0v x6 x7 x8 x102000 x102001 x102002 x102003) := ⟨fun k => (impl_IsRollout.mono_l k) x6 x7 x8 x102000 x102001 x102002 x102003, rfl⟩
theorem impl_IsRollout.f_is (a0_0 : Int) (l0_1 : List Int) (a0_2 : Int) (a0_3 : Bool) : Is (fun k => impl_IsRollout.f k a0_0 l0_1 a0_2 a0_3) (impl_IsRollout.fv a0_0 l0_1 a0_2 a0_3) := ⟨fun k => impl_IsRollout.mono a0_0 l0_1 a0_2 a0_3 k, rfl⟩
theorem impl_IsRollout.l0v_eq (x6 : List Int) (x7 : Int) (x8 : Int) (x102000 : Int) (x102001 : List Int) (x102002 : Int) (x102003 : Bool) : impl_IsRollout.l0v x6 x7 x8 x102000 x102001 x102002 x102003 = if x8 < x7 then (if 0 ≤ x8 then (if x8 < (x6.length : Int) then ((impl_InRange.f (rd x6 x8) 1 100).bind fun t103 => (if t103 = true then (if x8 > 0 then (if 0 ≤ (wrap64 (x8 - 1)) then (if (wrap64 (x8 - 1)) < (x102001.length : Int) then (if (rd x102001 (wrap64 (x8 - 1))) ≥ (rd x6 x8) then (some false) else (impl_IsRollout.l0v x6 x7 (wrap64 (x8 + 1)) x102000 x102001 x102002 x102003)) else (none)) else (none)) else (impl_IsRollout.l0v x6 x7 (wrap64 (x8 + 1)) x102000 x102001 x102002 x102003)) else (some false))) else (none)) else (none)) else ((impl_InRange.f x102000 1 9).bind fun t105 => (if t105 = true then ((impl_InRange.f (x102001.length : Int) 1 5).bind fun t106 => (if t106 = true then (if 0 ≤ (wrap64 ((x102001.length : Int) - 1)) then (if (wrap64 ((x102001.length : Int) - 1)) < (x102001.length : Int) then (if (rd x102001 (wrap64 ((x102001.length : Int) - 1))) = 100 then ((impl_InRange.f x102002 0 (wrap64 ((x102001.length : Int) - 1))).bind fun t108 => (some t108)) else (some false)) else (none)) else (none)) else (some false))) else (some false))) := by
  refine Is.step (impl_IsRollout.l0_is x6 x7 x8 x102000 x102001 x102002 x102003).mo (fun k => by rw [impl_IsRollout.l0]) ?_
  · skip
    repeat' first
    | with_reducible exact impl_IsRollout.l0_is _ _ _ _ _ _ _
    | with_reducible exact Is.now _
    | with_reducible refine Is.ite ?_ ?_
    | with_reducible refine Is.bind ?_ (fun _ => ?_)
theorem impl_IsRollout.fv_eq (a0_0 : Int) (l0_1 : List Int) (a0_2 : Int) (a0_3 : Bool) : impl_IsRollout.fv a0_0 l0_1 a0_2 a0_3 = impl_IsRollout.l0v l0_1 (l0_1.length : Int) 0 a0_0 l0_1 a0_2 a0_3 := by
  refine Is.lim (g := fun k => impl_IsRollout.f k a0_0 l0_1 a0_2 a0_3) ?_
  · unfold impl_IsRollout.f
    repeat' first
    | with_reducible exact impl_IsRollout.l0_is _ _ _ _ _ _ _
    | with_reducible exact Is.now _
    | with_reducible refine Is.ite ?_ ?_
    | with_reducible refine Is.bind ?_ (fun _ => ?_)
noncomputable def spec_IsRollout.l0v (x3 : Int) (x110000 : Int) (x110001 : List Int) (x110002 : Int) (x110003 : Bool) : Option (Bool) := Lim fun k => spec_IsRollout.l0 k x3 x110000 x110001 x110002 x110003
noncomputable def spec_IsRollout.fv (a0_0 : Int) (l0_1 : List Int) (a0_2 : Int) (a0_3 : Bool) : Option (Bool) := Lim fun k => spec_IsRollout.f k a0_0 l0_1 a0_2 a0_3
theorem spec_IsRollout.l0_is (x3 : Int) (x110000 : Int) (x110001 : List Int) (x110002 : Int) (x110003 : Bool) : Is (fun k => spec_IsRollout.l0 k x3 x110000 x110001 x110002 x110003) (spec_IsRollout.l0v x3 x110000 x110001 x110002 x110003) := ⟨fun k => (spec_IsRollout.mono_l k) x3 x110000 x110001 x110002 x110003, rfl⟩
theorem spec_IsRollout.f_is (a0_0 : Int) (l0_1 : List Int) (a0_2 : Int) (a0_3 : Bool) : Is (fun k => spec_IsRollout.f k a0_0 l0_1 a0_2 a0_3) (spec_IsRollout.fv a0_0 l0_1 a0_2 a0_3) := ⟨fun k => spec_IsRollout.mono a0_0 l0_1 a0_2 a0_3 k, rfl⟩
theorem spec_IsRollout.l0v_eq (x3 : Int) (x110000 : Int) (x110001 : List Int) (x110002 : Int) (x110003 : Bool) : spec_IsRollout.l0v x3 x110000 x110001 x110002 x110003 = if x3 < (x110001.length : Int) then (if 0 ≤ x3 then ((spec_l1In.f (rd x110001 x3) 1 100).bind fun t111 => (if t111 = true then (if x3 > 0 then (if 0 ≤ (wrap64 (x3 - 1)) then (if (wrap64 (x3 - 1)) < (x110001.length : Int) then (if (rd x110001 (wrap64 (x3 - 1))) ≥ (rd x110001 x3) then (some false) else (spec_IsRollout.l0v (wrap64 (x3 + 1)) x110000 x110001 x110002 x110003)) else (none)) else (none)) else (spec_IsRollout.l0v (wrap64 (x3 + 1)) x110000 x110001 x110002 x110003)) else (some false))) else (none)) else ((spec_l1In.f x110000 1 9).bind fun t114 => (if t114 = true then ((spec_l1In.f (x110001.length : Int) 1 5).bind fun t115 => (if t115 = true then (if 0 ≤ (wrap64 ((x110001.length : Int) - 1)) then (if (wrap64 ((x110001.length : Int) - 1)) < (x110001.length : Int) then (if (rd x110001 (wrap64 ((x110001.length : Int) - 1))) = 100 then ((spec_l1In.f x110002 0 (wrap64 ((x110001.length : Int) - 1))).bind fun t117 => (some t117)) else (some false)) else (none)) else (none)) else (some false))) else (some false))) := by
  refine Is.step (spec_IsRollout.l0_is x3 x110000 x110001 x110002 x110003).mo (fun k => by rw [spec_IsRollout.l0]) ?_
  · skip
    repeat' first
    | with_reducible exact spec_IsRollout.l0_is _ _ _ _ _
    | with_reducible exact Is.now _
    | with_reducible refine Is.ite ?_ ?_
    | with_reducible refine Is.bind ?_ (fun _ => ?_)
theorem spec_IsRollout.fv_eq (a0_0 : Int) (l0_1 : List Int) (a0_2 : Int) (a0_3 : Bool) : spec_IsRollout.fv a0_0 l0_1 a0_2 a0_3 = spec_IsRollout.l0v 0 a0_0 l0_1 a0_2 a0_3 := by
  refine Is.lim (g := fun k => spec_IsRollout.f k a0_0 l0_1 a0_2 a0_3) ?_
  · unfold spec_IsRollout.f
    repeat' first
    | with_reducible exact spec_IsRollout.l0_is _ _ _ _ _
    | with_reducible exact Is.now _
    | with_reducible refine Is.ite ?_ ?_
    | with_reducible refine Is.bind ?_ (fun _ => ?_)
noncomputable def spec_CountIn.fv (a0_0 : Int) (l0_1 : List Int) (a0_2 : Int) (a0_3 : Bool) (a1 : Int) : Option (Int) := Lim fun k => spec_CountIn.f k a0_0 l0_1 a0_2 a0_3 a1
theorem spec_CountIn.f_is (a0_0 : Int) (l0_1 : List Int) (a0_2 : Int) (a0_3 : Bool) (a1 : Int) : Is (fun k => spec_CountIn.f k a0_0 l0_1 a0_2 a0_3 a1) (spec_CountIn.fv a0_0 l0_1 a0_2 a0_3 a1) := ⟨fun k => spec_CountIn.mono a0_0 l0_1 a0_2 a0_3 a1 k, rfl⟩
theorem spec_CountIn.fv_eq (a0_0 : Int) (l0_1 : List Int) (a0_2 : Int) (a0_3 : Bool) (a1 : Int) : spec_CountIn.fv a0_0 l0_1 a0_2 a0_3 a1 = (spec_IsRollout.fv a0_0 l0_1 a0_2 a0_3).bind fun t121 => (if t121 = true then (if a0_3 = true then (some 0) else ((spec_l1In.f a1 0 10000).bind fun t122 => (if t122 = true then (if 0 ≤ a0_2 then (if a0_2 < (l0_1.length : Int) then ((spec_CeilDiv.f (wrap64 (a1 * (rd l0_1 a0_2))) 100).bind fun t124 => (some t124)) else (none)) else (none)) else (some 0)))) else (some 0)) := by
  refine Is.lim (g := fun k => spec_CountIn.f k a0_0 l0_1 a0_2 a0_3 a1) ?_
  · unfold spec_CountIn.f
    repeat' first
    | with_reducible exact spec_IsRollout.f_is _ _ _ _
    | with_reducible exact Is.now _
    | with_reducible refine Is.ite ?_ ?_
    | with_reducible refine Is.bind ?_ (fun _ => ?_)
end Go.Proofs.Ytlcmkgbabffmeaa.Print
