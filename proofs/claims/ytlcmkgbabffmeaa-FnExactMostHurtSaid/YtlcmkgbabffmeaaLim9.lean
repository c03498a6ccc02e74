/- Written by a program of this session (limx.py): the equations of what the printed functions come to. No condition. -/
import Derived.Test.YtlcmkgbabffmeaaBase
import Derived.Test.YtlcmkgbabffmeaaPrint9
import Derived.Test.YtlcmkgbabffmeaaLim1
import Derived.Test.YtlcmkgbabffmeaaLim2
import Derived.Test.YtlcmkgbabffmeaaLim3
import Derived.Test.YtlcmkgbabffmeaaLim4
import Derived.Test.YtlcmkgbabffmeaaLim5
import Derived.Test.YtlcmkgbabffmeaaLim8
namespace Go.Proofs.Ytlcmkgbabffmeaa.Print
open Go.RowKit Go.Proofs.YtlcmkgbabffmeaaW.PrintWords Go.Proofs.YtlcmkgbabffmeaaW.PrintLast Go.Proofs.Ytlcmkgbabffmeaa.Base
set_option linter.unusedVariables false
set_option maxRecDepth 20000
noncomputable def spec_DrawCountIn.fv (l0 : List Int) : Option (Int × List Int × Int × Bool × Int) := Lim fun k => spec_DrawCountIn.f k l0
theorem spec_DrawCountIn.f_is (l0 : List Int) : Is (fun k => spec_DrawCountIn.f k l0) (spec_DrawCountIn.fv l0) := ⟨fun k => spec_DrawCountIn.mono l0 k, rfl⟩
theorem spec_DrawCountIn.fv_eq (l0 : List Int) : spec_DrawCountIn.fv l0 = (spec_l1New.fv l0).bind fun bt582 => ((spec_l26Any.fv bt582.1 bt582.2.1 bt582.2.2).bind fun bt586 => ((spec_l1Int.f bt582.1 bt586.2.2.2.2.1 bt586.2.2.2.2.2 (([0, 1, 7, 10, 10000, 10001, (-1)] : List Int))).bind fun bt598 => (some (bt586.1, bt586.2.1, bt586.2.2.1, bt586.2.2.2.1, bt598.1)))) := by
  refine Is.lim (g := fun k => spec_DrawCountIn.f k l0) ?_
  · unfold spec_DrawCountIn.f
    repeat' first
    | with_reducible exact spec_l1New.f_is _
    | with_reducible exact spec_l26Any.f_is _ _ _
    | with_reducible exact Is.now _
    | with_reducible refine Is.ite ?_ ?_
    | with_reducible refine Is.bind ?_ (fun _ => ?_)
noncomputable def spec_MostHurt.j0v (x1 : Int) (x2 : Int) (x7 : Int) (x20 : Bool) (x645000 : Int) (x645001 : List Int) (x645002 : Int) (x645003 : Bool) : Option (Int) := Lim fun k => spec_MostHurt.j0 k x1 x2 x7 x20 x645000 x645001 x645002 x645003
noncomputable def spec_MostHurt.l0v (x1 : Int) (x2 : Int) (x7 : Int) (x9 : Int) (x654000 : Int) (x654001 : List Int) (x654002 : Int) (x654003 : Bool) : Option (Int) := Lim fun k => spec_MostHurt.l0 k x1 x2 x7 x9 x654000 x654001 x654002 x654003
noncomputable def spec_MostHurt.fv (a0_0 : Int) (l0_1 : List Int) (a0_2 : Int) (a0_3 : Bool) (a1 : Int) (a2 : Int) : Option (Int) := Lim fun k => spec_MostHurt.f k a0_0 l0_1 a0_2 a0_3 a1 a2
theorem spec_MostHurt.j0_is (x1 : Int) (x2 : Int) (x7 : Int) (x20 : Bool) (x645000 : Int) (x645001 : List Int) (x645002 : Int) (x645003 : Bool) : Is (fun k => spec_MostHurt.j0 k x1 x2 x7 x20 x645000 x645001 x645002 x645003) (spec_MostHurt.j0v x1 x2 x7 x20 x645000 x645001 x645002 x645003) := ⟨fun k => (spec_MostHurt.mono_l k).1 x1 x2 x7 x20 x645000 x645001 x645002 x645003, rfl⟩
theorem spec_MostHurt.l0_is (x1 : Int) (x2 : Int) (x7 : Int) (x9 : Int) (x654000 : Int) (x654001 : List Int) (x654002 : Int) (x654003 : Bool) : Is (fun k => spec_MostHurt.l0 k x1 x2 x7 x9 x654000 x654001 x654002 x654003) (spec_MostHurt.l0v x1 x2 x7 x9 x654000 x654001 x654002 x654003) := ⟨fun k => (spec_MostHurt.mono_l k).2 x1 x2 x7 x9 x654000 x654001 x654002 x654003, rfl⟩
theorem spec_MostHurt.f_is (a0_0 : Int) (l0_1 : List Int) (a0_2 : Int) (a0_3 : Bool) (a1 : Int) (a2 : Int) : Is (fun k => spec_MostHurt.f k a0_0 l0_1 a0_2 a0_3 a1 a2) (spec_MostHurt.fv a0_0 l0_1 a0_2 a0_3 a1 a2) := ⟨fun k => spec_MostHurt.mono a0_0 l0_1 a0_2 a0_3 a1 a2 k, rfl⟩
theorem spec_MostHurt.j0v_eq (x1 : Int) (x2 : Int) (x7 : Int) (x20 : Bool) (x645000 : Int) (x645001 : List Int) (x645002 : Int) (x645003 : Bool) : spec_MostHurt.j0v x1 x2 x7 x20 x645000 x645001 x645002 x645003 = if x20 = true then (some x7) else ((spec_l26Copy.f x645000 x645001 x645002 x645003).bind fun bt647 => (spec_MostHurt.l0v x1 x2 x7 0 bt647.1 bt647.2.1 bt647.2.2.1 bt647.2.2.2)) := by
  refine Is.step (spec_MostHurt.j0_is x1 x2 x7 x20 x645000 x645001 x645002 x645003).mo (fun k => by rw [spec_MostHurt.j0]) ?_
  · skip
    repeat' first
    | with_reducible exact spec_MostHurt.l0_is _ _ _ _ _ _ _ _
    | with_reducible exact Is.now _
    | with_reducible refine Is.ite ?_ ?_
    | with_reducible refine Is.bind ?_ (fun _ => ?_)
theorem spec_MostHurt.l0v_eq (x1 : Int) (x2 : Int) (x7 : Int) (x9 : Int) (x654000 : Int) (x654001 : List Int) (x654002 : Int) (x654003 : Bool) : spec_MostHurt.l0v x1 x2 x7 x9 x654000 x654001 x654002 x654003 = if x9 < x2 then ((spec_CountIn.fv x654000 x654001 x9 x654003 x1).bind fun t654 => ((spec_Max.f x7 t654).bind fun t655 => (spec_MostHurt.l0v x1 x2 t655 (wrap64 (x9 + 1)) x654000 x654001 x9 x654003))) else (some x7) := by
  refine Is.step (spec_MostHurt.l0_is x1 x2 x7 x9 x654000 x654001 x654002 x654003).mo (fun k => by rw [spec_MostHurt.l0]) ?_
  · skip
    repeat' first
    | with_reducible exact spec_CountIn.f_is _ _ _ _ _
    | with_reducible exact spec_MostHurt.l0_is _ _ _ _ _ _ _ _
    | with_reducible exact Is.now _
    | with_reducible refine Is.ite ?_ ?_
    | with_reducible refine Is.bind ?_ (fun _ => ?_)
theorem spec_MostHurt.fv_eq (a0_0 : Int) (l0_1 : List Int) (a0_2 : Int) (a0_3 : Bool) (a1 : Int) (a2 : Int) : spec_MostHurt.fv a0_0 l0_1 a0_2 a0_3 a1 a2 = (spec_IsRollout.fv a0_0 l0_1 a0_2 a0_3).bind fun t645 => (if t645 = true then ((spec_l1In.f a2 1 (l0_1.length : Int)).bind fun t646 => (spec_MostHurt.j0v a1 a2 0 (!t646) a0_0 l0_1 a0_2 a0_3)) else (spec_MostHurt.j0v a1 a2 0 true a0_0 l0_1 a0_2 a0_3)) := by
  refine Is.lim (g := fun k => spec_MostHurt.f k a0_0 l0_1 a0_2 a0_3 a1 a2) ?_
  · unfold spec_MostHurt.f
    repeat' first
    | with_reducible exact spec_IsRollout.f_is _ _ _ _
    | with_reducible exact spec_MostHurt.j0_is _ _ _ _ _ _ _ _
    | with_reducible exact Is.now _
    | with_reducible refine Is.ite ?_ ?_
    | with_reducible refine Is.bind ?_ (fun _ => ?_)
noncomputable def impl_MostHurt.j0v (x1 : Int) (x2 : Int) (x19 : Bool) (x657000 : Int) (x657001 : List Int) (x657002 : Int) (x657003 : Bool) : Option (Int) := Lim fun k => impl_MostHurt.j0 k x1 x2 x19 x657000 x657001 x657002 x657003
noncomputable def impl_MostHurt.l0v (x1 : Int) (x7 : Int) (x20 : Int) (x21 : Int) (x657000 : Int) (x657001 : List Int) (x657002 : Int) (x657003 : Bool) : Option (Int) := Lim fun k => impl_MostHurt.l0 k x1 x7 x20 x21 x657000 x657001 x657002 x657003
noncomputable def impl_MostHurt.fv (a0_0 : Int) (l0_1 : List Int) (a0_2 : Int) (a0_3 : Bool) (a1 : Int) (a2 : Int) : Option (Int) := Lim fun k => impl_MostHurt.f k a0_0 l0_1 a0_2 a0_3 a1 a2
theorem impl_MostHurt.j0_is (x1 : Int) (x2 : Int) (x19 : Bool) (x657000 : Int) (x657001 : List Int) (x657002 : Int) (x657003 : Bool) : Is (fun k => impl_MostHurt.j0 k x1 x2 x19 x657000 x657001 x657002 x657003) (impl_MostHurt.j0v x1 x2 x19 x657000 x657001 x657002 x657003) := ⟨fun k => (impl_MostHurt.mono_l k).1 x1 x2 x19 x657000 x657001 x657002 x657003, rfl⟩
theorem impl_MostHurt.l0_is (x1 : Int) (x7 : Int) (x20 : Int) (x21 : Int) (x657000 : Int) (x657001 : List Int) (x657002 : Int) (x657003 : Bool) : Is (fun k => impl_MostHurt.l0 k x1 x7 x20 x21 x657000 x657001 x657002 x657003) (impl_MostHurt.l0v x1 x7 x20 x21 x657000 x657001 x657002 x657003) := ⟨fun k => (impl_MostHurt.mono_l k).2 x1 x7 x20 x21 x657000 x657001 x657002 x657003, rfl⟩
theorem impl_MostHurt.f_is (a0_0 : Int) (l0_1 : List Int) (a0_2 : Int) (a0_3 : Bool) (a1 : Int) (a2 : Int) : Is (fun k => impl_MostHurt.f k a0_0 l0_1 a0_2 a0_3 a1 a2) (impl_MostHurt.fv a0_0 l0_1 a0_2 a0_3 a1 a2) := ⟨fun k => impl_MostHurt.mono a0_0 l0_1 a0_2 a0_3 a1 a2 k, rfl⟩
theorem impl_MostHurt.j0v_eq (x1 : Int) (x2 : Int) (x19 : Bool) (x657000 : Int) (x657001 : List Int) (x657002 : Int) (x657003 : Bool) : impl_MostHurt.j0v x1 x2 x19 x657000 x657001 x657002 x657003 = if x19 = true then (some 0) else (impl_MostHurt.l0v x1 0 x2 0 x657000 x657001 x657002 x657003) := by
  refine Is.step (impl_MostHurt.j0_is x1 x2 x19 x657000 x657001 x657002 x657003).mo (fun k => by rw [impl_MostHurt.j0]) ?_
  · skip
    repeat' first
    | with_reducible exact impl_MostHurt.l0_is _ _ _ _ _ _ _ _
    | with_reducible exact Is.now _
    | with_reducible refine Is.ite ?_ ?_
    | with_reducible refine Is.bind ?_ (fun _ => ?_)
theorem impl_MostHurt.l0v_eq (x1 : Int) (x7 : Int) (x20 : Int) (x21 : Int) (x657000 : Int) (x657001 : List Int) (x657002 : Int) (x657003 : Bool) : impl_MostHurt.l0v x1 x7 x20 x21 x657000 x657001 x657002 x657003 = if x21 < x20 then ((impl_CountIn.fv x657000 x657001 x21 x657003 x1).bind fun t659 => (impl_MostHurt.l0v x1 (mx x7 t659) x20 (wrap64 (x21 + 1)) x657000 x657001 x21 x657003)) else (some x7) := by
  refine Is.step (impl_MostHurt.l0_is x1 x7 x20 x21 x657000 x657001 x657002 x657003).mo (fun k => by rw [impl_MostHurt.l0]) ?_
  · skip
    repeat' first
    | with_reducible exact impl_CountIn.f_is _ _ _ _ _
    | with_reducible exact impl_MostHurt.l0_is _ _ _ _ _ _ _ _
    | with_reducible exact Is.now _
    | with_reducible refine Is.ite ?_ ?_
    | with_reducible refine Is.bind ?_ (fun _ => ?_)
theorem impl_MostHurt.fv_eq (a0_0 : Int) (l0_1 : List Int) (a0_2 : Int) (a0_3 : Bool) (a1 : Int) (a2 : Int) : impl_MostHurt.fv a0_0 l0_1 a0_2 a0_3 a1 a2 = (impl_IsRollout.fv a0_0 l0_1 a0_2 a0_3).bind fun t657 => (if t657 = true then ((impl_InRange.f a2 1 (l0_1.length : Int)).bind fun t658 => (impl_MostHurt.j0v a1 a2 (!t658) a0_0 l0_1 a0_2 a0_3)) else (impl_MostHurt.j0v a1 a2 true a0_0 l0_1 a0_2 a0_3)) := by
  refine Is.lim (g := fun k => impl_MostHurt.f k a0_0 l0_1 a0_2 a0_3 a1 a2) ?_
  · unfold impl_MostHurt.f
    repeat' first
    | with_reducible exact impl_IsRollout.f_is _ _ _ _
    | with_reducible exact impl_MostHurt.j0_is _ _ _ _ _ _ _
    | with_reducible exact Is.now _
    | with_reducible refine Is.ite ?_ ?_
    | with_reducible refine Is.bind ?_ (fun _ => ?_)
end Go.Proofs.Ytlcmkgbabffmeaa.Print
