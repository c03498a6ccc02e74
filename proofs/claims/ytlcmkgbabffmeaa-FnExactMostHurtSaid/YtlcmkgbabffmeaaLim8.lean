/- Written by a program of this session (limx.py): the equations of what the printed functions come to. No condition. -/
import Derived.Test.YtlcmkgbabffmeaaBase
import Derived.Test.YtlcmkgbabffmeaaPrint8
import Derived.Test.YtlcmkgbabffmeaaLim7
namespace Go.Proofs.Ytlcmkgbabffmeaa.Print
open Go.RowKit Go.Proofs.YtlcmkgbabffmeaaW.PrintWords Go.Proofs.YtlcmkgbabffmeaaW.PrintLast Go.Proofs.Ytlcmkgbabffmeaa.Base
set_option linter.unusedVariables false
set_option maxRecDepth 20000
noncomputable def spec_l26Draw.l0v (x4 : Int) (x1000 : List Int) (x1001 : Int) (x1002 : Int) (x534000 : Int) (x534001 : List Int) (x534002 : Int) (x534003 : Bool) : Option (Int × List Int × Int × Bool × Int × Int) := Lim fun k => spec_l26Draw.l0 k x4 x1000 x1001 x1002 x534000 x534001 x534002 x534003
noncomputable def spec_l26Draw.fv (s0_0 : List Int) (s0_1 : Int) (s0_2 : Int) : Option (Int × List Int × Int × Bool × Int × Int) := Lim fun k => spec_l26Draw.f k s0_0 s0_1 s0_2
theorem spec_l26Draw.l0_is (x4 : Int) (x1000 : List Int) (x1001 : Int) (x1002 : Int) (x534000 : Int) (x534001 : List Int) (x534002 : Int) (x534003 : Bool) : Is (fun k => spec_l26Draw.l0 k x4 x1000 x1001 x1002 x534000 x534001 x534002 x534003) (spec_l26Draw.l0v x4 x1000 x1001 x1002 x534000 x534001 x534002 x534003) := ⟨fun k => (spec_l26Draw.mono_l k) x4 x1000 x1001 x1002 x534000 x534001 x534002 x534003, rfl⟩
theorem spec_l26Draw.f_is (s0_0 : List Int) (s0_1 : Int) (s0_2 : Int) : Is (fun k => spec_l26Draw.f k s0_0 s0_1 s0_2) (spec_l26Draw.fv s0_0 s0_1 s0_2) := ⟨fun k => spec_l26Draw.mono s0_0 s0_1 s0_2 k, rfl⟩
theorem spec_l26Draw.l0v_eq (x4 : Int) (x1000 : List Int) (x1001 : Int) (x1002 : Int) (x534000 : Int) (x534001 : List Int) (x534002 : Int) (x534003 : Bool) : spec_l26Draw.l0v x4 x1000 x1001 x1002 x534000 x534001 x534002 x534003 = if x4 > 0 then ((spec_l1Below.f x1000 x1001 x1002 90).bind fun bt537 => ((spec_l4Put.fv x534001 (wrap64 (1 + bt537.1))).bind fun t540 => (spec_l26Draw.l0v (wrap64 (x4 - 1)) x1000 bt537.2.1 bt537.2.2 x534000 t540 x534002 x534003))) else (if x534001.length < 17592186044416 then ((some (x534001 ++ [100] : List Int)).bind fun y543 => ((spec_l1Below.f x1000 x1001 x1002 (y543.length : Int)).bind fun bt546 => (some (x534000, y543, bt546.1, x534003, bt546.2.1, bt546.2.2)))) else (none)) := by
  refine Is.step (spec_l26Draw.l0_is x4 x1000 x1001 x1002 x534000 x534001 x534002 x534003).mo (fun k => by rw [spec_l26Draw.l0]) ?_
  · skip
    repeat' first
    | with_reducible exact spec_l26Draw.l0_is _ _ _ _ _ _ _ _
    | with_reducible exact spec_l4Put.f_is _ _
    | with_reducible exact Is.now _
    | with_reducible refine Is.ite ?_ ?_
    | with_reducible refine Is.bind ?_ (fun _ => ?_)
theorem spec_l26Draw.fv_eq (s0_0 : List Int) (s0_1 : Int) (s0_2 : Int) : spec_l26Draw.fv s0_0 s0_1 s0_2 = (spec_l1Below.f s0_0 s0_1 s0_2 6).bind fun bt530 => ((spec_l1Below.f s0_0 bt530.2.1 bt530.2.2 3).bind fun bt534 => (spec_l26Draw.l0v bt534.1 s0_0 bt534.2.1 bt534.2.2 (wrap64 (1 + bt530.1)) ([] : List Int) 0 false)) := by
  refine Is.lim (g := fun k => spec_l26Draw.f k s0_0 s0_1 s0_2) ?_
  · unfold spec_l26Draw.f
    repeat' first
    | with_reducible exact spec_l26Draw.l0_is _ _ _ _ _ _ _ _
    | with_reducible exact Is.now _
    | with_reducible refine Is.ite ?_ ?_
    | with_reducible refine Is.bind ?_ (fun _ => ?_)
noncomputable def spec_l26Any.fv (s0_0 : List Int) (s0_1 : Int) (s0_2 : Int) : Option (Int × List Int × Int × Bool × Int × Int) := Lim fun k => spec_l26Any.f k s0_0 s0_1 s0_2
theorem spec_l26Any.f_is (s0_0 : List Int) (s0_1 : Int) (s0_2 : Int) : Is (fun k => spec_l26Any.f k s0_0 s0_1 s0_2) (spec_l26Any.fv s0_0 s0_1 s0_2) := ⟨fun k => spec_l26Any.mono s0_0 s0_1 s0_2 k, rfl⟩
theorem spec_l26Any.fv_eq (s0_0 : List Int) (s0_1 : Int) (s0_2 : Int) : spec_l26Any.fv s0_0 s0_1 s0_2 = (spec_l26Draw.fv s0_0 s0_1 s0_2).bind fun bt550 => ((spec_l1Below.f s0_0 bt550.2.2.2.2.1 bt550.2.2.2.2.2 10).bind fun bt559 => (if bt559.1 = 0 then ((spec_l1Int.f s0_0 bt559.2.1 bt559.2.2 (([0, 9, 10] : List Int))).bind fun bt565 => (some (bt565.1, bt550.2.1, bt550.2.2.1, bt550.2.2.2.1, bt565.2.1, bt565.2.2))) else (if bt559.1 = 1 then ((spec_l1Int.f s0_0 bt559.2.1 bt559.2.2 (([0, 101, 100] : List Int))).bind fun bt571 => (if 0 < (bt550.2.1.length : Int) then (some (bt550.1, (bt550.2.1.set (0 : Int).toNat bt571.1), bt550.2.2.1, bt550.2.2.2.1, bt571.2.1, bt571.2.2)) else (none))) else (if bt559.1 = 2 then ((spec_l1Int.f s0_0 bt559.2.1 bt559.2.2 (([(-1), (bt550.2.1.length : Int), 9223372036854775807] : List Int))).bind fun bt578 => (some (bt550.1, bt550.2.1, bt578.1, bt550.2.2.2.1, bt578.2.1, bt578.2.2))) else (if bt559.1 = 3 then (some (bt550.1, bt550.2.1, bt550.2.2.1, true, bt559.2.1, bt559.2.2)) else (if bt559.1 = 4 then (some (bt550.1, ([] : List Int), bt550.2.2.1, bt550.2.2.2.1, bt559.2.1, bt559.2.2)) else (some (bt550.1, bt550.2.1, bt550.2.2.1, bt550.2.2.2.1, bt559.2.1, bt559.2.2)))))))) := by
  refine Is.lim (g := fun k => spec_l26Any.f k s0_0 s0_1 s0_2) ?_
  · unfold spec_l26Any.f
    repeat' first
    | with_reducible exact spec_l26Draw.f_is _ _ _
    | with_reducible exact Is.now _
    | with_reducible refine Is.ite ?_ ?_
    | with_reducible refine Is.bind ?_ (fun _ => ?_)
end Go.Proofs.Ytlcmkgbabffmeaa.Print
