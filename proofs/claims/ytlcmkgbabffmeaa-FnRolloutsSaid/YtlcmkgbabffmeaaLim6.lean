/- Written by a program of this session (limx.py): the equations of what the printed functions come to. No condition. -/
import Derived.Test.YtlcmkgbabffmeaaBase
import Derived.Test.YtlcmkgbabffmeaaPrint6
import Derived.Test.YtlcmkgbabffmeaaLim5
namespace Go.Proofs.Ytlcmkgbabffmeaa.Print
open Go.RowKit Go.Proofs.YtlcmkgbabffmeaaW.PrintWords Go.Proofs.YtlcmkgbabffmeaaW.PrintLast Go.Proofs.Ytlcmkgbabffmeaa.Base
set_option linter.unusedVariables false
set_option maxRecDepth 20000
noncomputable def spec_l26Draw.l0v (x4 : Int) (x1000 : List Int) (x1001 : Int) (x1002 : Int) (x409000 : Int) (x409001 : List Int) (x409002 : Int) (x409003 : Bool) : Option (Int × List Int × Int × Bool × Int × Int) := Lim fun k => spec_l26Draw.l0 k x4 x1000 x1001 x1002 x409000 x409001 x409002 x409003
noncomputable def spec_l26Draw.fv (s0_0 : List Int) (s0_1 : Int) (s0_2 : Int) : Option (Int × List Int × Int × Bool × Int × Int) := Lim fun k => spec_l26Draw.f k s0_0 s0_1 s0_2
theorem spec_l26Draw.l0_is (x4 : Int) (x1000 : List Int) (x1001 : Int) (x1002 : Int) (x409000 : Int) (x409001 : List Int) (x409002 : Int) (x409003 : Bool) : Is (fun k => spec_l26Draw.l0 k x4 x1000 x1001 x1002 x409000 x409001 x409002 x409003) (spec_l26Draw.l0v x4 x1000 x1001 x1002 x409000 x409001 x409002 x409003) := ⟨fun k => (spec_l26Draw.mono_l k) x4 x1000 x1001 x1002 x409000 x409001 x409002 x409003, rfl⟩
theorem spec_l26Draw.f_is (s0_0 : List Int) (s0_1 : Int) (s0_2 : Int) : Is (fun k => spec_l26Draw.f k s0_0 s0_1 s0_2) (spec_l26Draw.fv s0_0 s0_1 s0_2) := ⟨fun k => spec_l26Draw.mono s0_0 s0_1 s0_2 k, rfl⟩
theorem spec_l26Draw.l0v_eq (x4 : Int) (x1000 : List Int) (x1001 : Int) (x1002 : Int) (x409000 : Int) (x409001 : List Int) (x409002 : Int) (x409003 : Bool) : spec_l26Draw.l0v x4 x1000 x1001 x1002 x409000 x409001 x409002 x409003 = if x4 > 0 then ((spec_l1Below.f x1000 x1001 x1002 90).bind fun bt412 => ((spec_l4Put.fv x409001 (wrap64 (1 + bt412.1))).bind fun t415 => (spec_l26Draw.l0v (wrap64 (x4 - 1)) x1000 bt412.2.1 bt412.2.2 x409000 t415 x409002 x409003))) else (if x409001.length < 17592186044416 then ((some (x409001 ++ [100] : List Int)).bind fun y418 => ((spec_l1Below.f x1000 x1001 x1002 (y418.length : Int)).bind fun bt421 => (some (x409000, y418, bt421.1, x409003, bt421.2.1, bt421.2.2)))) else (none)) := by
  refine Is.step (spec_l26Draw.l0_is x4 x1000 x1001 x1002 x409000 x409001 x409002 x409003).mo (fun k => by rw [spec_l26Draw.l0]) ?_
  · skip
    repeat' first
    | with_reducible exact spec_l26Draw.l0_is _ _ _ _ _ _ _ _
    | with_reducible exact spec_l4Put.f_is _ _
    | with_reducible exact Is.now _
    | with_reducible refine Is.ite ?_ ?_
    | with_reducible refine Is.bind ?_ (fun _ => ?_)
theorem spec_l26Draw.fv_eq (s0_0 : List Int) (s0_1 : Int) (s0_2 : Int) : spec_l26Draw.fv s0_0 s0_1 s0_2 = (spec_l1Below.f s0_0 s0_1 s0_2 6).bind fun bt405 => ((spec_l1Below.f s0_0 bt405.2.1 bt405.2.2 3).bind fun bt409 => (spec_l26Draw.l0v bt409.1 s0_0 bt409.2.1 bt409.2.2 (wrap64 (1 + bt405.1)) ([] : List Int) 0 false)) := by
  refine Is.lim (g := fun k => spec_l26Draw.f k s0_0 s0_1 s0_2) ?_
  · unfold spec_l26Draw.f
    repeat' first
    | with_reducible exact spec_l26Draw.l0_is _ _ _ _ _ _ _ _
    | with_reducible exact Is.now _
    | with_reducible refine Is.ite ?_ ?_
    | with_reducible refine Is.bind ?_ (fun _ => ?_)
noncomputable def spec_l26Any.fv (s0_0 : List Int) (s0_1 : Int) (s0_2 : Int) : Option (Int × List Int × Int × Bool × Int × Int) := Lim fun k => spec_l26Any.f k s0_0 s0_1 s0_2
theorem spec_l26Any.f_is (s0_0 : List Int) (s0_1 : Int) (s0_2 : Int) : Is (fun k => spec_l26Any.f k s0_0 s0_1 s0_2) (spec_l26Any.fv s0_0 s0_1 s0_2) := ⟨fun k => spec_l26Any.mono s0_0 s0_1 s0_2 k, rfl⟩
theorem spec_l26Any.fv_eq (s0_0 : List Int) (s0_1 : Int) (s0_2 : Int) : spec_l26Any.fv s0_0 s0_1 s0_2 = (spec_l26Draw.fv s0_0 s0_1 s0_2).bind fun bt425 => ((spec_l1Below.f s0_0 bt425.2.2.2.2.1 bt425.2.2.2.2.2 10).bind fun bt434 => (if bt434.1 = 0 then ((spec_l1Int.f s0_0 bt434.2.1 bt434.2.2 (([0, 9, 10] : List Int))).bind fun bt440 => (some (bt440.1, bt425.2.1, bt425.2.2.1, bt425.2.2.2.1, bt440.2.1, bt440.2.2))) else (if bt434.1 = 1 then ((spec_l1Int.f s0_0 bt434.2.1 bt434.2.2 (([0, 101, 100] : List Int))).bind fun bt446 => (if 0 < (bt425.2.1.length : Int) then (some (bt425.1, (bt425.2.1.set (0 : Int).toNat bt446.1), bt425.2.2.1, bt425.2.2.2.1, bt446.2.1, bt446.2.2)) else (none))) else (if bt434.1 = 2 then ((spec_l1Int.f s0_0 bt434.2.1 bt434.2.2 (([(-1), (bt425.2.1.length : Int), 9223372036854775807] : List Int))).bind fun bt453 => (some (bt425.1, bt425.2.1, bt453.1, bt425.2.2.2.1, bt453.2.1, bt453.2.2))) else (if bt434.1 = 3 then (some (bt425.1, bt425.2.1, bt425.2.2.1, true, bt434.2.1, bt434.2.2)) else (if bt434.1 = 4 then (some (bt425.1, ([] : List Int), bt425.2.2.1, bt425.2.2.2.1, bt434.2.1, bt434.2.2)) else (some (bt425.1, bt425.2.1, bt425.2.2.1, bt425.2.2.2.1, bt434.2.1, bt434.2.2)))))))) := by
  refine Is.lim (g := fun k => spec_l26Any.f k s0_0 s0_1 s0_2) ?_
  · unfold spec_l26Any.f
    repeat' first
    | with_reducible exact spec_l26Draw.f_is _ _ _
    | with_reducible exact Is.now _
    | with_reducible refine Is.ite ?_ ?_
    | with_reducible refine Is.bind ?_ (fun _ => ?_)
end Go.Proofs.Ytlcmkgbabffmeaa.Print
