/- Written by a program of this session (limx.py): the equations of what the printed functions come to. No condition. -/
import Derived.Test.YtlcmkgbabffmeaaBase
import Derived.Test.YtlcmkgbabffmeaaPrint5
import Derived.Test.YtlcmkgbabffmeaaLim3
import Derived.Test.YtlcmkgbabffmeaaLim4
namespace Go.Proofs.Ytlcmkgbabffmeaa.Print
open Go.RowKit Go.Proofs.YtlcmkgbabffmeaaW.PrintWords Go.Proofs.YtlcmkgbabffmeaaW.PrintLast Go.Proofs.Ytlcmkgbabffmeaa.Base
set_option linter.unusedVariables false
set_option maxRecDepth 20000
noncomputable def spec_l26Draw.l0v (x4 : Int) (x1000 : List Int) (x1001 : Int) (x1002 : Int) (x277000 : Int) (x277001 : List Int) (x277002 : Int) (x277003 : Bool) : Option (Int × List Int × Int × Bool × Int × Int) := Lim fun k => spec_l26Draw.l0 k x4 x1000 x1001 x1002 x277000 x277001 x277002 x277003
noncomputable def spec_l26Draw.fv (s0_0 : List Int) (s0_1 : Int) (s0_2 : Int) : Option (Int × List Int × Int × Bool × Int × Int) := Lim fun k => spec_l26Draw.f k s0_0 s0_1 s0_2
theorem spec_l26Draw.l0_is (x4 : Int) (x1000 : List Int) (x1001 : Int) (x1002 : Int) (x277000 : Int) (x277001 : List Int) (x277002 : Int) (x277003 : Bool) : Is (fun k => spec_l26Draw.l0 k x4 x1000 x1001 x1002 x277000 x277001 x277002 x277003) (spec_l26Draw.l0v x4 x1000 x1001 x1002 x277000 x277001 x277002 x277003) := ⟨fun k => (spec_l26Draw.mono_l k) x4 x1000 x1001 x1002 x277000 x277001 x277002 x277003, rfl⟩
theorem spec_l26Draw.f_is (s0_0 : List Int) (s0_1 : Int) (s0_2 : Int) : Is (fun k => spec_l26Draw.f k s0_0 s0_1 s0_2) (spec_l26Draw.fv s0_0 s0_1 s0_2) := ⟨fun k => spec_l26Draw.mono s0_0 s0_1 s0_2 k, rfl⟩
theorem spec_l26Draw.l0v_eq (x4 : Int) (x1000 : List Int) (x1001 : Int) (x1002 : Int) (x277000 : Int) (x277001 : List Int) (x277002 : Int) (x277003 : Bool) : spec_l26Draw.l0v x4 x1000 x1001 x1002 x277000 x277001 x277002 x277003 = if x4 > 0 then ((spec_l1Below.f x1000 x1001 x1002 90).bind fun bt280 => ((spec_l4Put.fv x277001 (wrap64 (1 + bt280.1))).bind fun t283 => (spec_l26Draw.l0v (wrap64 (x4 - 1)) x1000 bt280.2.1 bt280.2.2 x277000 t283 x277002 x277003))) else (if x277001.length < 17592186044416 then ((some (x277001 ++ [100] : List Int)).bind fun y286 => ((spec_l1Below.f x1000 x1001 x1002 (y286.length : Int)).bind fun bt289 => (some (x277000, y286, bt289.1, x277003, bt289.2.1, bt289.2.2)))) else (none)) := by
  refine Is.step (spec_l26Draw.l0_is x4 x1000 x1001 x1002 x277000 x277001 x277002 x277003).mo (fun k => by rw [spec_l26Draw.l0]) ?_
  · skip
    repeat' first
    | with_reducible exact spec_l26Draw.l0_is _ _ _ _ _ _ _ _
    | with_reducible exact spec_l4Put.f_is _ _
    | with_reducible exact Is.now _
    | with_reducible refine Is.ite ?_ ?_
    | with_reducible refine Is.bind ?_ (fun _ => ?_)
theorem spec_l26Draw.fv_eq (s0_0 : List Int) (s0_1 : Int) (s0_2 : Int) : spec_l26Draw.fv s0_0 s0_1 s0_2 = (spec_l1Below.f s0_0 s0_1 s0_2 6).bind fun bt273 => ((spec_l1Below.f s0_0 bt273.2.1 bt273.2.2 3).bind fun bt277 => (spec_l26Draw.l0v bt277.1 s0_0 bt277.2.1 bt277.2.2 (wrap64 (1 + bt273.1)) ([] : List Int) 0 false)) := by
  refine Is.lim (g := fun k => spec_l26Draw.f k s0_0 s0_1 s0_2) ?_
  · unfold spec_l26Draw.f
    repeat' first
    | with_reducible exact spec_l26Draw.l0_is _ _ _ _ _ _ _ _
    | with_reducible exact Is.now _
    | with_reducible refine Is.ite ?_ ?_
    | with_reducible refine Is.bind ?_ (fun _ => ?_)
noncomputable def spec_l26Any.fv (s0_0 : List Int) (s0_1 : Int) (s0_2 : Int) : Option (Int × List Int × Int × Bool × Int × Int) := Lim fun k => spec_l26Any.f k s0_0 s0_1 s0_2
theorem spec_l26Any.f_is (s0_0 : List Int) (s0_1 : Int) (s0_2 : Int) : Is (fun k => spec_l26Any.f k s0_0 s0_1 s0_2) (spec_l26Any.fv s0_0 s0_1 s0_2) := ⟨fun k => spec_l26Any.mono s0_0 s0_1 s0_2 k, rfl⟩
theorem spec_l26Any.fv_eq (s0_0 : List Int) (s0_1 : Int) (s0_2 : Int) : spec_l26Any.fv s0_0 s0_1 s0_2 = (spec_l26Draw.fv s0_0 s0_1 s0_2).bind fun bt293 => ((spec_l1Below.f s0_0 bt293.2.2.2.2.1 bt293.2.2.2.2.2 10).bind fun bt302 => (if bt302.1 = 0 then ((spec_l1Int.f s0_0 bt302.2.1 bt302.2.2 (([0, 9, 10] : List Int))).bind fun bt308 => (some (bt308.1, bt293.2.1, bt293.2.2.1, bt293.2.2.2.1, bt308.2.1, bt308.2.2))) else (if bt302.1 = 1 then ((spec_l1Int.f s0_0 bt302.2.1 bt302.2.2 (([0, 101, 100] : List Int))).bind fun bt314 => (if 0 < (bt293.2.1.length : Int) then (some (bt293.1, (bt293.2.1.set (0 : Int).toNat bt314.1), bt293.2.2.1, bt293.2.2.2.1, bt314.2.1, bt314.2.2)) else (none))) else (if bt302.1 = 2 then ((spec_l1Int.f s0_0 bt302.2.1 bt302.2.2 (([(-1), (bt293.2.1.length : Int), 9223372036854775807] : List Int))).bind fun bt321 => (some (bt293.1, bt293.2.1, bt321.1, bt293.2.2.2.1, bt321.2.1, bt321.2.2))) else (if bt302.1 = 3 then (some (bt293.1, bt293.2.1, bt293.2.2.1, true, bt302.2.1, bt302.2.2)) else (if bt302.1 = 4 then (some (bt293.1, ([] : List Int), bt293.2.2.1, bt293.2.2.2.1, bt302.2.1, bt302.2.2)) else (some (bt293.1, bt293.2.1, bt293.2.2.1, bt293.2.2.2.1, bt302.2.1, bt302.2.2)))))))) := by
  refine Is.lim (g := fun k => spec_l26Any.f k s0_0 s0_1 s0_2) ?_
  · unfold spec_l26Any.f
    repeat' first
    | with_reducible exact spec_l26Draw.f_is _ _ _
    | with_reducible exact Is.now _
    | with_reducible refine Is.ite ?_ ?_
    | with_reducible refine Is.bind ?_ (fun _ => ?_)
noncomputable def spec_DrawHurtAt.l0v (x7 : Int) (x8 : List Bool) (x9 : Int) (x332000 : List Int) (x332001 : Int) (x332002 : Int) (x341000 : Int) (x341001 : List Int) (x341002 : Int) (x341003 : Bool) : Option (Int × List Int × Int × Bool × Int × List Bool) := Lim fun k => spec_DrawHurtAt.l0 k x7 x8 x9 x332000 x332001 x332002 x341000 x341001 x341002 x341003
noncomputable def spec_DrawHurtAt.fv (l0 : List Int) : Option (Int × List Int × Int × Bool × Int × List Bool) := Lim fun k => spec_DrawHurtAt.f k l0
theorem spec_DrawHurtAt.l0_is (x7 : Int) (x8 : List Bool) (x9 : Int) (x332000 : List Int) (x332001 : Int) (x332002 : Int) (x341000 : Int) (x341001 : List Int) (x341002 : Int) (x341003 : Bool) : Is (fun k => spec_DrawHurtAt.l0 k x7 x8 x9 x332000 x332001 x332002 x341000 x341001 x341002 x341003) (spec_DrawHurtAt.l0v x7 x8 x9 x332000 x332001 x332002 x341000 x341001 x341002 x341003) := ⟨fun k => (spec_DrawHurtAt.mono_l k) x7 x8 x9 x332000 x332001 x332002 x341000 x341001 x341002 x341003, rfl⟩
theorem spec_DrawHurtAt.f_is (l0 : List Int) : Is (fun k => spec_DrawHurtAt.f k l0) (spec_DrawHurtAt.fv l0) := ⟨fun k => spec_DrawHurtAt.mono l0 k, rfl⟩
theorem spec_DrawHurtAt.l0v_eq (x7 : Int) (x8 : List Bool) (x9 : Int) (x332000 : List Int) (x332001 : Int) (x332002 : Int) (x341000 : Int) (x341001 : List Int) (x341002 : Int) (x341003 : Bool) : spec_DrawHurtAt.l0v x7 x8 x9 x332000 x332001 x332002 x341000 x341001 x341002 x341003 = if x9 < x7 then ((spec_l1Once.f x332000 x332001 x332002 2).bind fun bt347 => (if x8.length < 140737488355328 then (spec_DrawHurtAt.l0v x7 (x8 ++ [bt347.1]) (wrap64 (x9 + 1)) x332000 bt347.2.1 bt347.2.2 x341000 x341001 x341002 x341003) else (none))) else ((spec_l1Once.f x332000 x332001 x332002 8).bind fun bt353 => (if bt353.1 = true then (some (x341000, x341001, x341002, x341003, wrap64 (x7 + 1), x8)) else (some (x341000, x341001, x341002, x341003, x7, x8)))) := by
  refine Is.step (spec_DrawHurtAt.l0_is x7 x8 x9 x332000 x332001 x332002 x341000 x341001 x341002 x341003).mo (fun k => by rw [spec_DrawHurtAt.l0]) ?_
  · skip
    repeat' first
    | with_reducible exact spec_DrawHurtAt.l0_is _ _ _ _ _ _ _ _ _ _
    | with_reducible exact Is.now _
    | with_reducible refine Is.ite ?_ ?_
    | with_reducible refine Is.bind ?_ (fun _ => ?_)
theorem spec_DrawHurtAt.fv_eq (l0 : List Int) : spec_DrawHurtAt.fv l0 = (spec_l1New.fv l0).bind fun bt328 => ((spec_l26Any.fv bt328.1 bt328.2.1 bt328.2.2).bind fun bt332 => ((spec_l1Below.f bt328.1 bt332.2.2.2.2.1 bt332.2.2.2.2.2 10).bind fun bt341 => (spec_DrawHurtAt.l0v bt341.1 (([] : List Bool)) 0 bt328.1 bt341.2.1 bt341.2.2 bt332.1 bt332.2.1 bt332.2.2.1 bt332.2.2.2.1))) := by
  refine Is.lim (g := fun k => spec_DrawHurtAt.f k l0) ?_
  · unfold spec_DrawHurtAt.f
    repeat' first
    | with_reducible exact spec_DrawHurtAt.l0_is _ _ _ _ _ _ _ _ _ _
    | with_reducible exact spec_l1New.f_is _
    | with_reducible exact spec_l26Any.f_is _ _ _
    | with_reducible exact Is.now _
    | with_reducible refine Is.ite ?_ ?_
    | with_reducible refine Is.bind ?_ (fun _ => ?_)
end Go.Proofs.Ytlcmkgbabffmeaa.Print
