/- Written by a program of this session (limx.py): the equations of what the printed functions come to. No condition. -/
import Derived.Test.YtaggmlokldaclaaBase
import Derived.Test.YtaggmlokldaclaaPrint15
import Derived.Test.YtaggmlokldaclaaLim1
import Derived.Test.YtaggmlokldaclaaLim2
import Derived.Test.YtaggmlokldaclaaLim4
import Derived.Test.YtaggmlokldaclaaLim5
import Derived.Test.YtaggmlokldaclaaLim6
namespace Go.Proofs.Ytaggmlokldaclaa.Print
open Go.RowKit Go.Proofs.YtaggmlokldaclaaW.PrintWords Go.Proofs.YtaggmlokldaclaaW.PrintLast Go.Proofs.Ytaggmlokldaclaa.Base
set_option linter.unusedVariables false
set_option maxRecDepth 20000
noncomputable def laws_FnExactSumCounts.j0v (x0 : List Int) (x1 : List Int) (x5 : List Int) (x8 : List Int) (x58 : Bool) : Option (Bool) := Lim fun k => laws_FnExactSumCounts.j0 k x0 x1 x5 x8 x58
noncomputable def laws_FnExactSumCounts.fv (l0 : List Int) (l1 : List Int) : Option (Bool) := Lim fun k => laws_FnExactSumCounts.f k l0 l1
theorem laws_FnExactSumCounts.j0_is (x0 : List Int) (x1 : List Int) (x5 : List Int) (x8 : List Int) (x58 : Bool) : Is (fun k => laws_FnExactSumCounts.j0 k x0 x1 x5 x8 x58) (laws_FnExactSumCounts.j0v x0 x1 x5 x8 x58) := ⟨fun k => (laws_FnExactSumCounts.mono_l k) x0 x1 x5 x8 x58, rfl⟩
theorem laws_FnExactSumCounts.f_is (l0 : List Int) (l1 : List Int) : Is (fun k => laws_FnExactSumCounts.f k l0 l1) (laws_FnExactSumCounts.fv l0 l1) := ⟨fun k => laws_FnExactSumCounts.mono l0 l1 k, rfl⟩
theorem laws_FnExactSumCounts.j0v_eq (x0 : List Int) (x1 : List Int) (x5 : List Int) (x8 : List Int) (x58 : Bool) : laws_FnExactSumCounts.j0v x0 x1 x5 x8 x58 = if x58 = true then (some false) else ((laws_markIntS.fv x8 1).bind fun bt388 => ((laws_heldIntS.fv bt388.2 1).bind fun t390 => (if t390 < 0 then (some false) else (if t390 = bt388.1 then ((laws_toIntS.fv x0).bind fun t391 => ((laws_toIntS.fv x1).bind fun t394 => ((impl_SumCounts.fv t391 t394).bind fun t397 => ((laws_eqIntS.fv t397 x5).bind fun t400 => (if t400 = true then ((laws_heldIntS.fv bt388.2 1).bind fun t401 => (if t401 < 0 then (some false) else (if t401 = bt388.1 then (some true) else (some false)))) else (some false)))))) else (some false))))) := by
  refine Is.step (laws_FnExactSumCounts.j0_is x0 x1 x5 x8 x58).mo (fun k => by rw [laws_FnExactSumCounts.j0]) ?_
  · skip
    repeat' first
    | with_reducible exact impl_SumCounts.f_is _ _
    | with_reducible exact laws_eqIntS.f_is _ _
    | with_reducible exact laws_heldIntS.f_is _ _
    | with_reducible exact laws_markIntS.f_is _ _
    | with_reducible exact laws_toIntS.f_is _
    | with_reducible exact Is.now _
    | with_reducible refine Is.ite ?_ ?_
    | with_reducible refine Is.bind ?_ (fun _ => ?_)
theorem laws_FnExactSumCounts.fv_eq (l0 : List Int) (l1 : List Int) : laws_FnExactSumCounts.fv l0 l1 = if (l0.length : Int) > 1048576 then (some true) else (if (l1.length : Int) > 1048576 then (some true) else ((laws_toIntS.fv l0).bind fun t356 => ((laws_toIntS.fv l1).bind fun t359 => ((spec_SumCounts.fv t356 t359).bind fun t362 => ((laws_toIntS.fv l0).bind fun t365 => ((laws_toIntS.fv l1).bind fun t368 => ((impl_SumCounts.fv t365 t368).bind fun t371 => ((laws_eqIntS.fv t371 t362).bind fun t374 => (if t374 = true then ((laws_toIntS.fv l0).bind fun t375 => ((laws_eqIntS.fv t365 t375).bind fun t378 => (if t378 = true then ((laws_toIntS.fv l1).bind fun t379 => ((laws_eqIntS.fv t368 t379).bind fun t382 => (if t382 = true then ((laws_markIntS.fv t365 1).bind fun bt383 => ((laws_markIntS.fv t368 bt383.1).bind fun bt385 => (if bt385.1 < 0 then (laws_FnExactSumCounts.j0v l0 l1 t362 t371 true) else ((laws_eqIntS.fv t371 t362).bind fun t387 => (laws_FnExactSumCounts.j0v l0 l1 t362 t371 (!t387)))))) else (some false)))) else (some false)))) else (some false)))))))))) := by
  refine Is.lim (g := fun k => laws_FnExactSumCounts.f k l0 l1) ?_
  · unfold laws_FnExactSumCounts.f
    repeat' first
    | with_reducible exact impl_SumCounts.f_is _ _
    | with_reducible exact laws_FnExactSumCounts.j0_is _ _ _ _ _
    | with_reducible exact laws_eqIntS.f_is _ _
    | with_reducible exact laws_markIntS.f_is _ _
    | with_reducible exact laws_toIntS.f_is _
    | with_reducible exact spec_SumCounts.f_is _ _
    | with_reducible exact Is.now _
    | with_reducible refine Is.ite ?_ ?_
    | with_reducible refine Is.bind ?_ (fun _ => ?_)
end Go.Proofs.Ytaggmlokldaclaa.Print
