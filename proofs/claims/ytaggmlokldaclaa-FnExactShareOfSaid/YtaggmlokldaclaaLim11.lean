/- Written by a program of this session (limx.py): the equations of what the printed functions come to. No condition. -/
import Derived.Test.YtaggmlokldaclaaBase
import Derived.Test.YtaggmlokldaclaaPrint11
import Derived.Test.YtaggmlokldaclaaLim1
import Derived.Test.YtaggmlokldaclaaLim2
import Derived.Test.YtaggmlokldaclaaLim3
namespace Go.Proofs.Ytaggmlokldaclaa.Print
open Go.RowKit Go.Proofs.YtaggmlokldaclaaW.PrintWords Go.Proofs.YtaggmlokldaclaaW.PrintLast Go.Proofs.Ytaggmlokldaclaa.Base
set_option linter.unusedVariables false
set_option maxRecDepth 20000
noncomputable def laws_FnExactShareOf.j0v (x0 : List Int) (x7 : List Int) (x35 : Bool) : Option (Bool) := Lim fun k => laws_FnExactShareOf.j0 k x0 x7 x35
noncomputable def laws_FnExactShareOf.fv (l0 : List Int) (a1 : Int) : Option (Bool) := Lim fun k => laws_FnExactShareOf.f k l0 a1
theorem laws_FnExactShareOf.j0_is (x0 : List Int) (x7 : List Int) (x35 : Bool) : Is (fun k => laws_FnExactShareOf.j0 k x0 x7 x35) (laws_FnExactShareOf.j0v x0 x7 x35) := ⟨fun k => (laws_FnExactShareOf.mono_l k) x0 x7 x35, rfl⟩
theorem laws_FnExactShareOf.f_is (l0 : List Int) (a1 : Int) : Is (fun k => laws_FnExactShareOf.f k l0 a1) (laws_FnExactShareOf.fv l0 a1) := ⟨fun k => laws_FnExactShareOf.mono l0 a1 k, rfl⟩
theorem laws_FnExactShareOf.j0v_eq (x0 : List Int) (x7 : List Int) (x35 : Bool) : laws_FnExactShareOf.j0v x0 x7 x35 = if x35 = true then (some false) else ((laws_toIntS.fv x0).bind fun t173 => ((laws_eqIntS.fv x7 t173).bind fun t176 => (if t176 = true then (some true) else (some false)))) := by
  refine Is.step (laws_FnExactShareOf.j0_is x0 x7 x35).mo (fun k => by rw [laws_FnExactShareOf.j0]) ?_
  · skip
    repeat' first
    | with_reducible exact laws_eqIntS.f_is _ _
    | with_reducible exact laws_toIntS.f_is _
    | with_reducible exact Is.now _
    | with_reducible refine Is.ite ?_ ?_
    | with_reducible refine Is.bind ?_ (fun _ => ?_)
theorem laws_FnExactShareOf.fv_eq (l0 : List Int) (a1 : Int) : laws_FnExactShareOf.fv l0 a1 = if (l0.length : Int) > 1048576 then (some true) else ((laws_toIntS.fv l0).bind fun t163 => ((spec_ShareOf.fv t163 a1).bind fun bt166 => ((laws_toIntS.fv l0).bind fun t168 => ((impl_ShareOf.fv t168 a1).bind fun bt171 => (if bt171.1 = bt166.1 then (laws_FnExactShareOf.j0v l0 t168 (bt171.2 != bt166.2)) else (laws_FnExactShareOf.j0v l0 t168 true)))))) := by
  refine Is.lim (g := fun k => laws_FnExactShareOf.f k l0 a1) ?_
  · unfold laws_FnExactShareOf.f
    repeat' first
    | with_reducible exact impl_ShareOf.f_is _ _
    | with_reducible exact laws_FnExactShareOf.j0_is _ _ _
    | with_reducible exact laws_toIntS.f_is _
    | with_reducible exact spec_ShareOf.f_is _ _
    | with_reducible exact Is.now _
    | with_reducible refine Is.ite ?_ ?_
    | with_reducible refine Is.bind ?_ (fun _ => ?_)
end Go.Proofs.Ytaggmlokldaclaa.Print
