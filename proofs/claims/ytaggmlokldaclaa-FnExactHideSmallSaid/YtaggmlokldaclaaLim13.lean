/- Written by a program of this session (limx.py): the equations of what the printed functions come to. No condition. -/
import Derived.Test.YtaggmlokldaclaaBase
import Derived.Test.YtaggmlokldaclaaPrint13
import Derived.Test.YtaggmlokldaclaaLim1
import Derived.Test.YtaggmlokldaclaaLim2
import Derived.Test.YtaggmlokldaclaaLim4
import Derived.Test.YtaggmlokldaclaaLim5
namespace Go.Proofs.Ytaggmlokldaclaa.Print
open Go.RowKit Go.Proofs.YtaggmlokldaclaaW.PrintWords Go.Proofs.YtaggmlokldaclaaW.PrintLast Go.Proofs.Ytaggmlokldaclaa.Base
set_option linter.unusedVariables false
set_option maxRecDepth 20000
noncomputable def laws_FnExactHideSmall.j0v (x0 : List Int) (x1 : Int) (x5 : List Int) (x7 : List Int) (x43 : Bool) : Option (Bool) := Lim fun k => laws_FnExactHideSmall.j0 k x0 x1 x5 x7 x43
noncomputable def laws_FnExactHideSmall.fv (l0 : List Int) (a1 : Int) : Option (Bool) := Lim fun k => laws_FnExactHideSmall.f k l0 a1
theorem laws_FnExactHideSmall.j0_is (x0 : List Int) (x1 : Int) (x5 : List Int) (x7 : List Int) (x43 : Bool) : Is (fun k => laws_FnExactHideSmall.j0 k x0 x1 x5 x7 x43) (laws_FnExactHideSmall.j0v x0 x1 x5 x7 x43) := ⟨fun k => (laws_FnExactHideSmall.mono_l k) x0 x1 x5 x7 x43, rfl⟩
theorem laws_FnExactHideSmall.f_is (l0 : List Int) (a1 : Int) : Is (fun k => laws_FnExactHideSmall.f k l0 a1) (laws_FnExactHideSmall.fv l0 a1) := ⟨fun k => laws_FnExactHideSmall.mono l0 a1 k, rfl⟩
theorem laws_FnExactHideSmall.j0v_eq (x0 : List Int) (x1 : Int) (x5 : List Int) (x7 : List Int) (x43 : Bool) : laws_FnExactHideSmall.j0v x0 x1 x5 x7 x43 = if x43 = true then (some false) else ((laws_markIntS.fv x7 1).bind fun bt277 => ((laws_heldIntS.fv bt277.2 1).bind fun t279 => (if t279 < 0 then (some false) else (if t279 = bt277.1 then ((laws_toIntS.fv x0).bind fun t280 => ((impl_HideSmall.fv t280 x1).bind fun t283 => ((laws_eqIntS.fv t283 x5).bind fun t286 => (if t286 = true then ((laws_heldIntS.fv bt277.2 1).bind fun t287 => (if t287 < 0 then (some false) else (if t287 = bt277.1 then (some true) else (some false)))) else (some false))))) else (some false))))) := by
  refine Is.step (laws_FnExactHideSmall.j0_is x0 x1 x5 x7 x43).mo (fun k => by rw [laws_FnExactHideSmall.j0]) ?_
  · skip
    repeat' first
    | with_reducible exact impl_HideSmall.f_is _ _
    | with_reducible exact laws_eqIntS.f_is _ _
    | with_reducible exact laws_heldIntS.f_is _ _
    | with_reducible exact laws_markIntS.f_is _ _
    | with_reducible exact laws_toIntS.f_is _
    | with_reducible exact Is.now _
    | with_reducible refine Is.ite ?_ ?_
    | with_reducible refine Is.bind ?_ (fun _ => ?_)
theorem laws_FnExactHideSmall.fv_eq (l0 : List Int) (a1 : Int) : laws_FnExactHideSmall.fv l0 a1 = if (l0.length : Int) > 1048576 then (some true) else ((laws_toIntS.fv l0).bind fun t257 => ((spec_HideSmall.fv t257 a1).bind fun t260 => ((laws_toIntS.fv l0).bind fun t263 => ((impl_HideSmall.fv t263 a1).bind fun t266 => ((laws_eqIntS.fv t266 t260).bind fun t269 => (if t269 = true then ((laws_toIntS.fv l0).bind fun t270 => ((laws_eqIntS.fv t263 t270).bind fun t273 => (if t273 = true then ((laws_markIntS.fv t263 1).bind fun bt274 => (if bt274.1 < 0 then (laws_FnExactHideSmall.j0v l0 a1 t260 t266 true) else ((laws_eqIntS.fv t266 t260).bind fun t276 => (laws_FnExactHideSmall.j0v l0 a1 t260 t266 (!t276))))) else (some false)))) else (some false))))))) := by
  refine Is.lim (g := fun k => laws_FnExactHideSmall.f k l0 a1) ?_
  · unfold laws_FnExactHideSmall.f
    repeat' first
    | with_reducible exact impl_HideSmall.f_is _ _
    | with_reducible exact laws_FnExactHideSmall.j0_is _ _ _ _ _
    | with_reducible exact laws_eqIntS.f_is _ _
    | with_reducible exact laws_markIntS.f_is _ _
    | with_reducible exact laws_toIntS.f_is _
    | with_reducible exact spec_HideSmall.f_is _ _
    | with_reducible exact Is.now _
    | with_reducible refine Is.ite ?_ ?_
    | with_reducible refine Is.bind ?_ (fun _ => ?_)
end Go.Proofs.Ytaggmlokldaclaa.Print
