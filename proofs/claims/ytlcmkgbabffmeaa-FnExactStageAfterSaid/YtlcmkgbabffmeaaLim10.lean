/- Written by a program of this session (limx.py): the equations of what the printed functions come to. No condition. -/
import Derived.Test.YtlcmkgbabffmeaaBase
import Derived.Test.YtlcmkgbabffmeaaPrint10
import Derived.Test.YtlcmkgbabffmeaaLim1
import Derived.Test.YtlcmkgbabffmeaaLim2
import Derived.Test.YtlcmkgbabffmeaaLim3
namespace Go.Proofs.Ytlcmkgbabffmeaa.Print
open Go.RowKit Go.Proofs.YtlcmkgbabffmeaaW.PrintWords Go.Proofs.YtlcmkgbabffmeaaW.PrintLast Go.Proofs.Ytlcmkgbabffmeaa.Base
set_option linter.unusedVariables false
set_option maxRecDepth 20000
noncomputable def laws_FnExactStageAfter.j0v (x1 : List Int) (x61 : Bool) (x256000 : Int) (x256001 : List Int) (x256002 : Int) (x256003 : Bool) (x273000 : Int) (x273001 : List Int) (x273002 : Int) (x273003 : Bool) (x290000 : Int) (x290001 : List Int) (x290002 : Int) (x290003 : Bool) : Option (Bool) := Lim fun k => laws_FnExactStageAfter.j0 k x1 x61 x256000 x256001 x256002 x256003 x273000 x273001 x273002 x273003 x290000 x290001 x290002 x290003
noncomputable def laws_FnExactStageAfter.fv (a0_0 : Int) (l0_1 : List Int) (a0_2 : Int) (a0_3 : Bool) (l1 : List Int) : Option (Bool) := Lim fun k => laws_FnExactStageAfter.f k a0_0 l0_1 a0_2 a0_3 l1
theorem laws_FnExactStageAfter.j0_is (x1 : List Int) (x61 : Bool) (x256000 : Int) (x256001 : List Int) (x256002 : Int) (x256003 : Bool) (x273000 : Int) (x273001 : List Int) (x273002 : Int) (x273003 : Bool) (x290000 : Int) (x290001 : List Int) (x290002 : Int) (x290003 : Bool) : Is (fun k => laws_FnExactStageAfter.j0 k x1 x61 x256000 x256001 x256002 x256003 x273000 x273001 x273002 x273003 x290000 x290001 x290002 x290003) (laws_FnExactStageAfter.j0v x1 x61 x256000 x256001 x256002 x256003 x273000 x273001 x273002 x273003 x290000 x290001 x290002 x290003) := ⟨fun k => (laws_FnExactStageAfter.mono_l k) x1 x61 x256000 x256001 x256002 x256003 x273000 x273001 x273002 x273003 x290000 x290001 x290002 x290003, rfl⟩
theorem laws_FnExactStageAfter.f_is (a0_0 : Int) (l0_1 : List Int) (a0_2 : Int) (a0_3 : Bool) (l1 : List Int) : Is (fun k => laws_FnExactStageAfter.f k a0_0 l0_1 a0_2 a0_3 l1) (laws_FnExactStageAfter.fv a0_0 l0_1 a0_2 a0_3 l1) := ⟨fun k => laws_FnExactStageAfter.mono a0_0 l0_1 a0_2 a0_3 l1 k, rfl⟩
theorem laws_FnExactStageAfter.j0v_eq (x1 : List Int) (x61 : Bool) (x256000 : Int) (x256001 : List Int) (x256002 : Int) (x256003 : Bool) (x273000 : Int) (x273001 : List Int) (x273002 : Int) (x273003 : Bool) (x290000 : Int) (x290001 : List Int) (x290002 : Int) (x290003 : Bool) : laws_FnExactStageAfter.j0v x1 x61 x256000 x256001 x256002 x256003 x273000 x273001 x273002 x273003 x290000 x290001 x290002 x290003 = if x61 = true then (some false) else ((laws_markRollout.fv x290000 x290001 x290002 x290003 1).bind fun bt307 => ((laws_heldRollout.fv x290000 bt307.2 x290002 x290003 1).bind fun t309 => (if t309 < 0 then (some false) else (if t309 = bt307.1 then ((laws_toRollout.fv x256000 x256001 x256002 x256003).bind fun bt310 => ((laws_toIntS.fv x1).bind fun t316 => ((impl_StageAfter.fv bt310.1 bt310.2.1 bt310.2.2.1 bt310.2.2.2 t316).bind fun bt319 => ((laws_eqRollout.fv bt319.1 bt319.2.1 bt319.2.2.1 bt319.2.2.2 x273000 x273001 x273002 x273003).bind fun t326 => (if t326 = true then ((laws_heldRollout.fv x290000 bt307.2 x290002 x290003 1).bind fun t327 => (if t327 < 0 then (some false) else (if t327 = bt307.1 then (some true) else (some false)))) else (some false)))))) else (some false))))) := by
  refine Is.step (laws_FnExactStageAfter.j0_is x1 x61 x256000 x256001 x256002 x256003 x273000 x273001 x273002 x273003 x290000 x290001 x290002 x290003).mo (fun k => by rw [laws_FnExactStageAfter.j0]) ?_
  · skip
    repeat' first
    | with_reducible exact impl_StageAfter.f_is _ _ _ _ _
    | with_reducible exact laws_eqRollout.f_is _ _ _ _ _ _ _ _
    | with_reducible exact laws_heldRollout.f_is _ _ _ _ _
    | with_reducible exact laws_markRollout.f_is _ _ _ _ _
    | with_reducible exact laws_toIntS.f_is _
    | with_reducible exact laws_toRollout.f_is _ _ _ _
    | with_reducible exact Is.now _
    | with_reducible refine Is.ite ?_ ?_
    | with_reducible refine Is.bind ?_ (fun _ => ?_)
theorem laws_FnExactStageAfter.fv_eq (a0_0 : Int) (l0_1 : List Int) (a0_2 : Int) (a0_3 : Bool) (l1 : List Int) : laws_FnExactStageAfter.fv a0_0 l0_1 a0_2 a0_3 l1 = if (l1.length : Int) > 1048576 then (some true) else ((laws_szRollout.f a0_0 l0_1 a0_2 a0_3 1048576).bind fun t256 => (if t256 < 0 then (some true) else ((laws_toRollout.fv a0_0 l0_1 a0_2 a0_3).bind fun bt257 => ((laws_toIntS.fv l1).bind fun t263 => ((spec_StageAfter.fv bt257.1 bt257.2.1 bt257.2.2.1 bt257.2.2.2 t263).bind fun bt266 => ((laws_toRollout.fv a0_0 l0_1 a0_2 a0_3).bind fun bt273 => ((laws_toIntS.fv l1).bind fun t280 => ((impl_StageAfter.fv bt273.1 bt273.2.1 bt273.2.2.1 bt273.2.2.2 t280).bind fun bt283 => ((laws_eqRollout.fv bt283.1 bt283.2.1 bt283.2.2.1 bt283.2.2.2 bt266.1 bt266.2.1 bt266.2.2.1 bt266.2.2.2).bind fun t290 => (if t290 = true then ((laws_toRollout.fv a0_0 l0_1 a0_2 a0_3).bind fun bt291 => ((laws_eqRollout.fv bt273.1 bt273.2.1 bt273.2.2.1 bt273.2.2.2 bt291.1 bt291.2.1 bt291.2.2.1 bt291.2.2.2).bind fun t297 => (if t297 = true then ((laws_toIntS.fv l1).bind fun t298 => ((laws_eqIntS.fv t280 t298).bind fun t301 => (if t301 = true then ((laws_markRollout.fv bt273.1 bt273.2.1 bt273.2.2.1 bt273.2.2.2 1).bind fun bt302 => ((laws_markIntS.fv t280 bt302.1).bind fun bt304 => (if bt304.1 < 0 then (laws_FnExactStageAfter.j0v l1 true a0_0 l0_1 a0_2 a0_3 bt266.1 bt266.2.1 bt266.2.2.1 bt266.2.2.2 bt283.1 bt283.2.1 bt283.2.2.1 bt283.2.2.2) else ((laws_eqRollout.fv bt283.1 bt283.2.1 bt283.2.2.1 bt283.2.2.2 bt266.1 bt266.2.1 bt266.2.2.1 bt266.2.2.2).bind fun t306 => (laws_FnExactStageAfter.j0v l1 (!t306) a0_0 l0_1 a0_2 a0_3 bt266.1 bt266.2.1 bt266.2.2.1 bt266.2.2.2 bt283.1 bt283.2.1 bt283.2.2.1 bt283.2.2.2))))) else (some false)))) else (some false)))) else (some false))))))))))) := by
  refine Is.lim (g := fun k => laws_FnExactStageAfter.f k a0_0 l0_1 a0_2 a0_3 l1) ?_
  · unfold laws_FnExactStageAfter.f
    repeat' first
    | with_reducible exact impl_StageAfter.f_is _ _ _ _ _
    | with_reducible exact laws_FnExactStageAfter.j0_is _ _ _ _ _ _ _ _ _ _ _ _ _ _
    | with_reducible exact laws_eqIntS.f_is _ _
    | with_reducible exact laws_eqRollout.f_is _ _ _ _ _ _ _ _
    | with_reducible exact laws_markIntS.f_is _ _
    | with_reducible exact laws_markRollout.f_is _ _ _ _ _
    | with_reducible exact laws_toIntS.f_is _
    | with_reducible exact laws_toRollout.f_is _ _ _ _
    | with_reducible exact spec_StageAfter.f_is _ _ _ _ _
    | with_reducible exact Is.now _
    | with_reducible refine Is.ite ?_ ?_
    | with_reducible refine Is.bind ?_ (fun _ => ?_)
end Go.Proofs.Ytlcmkgbabffmeaa.Print
