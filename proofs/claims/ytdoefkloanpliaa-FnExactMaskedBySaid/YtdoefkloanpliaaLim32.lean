/- Written by a program of this session (limx.py): the equations of what the printed functions come to. No condition. -/
import Derived.Test.YtdoefkloanpliaaBase
import Derived.Test.YtdoefkloanpliaaPrint32
import Derived.Test.YtdoefkloanpliaaLim9
import Derived.Test.YtdoefkloanpliaaLim10
namespace Go.Proofs.Ytdoefkloanpliaa.Print
open Go.RowKit Go.Proofs.YtdoefkloanpliaaW.PrintWords Go.Proofs.YtdoefkloanpliaaW.PrintLast Go.Proofs.Ytdoefkloanpliaa.Base
set_option linter.unusedVariables false
set_option maxRecDepth 20000
noncomputable def laws_FnExactMaskedBy.j0v (x0 : List (S94)) (x8 : List (S97)) (x38 : Bool) : Option (Bool) := Lim fun k => laws_FnExactMaskedBy.j0 k x0 x8 x38
noncomputable def laws_FnExactMaskedBy.fv (l0 : List (S94)) (a1 : Int) : Option (Bool) := Lim fun k => laws_FnExactMaskedBy.f k l0 a1
theorem laws_FnExactMaskedBy.j0_is (x0 : List (S94)) (x8 : List (S97)) (x38 : Bool) : Is (fun k => laws_FnExactMaskedBy.j0 k x0 x8 x38) (laws_FnExactMaskedBy.j0v x0 x8 x38) := ⟨fun k => (laws_FnExactMaskedBy.mono_l k) x0 x8 x38, rfl⟩
theorem laws_FnExactMaskedBy.f_is (l0 : List (S94)) (a1 : Int) : Is (fun k => laws_FnExactMaskedBy.f k l0 a1) (laws_FnExactMaskedBy.fv l0 a1) := ⟨fun k => laws_FnExactMaskedBy.mono l0 a1 k, rfl⟩
theorem laws_FnExactMaskedBy.j0v_eq (x0 : List (S94)) (x8 : List (S97)) (x38 : Bool) : laws_FnExactMaskedBy.j0v x0 x8 x38 = if x38 = true then (some false) else ((laws_toDialedS.fv x0).bind fun t589 => ((laws_eqDialedS.fv x8 t589).bind fun t592 => (if t592 = true then (some true) else (some false)))) := by
  refine Is.step (laws_FnExactMaskedBy.j0_is x0 x8 x38).mo (fun k => by rw [laws_FnExactMaskedBy.j0]) ?_
  · skip
    repeat' first
    | with_reducible exact laws_eqDialedS.f_is _ _
    | with_reducible exact laws_toDialedS.f_is _
    | with_reducible exact Is.now _
    | with_reducible refine Is.ite ?_ ?_
    | with_reducible refine Is.bind ?_ (fun _ => ?_)
theorem laws_FnExactMaskedBy.fv_eq (l0 : List (S94)) (a1 : Int) : laws_FnExactMaskedBy.fv l0 a1 = (laws_szDialedS.fv l0 1048576).bind fun t578 => (if t578 < 0 then (some true) else ((laws_toDialedS.fv l0).bind fun t579 => ((spec_MaskedBy.fv t579 a1).bind fun bt582 => ((laws_toDialedS.fv l0).bind fun t584 => ((impl_MaskedBy.fv t584 a1).bind fun bt587 => (if bt587.1 = bt582.1 then (laws_FnExactMaskedBy.j0v l0 t584 (bt587.2 != bt582.2)) else (laws_FnExactMaskedBy.j0v l0 t584 true))))))) := by
  refine Is.lim (g := fun k => laws_FnExactMaskedBy.f k l0 a1) ?_
  · unfold laws_FnExactMaskedBy.f
    repeat' first
    | with_reducible exact impl_MaskedBy.f_is _ _
    | with_reducible exact laws_FnExactMaskedBy.j0_is _ _ _
    | with_reducible exact laws_szDialedS.f_is _ _
    | with_reducible exact laws_toDialedS.f_is _
    | with_reducible exact spec_MaskedBy.f_is _ _
    | with_reducible exact Is.now _
    | with_reducible refine Is.ite ?_ ?_
    | with_reducible refine Is.bind ?_ (fun _ => ?_)
end Go.Proofs.Ytdoefkloanpliaa.Print
