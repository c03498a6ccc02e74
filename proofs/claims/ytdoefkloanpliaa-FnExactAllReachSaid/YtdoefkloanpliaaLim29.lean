/- Written by a program of this session (limx.py): the equations of what the printed functions come to. No condition. -/
import Derived.Test.YtdoefkloanpliaaBase
import Derived.Test.YtdoefkloanpliaaPrint29
import Derived.Test.YtdoefkloanpliaaLim1
import Derived.Test.YtdoefkloanpliaaLim2
import Derived.Test.YtdoefkloanpliaaLim3
import Derived.Test.YtdoefkloanpliaaLim4
namespace Go.Proofs.Ytdoefkloanpliaa.Print
open Go.RowKit Go.Proofs.YtdoefkloanpliaaW.PrintWords Go.Proofs.YtdoefkloanpliaaW.PrintLast Go.Proofs.Ytdoefkloanpliaa.Base
set_option linter.unusedVariables false
set_option maxRecDepth 20000
noncomputable def laws_FnExactAllReach.fv (l0 : List Int) (l1 : List (List Int)) : Option (Bool) := Lim fun k => laws_FnExactAllReach.f k l0 l1
theorem laws_FnExactAllReach.f_is (l0 : List Int) (l1 : List (List Int)) : Is (fun k => laws_FnExactAllReach.f k l0 l1) (laws_FnExactAllReach.fv l0 l1) := ⟨fun k => laws_FnExactAllReach.mono l0 l1 k, rfl⟩
theorem laws_FnExactAllReach.fv_eq (l0 : List Int) (l1 : List (List Int)) : laws_FnExactAllReach.fv l0 l1 = if (l0.length : Int) > 1048576 then (some true) else ((laws_szIntSS.fv l1 1048576).bind fun t197 => (if t197 < 0 then (some true) else ((laws_toIntS.fv l0).bind fun t198 => ((laws_toIntSS.fv l1).bind fun t201 => ((spec_AllReach.fv t198 t201).bind fun t204 => ((laws_toIntS.fv l0).bind fun t205 => ((laws_toIntSS.fv l1).bind fun t208 => ((impl_AllReach.fv t205 t208).bind fun t211 => (if (t211 != t204) = true then (some false) else ((laws_toIntS.fv l0).bind fun t212 => ((laws_eqIntS.fv t205 t212).bind fun t215 => (if t215 = true then ((laws_toIntSS.fv l1).bind fun t216 => ((laws_eqIntSS.fv t208 t216).bind fun t219 => (if t219 = true then (some true) else (some false)))) else (some false))))))))))))) := by
  refine Is.lim (g := fun k => laws_FnExactAllReach.f k l0 l1) ?_
  · unfold laws_FnExactAllReach.f
    repeat' first
    | with_reducible exact impl_AllReach.f_is _ _
    | with_reducible exact laws_eqIntS.f_is _ _
    | with_reducible exact laws_eqIntSS.f_is _ _
    | with_reducible exact laws_szIntSS.f_is _ _
    | with_reducible exact laws_toIntS.f_is _
    | with_reducible exact laws_toIntSS.f_is _
    | with_reducible exact spec_AllReach.f_is _ _
    | with_reducible exact Is.now _
    | with_reducible refine Is.ite ?_ ?_
    | with_reducible refine Is.bind ?_ (fun _ => ?_)
end Go.Proofs.Ytdoefkloanpliaa.Print
