/- Written by a program of this session (limx.py): the equations of what the printed functions come to. No condition. -/
import Derived.Test.YtdoefkloanpliaaBase
import Derived.Test.YtdoefkloanpliaaPrint6
import Derived.Test.YtdoefkloanpliaaLim1
import Derived.Test.YtdoefkloanpliaaLim2
import Derived.Test.YtdoefkloanpliaaLim4
namespace Go.Proofs.Ytdoefkloanpliaa.Print
open Go.RowKit Go.Proofs.YtdoefkloanpliaaW.PrintWords Go.Proofs.YtdoefkloanpliaaW.PrintLast Go.Proofs.Ytdoefkloanpliaa.Base
set_option linter.unusedVariables false
set_option maxRecDepth 20000
noncomputable def laws_FnExactStranded.j0v (x0 : List Int) (x1 : List (List Int)) (x2 : Int) (x8 : List Int) (x11 : List Int) (x65 : Bool) : Option (Bool) := Lim fun k => laws_FnExactStranded.j0 k x0 x1 x2 x8 x11 x65
noncomputable def laws_FnExactStranded.fv (l0 : List Int) (l1 : List (List Int)) (a2 : Int) : Option (Bool) := Lim fun k => laws_FnExactStranded.f k l0 l1 a2
theorem laws_FnExactStranded.j0_is (x0 : List Int) (x1 : List (List Int)) (x2 : Int) (x8 : List Int) (x11 : List Int) (x65 : Bool) : Is (fun k => laws_FnExactStranded.j0 k x0 x1 x2 x8 x11 x65) (laws_FnExactStranded.j0v x0 x1 x2 x8 x11 x65) := ⟨fun k => (laws_FnExactStranded.mono_l k) x0 x1 x2 x8 x11 x65, rfl⟩
theorem laws_FnExactStranded.f_is (l0 : List Int) (l1 : List (List Int)) (a2 : Int) : Is (fun k => laws_FnExactStranded.f k l0 l1 a2) (laws_FnExactStranded.fv l0 l1 a2) := ⟨fun k => laws_FnExactStranded.mono l0 l1 a2 k, rfl⟩
theorem laws_FnExactStranded.j0v_eq (x0 : List Int) (x1 : List (List Int)) (x2 : Int) (x8 : List Int) (x11 : List Int) (x65 : Bool) : laws_FnExactStranded.j0v x0 x1 x2 x8 x11 x65 = if x65 = true then (some false) else ((laws_markIntS.fv x11 1).bind fun bt238 => ((laws_heldIntS.fv bt238.2 1).bind fun t240 => (if t240 < 0 then (some false) else (if t240 = bt238.1 then ((laws_toIntS.fv x0).bind fun t241 => ((laws_toIntSS.fv x1).bind fun t244 => ((impl_Stranded.fv t241 t244 x2).bind fun t247 => ((laws_eqIntS.fv t247 x8).bind fun t250 => (if t250 = true then ((laws_heldIntS.fv bt238.2 1).bind fun t251 => (if t251 < 0 then (some false) else (if t251 = bt238.1 then (some true) else (some false)))) else (some false)))))) else (some false))))) := by
  refine Is.step (laws_FnExactStranded.j0_is x0 x1 x2 x8 x11 x65).mo (fun k => by rw [laws_FnExactStranded.j0]) ?_
  · skip
    repeat' first
    | with_reducible exact impl_Stranded.f_is _ _ _
    | with_reducible exact laws_eqIntS.f_is _ _
    | with_reducible exact laws_heldIntS.f_is _ _
    | with_reducible exact laws_markIntS.f_is _ _
    | with_reducible exact laws_toIntS.f_is _
    | with_reducible exact laws_toIntSS.f_is _
    | with_reducible exact Is.now _
    | with_reducible refine Is.ite ?_ ?_
    | with_reducible refine Is.bind ?_ (fun _ => ?_)
theorem laws_FnExactStranded.fv_eq (l0 : List Int) (l1 : List (List Int)) (a2 : Int) : laws_FnExactStranded.fv l0 l1 a2 = if (l0.length : Int) > 1048576 then (some true) else ((laws_szIntSS.fv l1 1048576).bind fun t206 => (if t206 < 0 then (some true) else ((laws_toIntS.fv l0).bind fun t207 => ((laws_toIntSS.fv l1).bind fun t210 => ((spec_Stranded.fv t207 t210 a2).bind fun t213 => ((laws_toIntS.fv l0).bind fun t216 => ((laws_toIntSS.fv l1).bind fun t219 => ((impl_Stranded.fv t216 t219 a2).bind fun t222 => ((laws_eqIntS.fv t222 t213).bind fun t225 => (if t225 = true then ((laws_toIntS.fv l0).bind fun t226 => ((laws_eqIntS.fv t216 t226).bind fun t229 => (if t229 = true then ((laws_toIntSS.fv l1).bind fun t230 => ((laws_eqIntSS.fv t219 t230).bind fun t233 => (if t233 = true then ((laws_markIntS.fv t216 1).bind fun bt234 => ((laws_markIntSS.fv t219 bt234.1).bind fun t236 => (if t236 < 0 then (laws_FnExactStranded.j0v l0 l1 a2 t213 t222 true) else ((laws_eqIntS.fv t222 t213).bind fun t237 => (laws_FnExactStranded.j0v l0 l1 a2 t213 t222 (!t237)))))) else (some false)))) else (some false)))) else (some false))))))))))) := by
  refine Is.lim (g := fun k => laws_FnExactStranded.f k l0 l1 a2) ?_
  · unfold laws_FnExactStranded.f
    repeat' first
    | with_reducible exact impl_Stranded.f_is _ _ _
    | with_reducible exact laws_FnExactStranded.j0_is _ _ _ _ _ _
    | with_reducible exact laws_eqIntS.f_is _ _
    | with_reducible exact laws_eqIntSS.f_is _ _
    | with_reducible exact laws_markIntS.f_is _ _
    | with_reducible exact laws_markIntSS.f_is _ _
    | with_reducible exact laws_szIntSS.f_is _ _
    | with_reducible exact laws_toIntS.f_is _
    | with_reducible exact laws_toIntSS.f_is _
    | with_reducible exact spec_Stranded.f_is _ _ _
    | with_reducible exact Is.now _
    | with_reducible refine Is.ite ?_ ?_
    | with_reducible refine Is.bind ?_ (fun _ => ?_)
end Go.Proofs.Ytdoefkloanpliaa.Print
