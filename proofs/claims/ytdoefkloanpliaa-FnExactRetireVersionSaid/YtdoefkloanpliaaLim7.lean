/- Written by a program of this session (limx.py): the equations of what the printed functions come to. No condition. -/
import Derived.Test.YtdoefkloanpliaaBase
import Derived.Test.YtdoefkloanpliaaPrint7
import Derived.Test.YtdoefkloanpliaaLim1
import Derived.Test.YtdoefkloanpliaaLim4
import Derived.Test.YtdoefkloanpliaaLim5
namespace Go.Proofs.Ytdoefkloanpliaa.Print
open Go.RowKit Go.Proofs.YtdoefkloanpliaaW.PrintWords Go.Proofs.YtdoefkloanpliaaW.PrintLast Go.Proofs.Ytdoefkloanpliaa.Base
set_option linter.unusedVariables false
set_option maxRecDepth 20000
noncomputable def laws_FnExactRetireVersion.j0v (x0 : List Int) (x1 : List (List Int)) (x2 : Int) (x3 : Int) (x10 : List Int) (x11 : Bool) (x12 : List Int) (x13 : List (List Int)) (x14 : List Int) (x15 : Bool) (x59 : Bool) : Option (Bool) := Lim fun k => laws_FnExactRetireVersion.j0 k x0 x1 x2 x3 x10 x11 x12 x13 x14 x15 x59
noncomputable def laws_FnExactRetireVersion.j1v (x0 : List Int) (x1 : List (List Int)) (x2 : Int) (x3 : Int) (x10 : List Int) (x11 : Bool) (x14 : List Int) (x88 : Bool) : Option (Bool) := Lim fun k => laws_FnExactRetireVersion.j1 k x0 x1 x2 x3 x10 x11 x14 x88
noncomputable def laws_FnExactRetireVersion.j2v (x14 : List Int) (x17 : Int) (x118 : Bool) : Option (Bool) := Lim fun k => laws_FnExactRetireVersion.j2 k x14 x17 x118
noncomputable def laws_FnExactRetireVersion.fv (l0 : List Int) (l1 : List (List Int)) (a2 : Int) (a3 : Int) : Option (Bool) := Lim fun k => laws_FnExactRetireVersion.f k l0 l1 a2 a3
theorem laws_FnExactRetireVersion.j0_is (x0 : List Int) (x1 : List (List Int)) (x2 : Int) (x3 : Int) (x10 : List Int) (x11 : Bool) (x12 : List Int) (x13 : List (List Int)) (x14 : List Int) (x15 : Bool) (x59 : Bool) : Is (fun k => laws_FnExactRetireVersion.j0 k x0 x1 x2 x3 x10 x11 x12 x13 x14 x15 x59) (laws_FnExactRetireVersion.j0v x0 x1 x2 x3 x10 x11 x12 x13 x14 x15 x59) := ⟨fun k => (laws_FnExactRetireVersion.mono_l k).1 x0 x1 x2 x3 x10 x11 x12 x13 x14 x15 x59, rfl⟩
theorem laws_FnExactRetireVersion.j1_is (x0 : List Int) (x1 : List (List Int)) (x2 : Int) (x3 : Int) (x10 : List Int) (x11 : Bool) (x14 : List Int) (x88 : Bool) : Is (fun k => laws_FnExactRetireVersion.j1 k x0 x1 x2 x3 x10 x11 x14 x88) (laws_FnExactRetireVersion.j1v x0 x1 x2 x3 x10 x11 x14 x88) := ⟨fun k => (laws_FnExactRetireVersion.mono_l k).2.1 x0 x1 x2 x3 x10 x11 x14 x88, rfl⟩
theorem laws_FnExactRetireVersion.j2_is (x14 : List Int) (x17 : Int) (x118 : Bool) : Is (fun k => laws_FnExactRetireVersion.j2 k x14 x17 x118) (laws_FnExactRetireVersion.j2v x14 x17 x118) := ⟨fun k => (laws_FnExactRetireVersion.mono_l k).2.2 x14 x17 x118, rfl⟩
theorem laws_FnExactRetireVersion.f_is (l0 : List Int) (l1 : List (List Int)) (a2 : Int) (a3 : Int) : Is (fun k => laws_FnExactRetireVersion.f k l0 l1 a2 a3) (laws_FnExactRetireVersion.fv l0 l1 a2 a3) := ⟨fun k => laws_FnExactRetireVersion.mono l0 l1 a2 a3 k, rfl⟩
theorem laws_FnExactRetireVersion.j0v_eq (x0 : List Int) (x1 : List (List Int)) (x2 : Int) (x3 : Int) (x10 : List Int) (x11 : Bool) (x12 : List Int) (x13 : List (List Int)) (x14 : List Int) (x15 : Bool) (x59 : Bool) : laws_FnExactRetireVersion.j0v x0 x1 x2 x3 x10 x11 x12 x13 x14 x15 x59 = if x59 = true then (some false) else ((laws_toIntS.fv x0).bind fun t315 => ((laws_eqIntS.fv x12 t315).bind fun t318 => (if t318 = true then ((laws_toIntSS.fv x1).bind fun t319 => ((laws_eqIntSS.fv x13 t319).bind fun t322 => (if t322 = true then ((laws_markIntS.fv x12 1).bind fun bt323 => ((laws_markIntSS.fv x13 bt323.1).bind fun t325 => (if t325 < 0 then (laws_FnExactRetireVersion.j1v x0 x1 x2 x3 x10 x11 x14 true) else ((laws_eqIntS.fv x14 x10).bind fun t326 => (if t326 = true then (laws_FnExactRetireVersion.j1v x0 x1 x2 x3 x10 x11 x14 (x15 != x11)) else (laws_FnExactRetireVersion.j1v x0 x1 x2 x3 x10 x11 x14 true)))))) else (some false)))) else (some false)))) := by
  refine Is.step (laws_FnExactRetireVersion.j0_is x0 x1 x2 x3 x10 x11 x12 x13 x14 x15 x59).mo (fun k => by rw [laws_FnExactRetireVersion.j0]) ?_
  · skip
    repeat' first
    | with_reducible exact laws_FnExactRetireVersion.j1_is _ _ _ _ _ _ _ _
    | with_reducible exact laws_eqIntS.f_is _ _
    | with_reducible exact laws_eqIntSS.f_is _ _
    | with_reducible exact laws_markIntS.f_is _ _
    | with_reducible exact laws_markIntSS.f_is _ _
    | with_reducible exact laws_toIntS.f_is _
    | with_reducible exact laws_toIntSS.f_is _
    | with_reducible exact Is.now _
    | with_reducible refine Is.ite ?_ ?_
    | with_reducible refine Is.bind ?_ (fun _ => ?_)
theorem laws_FnExactRetireVersion.j1v_eq (x0 : List Int) (x1 : List (List Int)) (x2 : Int) (x3 : Int) (x10 : List Int) (x11 : Bool) (x14 : List Int) (x88 : Bool) : laws_FnExactRetireVersion.j1v x0 x1 x2 x3 x10 x11 x14 x88 = if x88 = true then (some false) else ((laws_markIntS.fv x14 1).bind fun bt327 => ((laws_heldIntS.fv bt327.2 1).bind fun t329 => (if t329 < 0 then (some false) else (if t329 = bt327.1 then ((laws_toIntS.fv x0).bind fun t330 => ((laws_toIntSS.fv x1).bind fun t333 => ((impl_RetireVersion.fv t330 t333 x2 x3).bind fun bt336 => ((laws_eqIntS.fv bt336.1 x10).bind fun t340 => (if t340 = true then (laws_FnExactRetireVersion.j2v bt327.2 bt327.1 (bt336.2 != x11)) else (laws_FnExactRetireVersion.j2v bt327.2 bt327.1 true)))))) else (some false))))) := by
  refine Is.step (laws_FnExactRetireVersion.j1_is x0 x1 x2 x3 x10 x11 x14 x88).mo (fun k => by rw [laws_FnExactRetireVersion.j1]) ?_
  · skip
    repeat' first
    | with_reducible exact impl_RetireVersion.f_is _ _ _ _
    | with_reducible exact laws_FnExactRetireVersion.j2_is _ _ _
    | with_reducible exact laws_eqIntS.f_is _ _
    | with_reducible exact laws_heldIntS.f_is _ _
    | with_reducible exact laws_markIntS.f_is _ _
    | with_reducible exact laws_toIntS.f_is _
    | with_reducible exact laws_toIntSS.f_is _
    | with_reducible exact Is.now _
    | with_reducible refine Is.ite ?_ ?_
    | with_reducible refine Is.bind ?_ (fun _ => ?_)
theorem laws_FnExactRetireVersion.j2v_eq (x14 : List Int) (x17 : Int) (x118 : Bool) : laws_FnExactRetireVersion.j2v x14 x17 x118 = if x118 = true then (some false) else ((laws_heldIntS.fv x14 1).bind fun t341 => (if t341 < 0 then (some false) else (if t341 = x17 then (some true) else (some false)))) := by
  refine Is.step (laws_FnExactRetireVersion.j2_is x14 x17 x118).mo (fun k => by rw [laws_FnExactRetireVersion.j2]) ?_
  · skip
    repeat' first
    | with_reducible exact laws_heldIntS.f_is _ _
    | with_reducible exact Is.now _
    | with_reducible refine Is.ite ?_ ?_
    | with_reducible refine Is.bind ?_ (fun _ => ?_)
theorem laws_FnExactRetireVersion.fv_eq (l0 : List Int) (l1 : List (List Int)) (a2 : Int) (a3 : Int) : laws_FnExactRetireVersion.fv l0 l1 a2 a3 = if (l0.length : Int) > 1048576 then (some true) else ((laws_szIntSS.fv l1 1048576).bind fun t293 => (if t293 < 0 then (some true) else ((laws_toIntS.fv l0).bind fun t294 => ((laws_toIntSS.fv l1).bind fun t297 => ((spec_RetireVersion.fv t294 t297 a2 a3).bind fun bt300 => ((laws_toIntS.fv l0).bind fun t304 => ((laws_toIntSS.fv l1).bind fun t307 => ((impl_RetireVersion.fv t304 t307 a2 a3).bind fun bt310 => ((laws_eqIntS.fv bt310.1 bt300.1).bind fun t314 => (if t314 = true then (laws_FnExactRetireVersion.j0v l0 l1 a2 a3 bt300.1 bt300.2 t304 t307 bt310.1 bt310.2 (bt310.2 != bt300.2)) else (laws_FnExactRetireVersion.j0v l0 l1 a2 a3 bt300.1 bt300.2 t304 t307 bt310.1 bt310.2 true))))))))))) := by
  refine Is.lim (g := fun k => laws_FnExactRetireVersion.f k l0 l1 a2 a3) ?_
  · unfold laws_FnExactRetireVersion.f
    repeat' first
    | with_reducible exact impl_RetireVersion.f_is _ _ _ _
    | with_reducible exact laws_FnExactRetireVersion.j0_is _ _ _ _ _ _ _ _ _ _ _
    | with_reducible exact laws_eqIntS.f_is _ _
    | with_reducible exact laws_szIntSS.f_is _ _
    | with_reducible exact laws_toIntS.f_is _
    | with_reducible exact laws_toIntSS.f_is _
    | with_reducible exact spec_RetireVersion.f_is _ _ _ _
    | with_reducible exact Is.now _
    | with_reducible refine Is.ite ?_ ?_
    | with_reducible refine Is.bind ?_ (fun _ => ?_)
end Go.Proofs.Ytdoefkloanpliaa.Print
