/- Written by a program of this session (limx.py): the equations of what the printed functions come to. No condition. -/
import Derived.Test.YtlcmkgbabffmeaaBase
import Derived.Test.YtlcmkgbabffmeaaPrint11
import Derived.Test.YtlcmkgbabffmeaaLim3
import Derived.Test.YtlcmkgbabffmeaaLim4
import Derived.Test.YtlcmkgbabffmeaaLim7
namespace Go.Proofs.Ytlcmkgbabffmeaa.Print
open Go.RowKit Go.Proofs.YtlcmkgbabffmeaaW.PrintWords Go.Proofs.YtlcmkgbabffmeaaW.PrintLast Go.Proofs.Ytlcmkgbabffmeaa.Base
set_option linter.unusedVariables false
set_option maxRecDepth 20000
noncomputable def laws_FnRollouts.l0v (x4 : Int) (x5 : Int) (x6 : Int) (x7 : Int) (x485000 : Int) (x485001 : List Int) (x485002 : Int) (x485003 : Bool) : Option (Bool) := Lim fun k => laws_FnRollouts.l0 k x4 x5 x6 x7 x485000 x485001 x485002 x485003
noncomputable def laws_FnRollouts.j1v (x4 : Int) (x5 : Int) (x6 : Int) (x7 : Int) (x30 : Bool) (x485000 : Int) (x485001 : List Int) (x485002 : Int) (x485003 : Bool) : Option (Bool) := Lim fun k => laws_FnRollouts.j1 k x4 x5 x6 x7 x30 x485000 x485001 x485002 x485003
noncomputable def laws_FnRollouts.j2v (x4 : Int) (x5 : Int) (x58 : Bool) (x485000 : Int) (x485001 : List Int) (x485002 : Int) (x485003 : Bool) : Option (Bool) := Lim fun k => laws_FnRollouts.j2 k x4 x5 x58 x485000 x485001 x485002 x485003
noncomputable def laws_FnRollouts.j3v (x4 : Int) (x5 : Int) (x9 : Bool) (x86 : Bool) (x485000 : Int) (x485001 : List Int) (x485002 : Int) (x485003 : Bool) : Option (Bool) := Lim fun k => laws_FnRollouts.j3 k x4 x5 x9 x86 x485000 x485001 x485002 x485003
noncomputable def laws_FnRollouts.j4v (x4 : Int) (x5 : Int) (x9 : Bool) (x11 : Bool) (x113 : Bool) (x485000 : Int) (x485001 : List Int) (x485002 : Int) (x485003 : Bool) (x506000 : Int) (x506001 : List Int) (x506002 : Int) (x506003 : Bool) : Option (Bool) := Lim fun k => laws_FnRollouts.j4 k x4 x5 x9 x11 x113 x485000 x485001 x485002 x485003 x506000 x506001 x506002 x506003
noncomputable def laws_FnRollouts.fv (l0 : List Int) : Option (Bool) := Lim fun k => laws_FnRollouts.f k l0
theorem laws_FnRollouts.l0_is (x4 : Int) (x5 : Int) (x6 : Int) (x7 : Int) (x485000 : Int) (x485001 : List Int) (x485002 : Int) (x485003 : Bool) : Is (fun k => laws_FnRollouts.l0 k x4 x5 x6 x7 x485000 x485001 x485002 x485003) (laws_FnRollouts.l0v x4 x5 x6 x7 x485000 x485001 x485002 x485003) := ⟨fun k => (laws_FnRollouts.mono_l k).1 x4 x5 x6 x7 x485000 x485001 x485002 x485003, rfl⟩
theorem laws_FnRollouts.j1_is (x4 : Int) (x5 : Int) (x6 : Int) (x7 : Int) (x30 : Bool) (x485000 : Int) (x485001 : List Int) (x485002 : Int) (x485003 : Bool) : Is (fun k => laws_FnRollouts.j1 k x4 x5 x6 x7 x30 x485000 x485001 x485002 x485003) (laws_FnRollouts.j1v x4 x5 x6 x7 x30 x485000 x485001 x485002 x485003) := ⟨fun k => (laws_FnRollouts.mono_l k).2.1 x4 x5 x6 x7 x30 x485000 x485001 x485002 x485003, rfl⟩
theorem laws_FnRollouts.j2_is (x4 : Int) (x5 : Int) (x58 : Bool) (x485000 : Int) (x485001 : List Int) (x485002 : Int) (x485003 : Bool) : Is (fun k => laws_FnRollouts.j2 k x4 x5 x58 x485000 x485001 x485002 x485003) (laws_FnRollouts.j2v x4 x5 x58 x485000 x485001 x485002 x485003) := ⟨fun k => (laws_FnRollouts.mono_l k).2.2.1 x4 x5 x58 x485000 x485001 x485002 x485003, rfl⟩
theorem laws_FnRollouts.j3_is (x4 : Int) (x5 : Int) (x9 : Bool) (x86 : Bool) (x485000 : Int) (x485001 : List Int) (x485002 : Int) (x485003 : Bool) : Is (fun k => laws_FnRollouts.j3 k x4 x5 x9 x86 x485000 x485001 x485002 x485003) (laws_FnRollouts.j3v x4 x5 x9 x86 x485000 x485001 x485002 x485003) := ⟨fun k => (laws_FnRollouts.mono_l k).2.2.2.1 x4 x5 x9 x86 x485000 x485001 x485002 x485003, rfl⟩
theorem laws_FnRollouts.j4_is (x4 : Int) (x5 : Int) (x9 : Bool) (x11 : Bool) (x113 : Bool) (x485000 : Int) (x485001 : List Int) (x485002 : Int) (x485003 : Bool) (x506000 : Int) (x506001 : List Int) (x506002 : Int) (x506003 : Bool) : Is (fun k => laws_FnRollouts.j4 k x4 x5 x9 x11 x113 x485000 x485001 x485002 x485003 x506000 x506001 x506002 x506003) (laws_FnRollouts.j4v x4 x5 x9 x11 x113 x485000 x485001 x485002 x485003 x506000 x506001 x506002 x506003) := ⟨fun k => (laws_FnRollouts.mono_l k).2.2.2.2 x4 x5 x9 x11 x113 x485000 x485001 x485002 x485003 x506000 x506001 x506002 x506003, rfl⟩
theorem laws_FnRollouts.f_is (l0 : List Int) : Is (fun k => laws_FnRollouts.f k l0) (laws_FnRollouts.fv l0) := ⟨fun k => laws_FnRollouts.mono l0 k, rfl⟩
theorem laws_FnRollouts.l0v_eq (x4 : Int) (x5 : Int) (x6 : Int) (x7 : Int) (x485000 : Int) (x485001 : List Int) (x485002 : Int) (x485003 : Bool) : laws_FnRollouts.l0v x4 x5 x6 x7 x485000 x485001 x485002 x485003 = if x7 < x4 then (laws_FnRollouts.j1v x4 x5 x6 x7 (decide (x7 < 10)) x485000 x485001 x485002 x485003) else (laws_FnRollouts.j1v x4 x5 x6 x7 false x485000 x485001 x485002 x485003) := by
  refine Is.step (laws_FnRollouts.l0_is x4 x5 x6 x7 x485000 x485001 x485002 x485003).mo (fun k => by rw [laws_FnRollouts.l0]) ?_
  · skip
    repeat' first
    | with_reducible exact laws_FnRollouts.j1_is _ _ _ _ _ _ _ _ _
    | with_reducible exact Is.now _
    | with_reducible refine Is.ite ?_ ?_
    | with_reducible refine Is.bind ?_ (fun _ => ?_)
theorem laws_FnRollouts.j1v_eq (x4 : Int) (x5 : Int) (x6 : Int) (x7 : Int) (x30 : Bool) (x485000 : Int) (x485001 : List Int) (x485002 : Int) (x485003 : Bool) : laws_FnRollouts.j1v x4 x5 x6 x7 x30 x485000 x485001 x485002 x485003 = if x30 = true then ((impl_IsIn.fv x485000 x485001 x485002 x485003 x7 x4).bind fun t486 => (if t486 = true then (laws_FnRollouts.l0v x4 x5 (wrap64 (x6 + 1)) (wrap64 (x7 + 1)) x485000 x485001 x485002 x485003) else (laws_FnRollouts.l0v x4 x5 x6 (wrap64 (x7 + 1)) x485000 x485001 x485002 x485003))) else (if x5 > x4 then (if x4 ≥ 0 then (laws_FnRollouts.j2v x4 x5 true x485000 x485001 x485002 x485003) else (laws_FnRollouts.j2v x4 x5 false x485000 x485001 x485002 x485003)) else (if x4 ≥ 0 then (if x4 ≤ 10 then (laws_FnRollouts.j2v x4 x5 (x6 != x5) x485000 x485001 x485002 x485003) else (laws_FnRollouts.j2v x4 x5 false x485000 x485001 x485002 x485003)) else (laws_FnRollouts.j2v x4 x5 false x485000 x485001 x485002 x485003))) := by
  refine Is.step (laws_FnRollouts.j1_is x4 x5 x6 x7 x30 x485000 x485001 x485002 x485003).mo (fun k => by rw [laws_FnRollouts.j1]) ?_
  · skip
    repeat' first
    | with_reducible exact impl_IsIn.f_is _ _ _ _ _ _
    | with_reducible exact laws_FnRollouts.j2_is _ _ _ _ _ _ _
    | with_reducible exact laws_FnRollouts.l0_is _ _ _ _ _ _ _ _
    | with_reducible exact Is.now _
    | with_reducible refine Is.ite ?_ ?_
    | with_reducible refine Is.bind ?_ (fun _ => ?_)
theorem laws_FnRollouts.j2v_eq (x4 : Int) (x5 : Int) (x58 : Bool) (x485000 : Int) (x485001 : List Int) (x485002 : Int) (x485003 : Bool) : laws_FnRollouts.j2v x4 x5 x58 x485000 x485001 x485002 x485003 = if x58 = true then (some false) else ((impl_NextStage.fv x485000 x485001 x485002 x485003).bind fun bt487 => (if bt487.2.2.2.2 = true then ((impl_IsRollout.fv bt487.1 bt487.2.1 bt487.2.2.1 bt487.2.2.2.1).bind fun t495 => (if t495 = true then ((impl_CountIn.fv bt487.1 bt487.2.1 bt487.2.2.1 bt487.2.2.2.1 x4).bind fun t496 => (if t496 < x5 then (laws_FnRollouts.j3v x4 x5 bt487.2.2.2.2 true x485000 x485001 x485002 x485003) else (laws_FnRollouts.j3v x4 x5 bt487.2.2.2.2 false x485000 x485001 x485002 x485003))) else (laws_FnRollouts.j3v x4 x5 bt487.2.2.2.2 true x485000 x485001 x485002 x485003))) else ((impl_EqualRollouts.fv bt487.1 bt487.2.1 bt487.2.2.1 bt487.2.2.2.1 x485000 x485001 x485002 x485003).bind fun t497 => (laws_FnRollouts.j3v x4 x5 bt487.2.2.2.2 (!t497) x485000 x485001 x485002 x485003)))) := by
  refine Is.step (laws_FnRollouts.j2_is x4 x5 x58 x485000 x485001 x485002 x485003).mo (fun k => by rw [laws_FnRollouts.j2]) ?_
  · skip
    repeat' first
    | with_reducible exact impl_CountIn.f_is _ _ _ _ _
    | with_reducible exact impl_EqualRollouts.f_is _ _ _ _ _ _ _ _
    | with_reducible exact impl_IsRollout.f_is _ _ _ _
    | with_reducible exact impl_NextStage.f_is _ _ _ _
    | with_reducible exact laws_FnRollouts.j3_is _ _ _ _ _ _ _ _
    | with_reducible exact Is.now _
    | with_reducible refine Is.ite ?_ ?_
    | with_reducible refine Is.bind ?_ (fun _ => ?_)
theorem laws_FnRollouts.j3v_eq (x4 : Int) (x5 : Int) (x9 : Bool) (x86 : Bool) (x485000 : Int) (x485001 : List Int) (x485002 : Int) (x485003 : Bool) : laws_FnRollouts.j3v x4 x5 x9 x86 x485000 x485001 x485002 x485003 = if x86 = true then (some false) else ((impl_BackStage.fv x485000 x485001 x485002 x485003).bind fun bt498 => (if bt498.2.2.2.2 = true then ((impl_CountIn.fv bt498.1 bt498.2.1 bt498.2.2.1 bt498.2.2.2.1 x4).bind fun t506 => (if t506 = 0 then ((impl_IsRollout.fv bt498.1 bt498.2.1 bt498.2.2.1 bt498.2.2.2.1).bind fun t507 => (if t507 = true then (laws_FnRollouts.j4v x4 x5 x9 bt498.2.2.2.2 false x485000 x485001 x485002 x485003 bt498.1 bt498.2.1 bt498.2.2.1 bt498.2.2.2.1) else (laws_FnRollouts.j4v x4 x5 x9 bt498.2.2.2.2 true x485000 x485001 x485002 x485003 bt498.1 bt498.2.1 bt498.2.2.1 bt498.2.2.2.1))) else (laws_FnRollouts.j4v x4 x5 x9 bt498.2.2.2.2 true x485000 x485001 x485002 x485003 bt498.1 bt498.2.1 bt498.2.2.1 bt498.2.2.2.1))) else ((impl_EqualRollouts.fv bt498.1 bt498.2.1 bt498.2.2.1 bt498.2.2.2.1 x485000 x485001 x485002 x485003).bind fun t508 => (laws_FnRollouts.j4v x4 x5 x9 bt498.2.2.2.2 (!t508) x485000 x485001 x485002 x485003 bt498.1 bt498.2.1 bt498.2.2.1 bt498.2.2.2.1)))) := by
  refine Is.step (laws_FnRollouts.j3_is x4 x5 x9 x86 x485000 x485001 x485002 x485003).mo (fun k => by rw [laws_FnRollouts.j3]) ?_
  · skip
    repeat' first
    | with_reducible exact impl_BackStage.f_is _ _ _ _
    | with_reducible exact impl_CountIn.f_is _ _ _ _ _
    | with_reducible exact impl_EqualRollouts.f_is _ _ _ _ _ _ _ _
    | with_reducible exact impl_IsRollout.f_is _ _ _ _
    | with_reducible exact laws_FnRollouts.j4_is _ _ _ _ _ _ _ _ _ _ _ _ _
    | with_reducible exact Is.now _
    | with_reducible refine Is.ite ?_ ?_
    | with_reducible refine Is.bind ?_ (fun _ => ?_)
theorem laws_FnRollouts.j4v_eq (x4 : Int) (x5 : Int) (x9 : Bool) (x11 : Bool) (x113 : Bool) (x485000 : Int) (x485001 : List Int) (x485002 : Int) (x485003 : Bool) (x506000 : Int) (x506001 : List Int) (x506002 : Int) (x506003 : Bool) : laws_FnRollouts.j4v x4 x5 x9 x11 x113 x485000 x485001 x485002 x485003 x506000 x506001 x506002 x506003 = if x113 = true then (some false) else ((impl_NextStage.fv x506000 x506001 x506002 x506003).bind fun bt509 => (if x11 = true then (if bt509.2.2.2.2 = true then (some false) else (if x9 = true then (some true) else (if x485003 = true then (some true) else ((impl_IsRollout.fv x485000 x485001 x485002 x485003).bind fun t517 => (if t517 = true then (if x4 < 0 then (some true) else (if x4 > 10000 then (some true) else (some (x5 == x4)))) else (some true)))))) else (if x9 = true then (some true) else (if x485003 = true then (some true) else ((impl_IsRollout.fv x485000 x485001 x485002 x485003).bind fun t518 => (if t518 = true then (if x4 < 0 then (some true) else (if x4 > 10000 then (some true) else (some (x5 == x4)))) else (some true))))))) := by
  refine Is.step (laws_FnRollouts.j4_is x4 x5 x9 x11 x113 x485000 x485001 x485002 x485003 x506000 x506001 x506002 x506003).mo (fun k => by rw [laws_FnRollouts.j4]) ?_
  · skip
    repeat' first
    | with_reducible exact impl_IsRollout.f_is _ _ _ _
    | with_reducible exact impl_NextStage.f_is _ _ _ _
    | with_reducible exact Is.now _
    | with_reducible refine Is.ite ?_ ?_
    | with_reducible refine Is.bind ?_ (fun _ => ?_)
theorem laws_FnRollouts.fv_eq (l0 : List Int) : laws_FnRollouts.fv l0 = (laws_big.f l0).bind fun t476 => (if t476 = true then (some true) else ((spec_DrawCountIn.fv l0).bind fun bt477 => ((impl_CountIn.fv bt477.1 bt477.2.1 bt477.2.2.1 bt477.2.2.2.1 bt477.2.2.2.2).bind fun t485 => (laws_FnRollouts.l0v bt477.2.2.2.2 t485 0 0 bt477.1 bt477.2.1 bt477.2.2.1 bt477.2.2.2.1)))) := by
  refine Is.lim (g := fun k => laws_FnRollouts.f k l0) ?_
  · unfold laws_FnRollouts.f
    repeat' first
    | with_reducible exact impl_CountIn.f_is _ _ _ _ _
    | with_reducible exact laws_FnRollouts.l0_is _ _ _ _ _ _ _ _
    | with_reducible exact spec_DrawCountIn.f_is _
    | with_reducible exact Is.now _
    | with_reducible refine Is.ite ?_ ?_
    | with_reducible refine Is.bind ?_ (fun _ => ?_)
end Go.Proofs.Ytlcmkgbabffmeaa.Print
