/- Written by a program of this session (limx.py): the equations of what the printed functions come to. No condition. -/
import Derived.Test.YtaggmlokldaclaaBase
import Derived.Test.YtaggmlokldaclaaPrint10
import Derived.Test.YtaggmlokldaclaaLim2
namespace Go.Proofs.Ytaggmlokldaclaa.Print
open Go.RowKit Go.Proofs.YtaggmlokldaclaaW.PrintWords Go.Proofs.YtaggmlokldaclaaW.PrintLast Go.Proofs.Ytaggmlokldaclaa.Base
set_option linter.unusedVariables false
set_option maxRecDepth 20000
noncomputable def laws_FnExactSignalOf.fv (a0 : Int) (a1 : Int) (a2 : Int) (a3 : Int) : Option (Bool) := Lim fun k => laws_FnExactSignalOf.f k a0 a1 a2 a3
theorem laws_FnExactSignalOf.f_is (a0 : Int) (a1 : Int) (a2 : Int) (a3 : Int) : Is (fun k => laws_FnExactSignalOf.f k a0 a1 a2 a3) (laws_FnExactSignalOf.fv a0 a1 a2 a3) := ⟨fun k => laws_FnExactSignalOf.mono a0 a1 a2 a3 k, rfl⟩
theorem laws_FnExactSignalOf.fv_eq (a0 : Int) (a1 : Int) (a2 : Int) (a3 : Int) : laws_FnExactSignalOf.fv a0 a1 a2 a3 = (spec_SignalOf.fv a0 a1 a2 a3).bind fun t152 => ((impl_SignalOf.fv a0 a1 a2 a3).bind fun t153 => (if t153 = t152 then (some true) else (some false))) := by
  refine Is.lim (g := fun k => laws_FnExactSignalOf.f k a0 a1 a2 a3) ?_
  · unfold laws_FnExactSignalOf.f
    repeat' first
    | with_reducible exact impl_SignalOf.f_is _ _ _ _
    | with_reducible exact spec_SignalOf.f_is _ _ _ _
    | with_reducible exact Is.now _
    | with_reducible refine Is.ite ?_ ?_
    | with_reducible refine Is.bind ?_ (fun _ => ?_)
end Go.Proofs.Ytaggmlokldaclaa.Print
