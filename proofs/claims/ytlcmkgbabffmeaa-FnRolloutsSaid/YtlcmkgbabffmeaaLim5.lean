/- Written by a program of this session (limx.py): the equations of what the printed functions come to. No condition. -/
import Derived.Test.YtlcmkgbabffmeaaBase
import Derived.Test.YtlcmkgbabffmeaaPrint5
namespace Go.Proofs.Ytlcmkgbabffmeaa.Print
open Go.RowKit Go.Proofs.YtlcmkgbabffmeaaW.PrintWords Go.Proofs.YtlcmkgbabffmeaaW.PrintLast Go.Proofs.Ytlcmkgbabffmeaa.Base
set_option linter.unusedVariables false
set_option maxRecDepth 20000
noncomputable def spec_l4Put.l0v (x0 : List Int) (x1 : Int) (x5 : Int) : Option (List Int) := Lim fun k => spec_l4Put.l0 k x0 x1 x5
noncomputable def spec_l4Put.fv (l0 : List Int) (a1 : Int) : Option (List Int) := Lim fun k => spec_l4Put.f k l0 a1
theorem spec_l4Put.l0_is (x0 : List Int) (x1 : Int) (x5 : Int) : Is (fun k => spec_l4Put.l0 k x0 x1 x5) (spec_l4Put.l0v x0 x1 x5) := ⟨fun k => (spec_l4Put.mono_l k) x0 x1 x5, rfl⟩
theorem spec_l4Put.f_is (l0 : List Int) (a1 : Int) : Is (fun k => spec_l4Put.f k l0 a1) (spec_l4Put.fv l0 a1) := ⟨fun k => spec_l4Put.mono l0 a1 k, rfl⟩
theorem spec_l4Put.l0v_eq (x0 : List Int) (x1 : Int) (x5 : Int) : spec_l4Put.l0v x0 x1 x5 = if x5 < (x0.length : Int) then (if 0 ≤ x5 then (if (rd x0 x5) < x1 then (spec_l4Put.l0v x0 x1 (wrap64 (x5 + 1))) else (if (rd x0 x5) = x1 then ((some (([] : List Int) : List Int)).bind fun y364 => (if y364.length + x0.length < 17592186044416 then (some (y364 ++ x0)) else (none))) else ((some (([] : List Int) : List Int)).bind fun y370 => (if x5 ≤ (x0.length : Int) then (if y370.length + (x0.take (x5 : Int).toNat).length < 17592186044416 then ((some (y370 ++ (x0.take (x5 : Int).toNat) : List Int)).bind fun y374 => ((some (([x1] : List Int) : List Int)).bind fun y377 => (if y374.length + y377.length < 17592186044416 then ((some (y374 ++ y377 : List Int)).bind fun y380 => (if y380.length + (x0.drop (x5 : Int).toNat).length < 17592186044416 then (some (y380 ++ (x0.drop (x5 : Int).toNat))) else (none))) else (none)))) else (none)) else (none))))) else (none)) else ((some (([] : List Int) : List Int)).bind fun y387 => (if 0 ≤ x5 then (if x5 ≤ (x0.length : Int) then (if y387.length + (x0.take (x5 : Int).toNat).length < 17592186044416 then ((some (y387 ++ (x0.take (x5 : Int).toNat) : List Int)).bind fun y391 => ((some (([x1] : List Int) : List Int)).bind fun y394 => (if y391.length + y394.length < 17592186044416 then ((some (y391 ++ y394 : List Int)).bind fun y397 => (if y397.length + (x0.drop (x5 : Int).toNat).length < 17592186044416 then (some (y397 ++ (x0.drop (x5 : Int).toNat))) else (none))) else (none)))) else (none)) else (none)) else (none))) := by
  refine Is.step (spec_l4Put.l0_is x0 x1 x5).mo (fun k => by rw [spec_l4Put.l0]) ?_
  · skip
    repeat' first
    | with_reducible exact spec_l4Put.l0_is _ _ _
    | with_reducible exact Is.now _
    | with_reducible refine Is.ite ?_ ?_
    | with_reducible refine Is.bind ?_ (fun _ => ?_)
theorem spec_l4Put.fv_eq (l0 : List Int) (a1 : Int) : spec_l4Put.fv l0 a1 = spec_l4Put.l0v l0 a1 0 := by
  refine Is.lim (g := fun k => spec_l4Put.f k l0 a1) ?_
  · unfold spec_l4Put.f
    repeat' first
    | with_reducible exact spec_l4Put.l0_is _ _ _
    | with_reducible exact Is.now _
    | with_reducible refine Is.ite ?_ ?_
    | with_reducible refine Is.bind ?_ (fun _ => ?_)
end Go.Proofs.Ytlcmkgbabffmeaa.Print
