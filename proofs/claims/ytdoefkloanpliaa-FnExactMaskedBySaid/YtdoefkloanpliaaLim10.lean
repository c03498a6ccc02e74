/- Written by a program of this session (limx.py): the equations of what the printed functions come to. No condition. -/
import Derived.Test.YtdoefkloanpliaaBase
import Derived.Test.YtdoefkloanpliaaPrint10
import Derived.Test.YtdoefkloanpliaaLim2
import Derived.Test.YtdoefkloanpliaaLim3
namespace Go.Proofs.Ytdoefkloanpliaa.Print
open Go.RowKit Go.Proofs.YtdoefkloanpliaaW.PrintWords Go.Proofs.YtdoefkloanpliaaW.PrintLast Go.Proofs.Ytdoefkloanpliaa.Base
set_option linter.unusedVariables false
set_option maxRecDepth 20000
noncomputable def impl_isBad.fv (a0_0 : Bool) (a0_1 : Int) (l0_2 : List Int) (a0_3 : Int) (l0_4 : List Int) (a1 : Int) : Option (Bool) := Lim fun k => impl_isBad.f k a0_0 a0_1 l0_2 a0_3 l0_4 a1
theorem impl_isBad.f_is (a0_0 : Bool) (a0_1 : Int) (l0_2 : List Int) (a0_3 : Int) (l0_4 : List Int) (a1 : Int) : Is (fun k => impl_isBad.f k a0_0 a0_1 l0_2 a0_3 l0_4 a1) (impl_isBad.fv a0_0 a0_1 l0_2 a0_3 l0_4 a1) := ⟨fun k => impl_isBad.mono a0_0 a0_1 l0_2 a0_3 l0_4 a1 k, rfl⟩
theorem impl_isBad.fv_eq (a0_0 : Bool) (a0_1 : Int) (l0_2 : List Int) (a0_3 : Int) (l0_4 : List Int) (a1 : Int) : impl_isBad.fv a0_0 a0_1 l0_2 a0_3 l0_4 a1 = if a0_0 = true then (if a0_1 < a1 then ((slices_Contains_int_int.fv l0_4 a1).bind fun t564 => (some t564)) else (some false)) else (some true) := by
  refine Is.lim (g := fun k => impl_isBad.f k a0_0 a0_1 l0_2 a0_3 l0_4 a1) ?_
  · unfold impl_isBad.f
    repeat' first
    | with_reducible exact slices_Contains_int_int.f_is _ _
    | with_reducible exact Is.now _
    | with_reducible refine Is.ite ?_ ?_
    | with_reducible refine Is.bind ?_ (fun _ => ?_)
noncomputable def impl_MaskedBy.l0v (x1 : Int) (x6 : Int) (x7 : Int) (x10 : List (S97)) (x11 : Int) (x12 : Int) : Option (Int × Int) := Lim fun k => impl_MaskedBy.l0 k x1 x6 x7 x10 x11 x12
noncomputable def impl_MaskedBy.fv (l0 : List (S97)) (a1 : Int) : Option (Int × Int) := Lim fun k => impl_MaskedBy.f k l0 a1
theorem impl_MaskedBy.l0_is (x1 : Int) (x6 : Int) (x7 : Int) (x10 : List (S97)) (x11 : Int) (x12 : Int) : Is (fun k => impl_MaskedBy.l0 k x1 x6 x7 x10 x11 x12) (impl_MaskedBy.l0v x1 x6 x7 x10 x11 x12) := ⟨fun k => (impl_MaskedBy.mono_l k) x1 x6 x7 x10 x11 x12, rfl⟩
theorem impl_MaskedBy.f_is (l0 : List (S97)) (a1 : Int) : Is (fun k => impl_MaskedBy.f k l0 a1) (impl_MaskedBy.fv l0 a1) := ⟨fun k => impl_MaskedBy.mono l0 a1 k, rfl⟩
theorem impl_MaskedBy.l0v_eq (x1 : Int) (x6 : Int) (x7 : Int) (x10 : List (S97)) (x11 : Int) (x12 : Int) : impl_MaskedBy.l0v x1 x6 x7 x10 x11 x12 = if x12 < x11 then (if 0 ≤ x12 then (if x12 < (x10.length : Int) then ((impl_isBad.fv ((rd_T97 x10 x12).f0.f0) ((rd_T97 x10 x12).f0.f1) ((rd_T97 x10 x12).f0.f2) ((rd_T97 x10 x12).f1) ((rd_T97 x10 x12).f2) x1).bind fun t567 => (if t567 = true then (impl_MaskedBy.l0v x1 x6 (wrap64 (x7 + 1)) x10 x11 (wrap64 (x12 + 1))) else (if ((rd_T97 x10 x12).f0.f1) ≥ x1 then (impl_MaskedBy.l0v x1 (wrap64 (x6 + 1)) x7 x10 x11 (wrap64 (x12 + 1))) else (impl_MaskedBy.l0v x1 x6 x7 x10 x11 (wrap64 (x12 + 1)))))) else (none)) else (none)) else (some (x6, x7)) := by
  refine Is.step (impl_MaskedBy.l0_is x1 x6 x7 x10 x11 x12).mo (fun k => by rw [impl_MaskedBy.l0]) ?_
  · skip
    repeat' first
    | with_reducible exact impl_MaskedBy.l0_is _ _ _ _ _ _
    | with_reducible exact impl_isBad.f_is _ _ _ _ _ _
    | with_reducible exact Is.now _
    | with_reducible refine Is.ite ?_ ?_
    | with_reducible refine Is.bind ?_ (fun _ => ?_)
theorem impl_MaskedBy.fv_eq (l0 : List (S97)) (a1 : Int) : impl_MaskedBy.fv l0 a1 = impl_MaskedBy.l0v a1 0 0 l0 (l0.length : Int) 0 := by
  refine Is.lim (g := fun k => impl_MaskedBy.f k l0 a1) ?_
  · unfold impl_MaskedBy.f
    repeat' first
    | with_reducible exact impl_MaskedBy.l0_is _ _ _ _ _ _
    | with_reducible exact Is.now _
    | with_reducible refine Is.ite ?_ ?_
    | with_reducible refine Is.bind ?_ (fun _ => ?_)
noncomputable def laws_eqDeal.fv (a0_0 : Bool) (a0_1 : Int) (l0_2 : List Int) (a1_0 : Bool) (a1_1 : Int) (l1_2 : List Int) : Option (Bool) := Lim fun k => laws_eqDeal.f k a0_0 a0_1 l0_2 a1_0 a1_1 l1_2
theorem laws_eqDeal.f_is (a0_0 : Bool) (a0_1 : Int) (l0_2 : List Int) (a1_0 : Bool) (a1_1 : Int) (l1_2 : List Int) : Is (fun k => laws_eqDeal.f k a0_0 a0_1 l0_2 a1_0 a1_1 l1_2) (laws_eqDeal.fv a0_0 a0_1 l0_2 a1_0 a1_1 l1_2) := ⟨fun k => laws_eqDeal.mono a0_0 a0_1 l0_2 a1_0 a1_1 l1_2 k, rfl⟩
theorem laws_eqDeal.fv_eq (a0_0 : Bool) (a0_1 : Int) (l0_2 : List Int) (a1_0 : Bool) (a1_1 : Int) (l1_2 : List Int) : laws_eqDeal.fv a0_0 a0_1 l0_2 a1_0 a1_1 l1_2 = if (a0_0 != a1_0) = true then (some false) else (if a0_1 = a1_1 then ((laws_eqIntS.fv l0_2 l1_2).bind fun t570 => (if t570 = true then (some true) else (some false))) else (some false)) := by
  refine Is.lim (g := fun k => laws_eqDeal.f k a0_0 a0_1 l0_2 a1_0 a1_1 l1_2) ?_
  · unfold laws_eqDeal.f
    repeat' first
    | with_reducible exact laws_eqIntS.f_is _ _
    | with_reducible exact Is.now _
    | with_reducible refine Is.ite ?_ ?_
    | with_reducible refine Is.bind ?_ (fun _ => ?_)
noncomputable def laws_eqDialed.fv (a0_0 : Bool) (a0_1 : Int) (l0_2 : List Int) (a0_3 : Int) (l0_4 : List Int) (a1_0 : Bool) (a1_1 : Int) (l1_2 : List Int) (a1_3 : Int) (l1_4 : List Int) : Option (Bool) := Lim fun k => laws_eqDialed.f k a0_0 a0_1 l0_2 a0_3 l0_4 a1_0 a1_1 l1_2 a1_3 l1_4
theorem laws_eqDialed.f_is (a0_0 : Bool) (a0_1 : Int) (l0_2 : List Int) (a0_3 : Int) (l0_4 : List Int) (a1_0 : Bool) (a1_1 : Int) (l1_2 : List Int) (a1_3 : Int) (l1_4 : List Int) : Is (fun k => laws_eqDialed.f k a0_0 a0_1 l0_2 a0_3 l0_4 a1_0 a1_1 l1_2 a1_3 l1_4) (laws_eqDialed.fv a0_0 a0_1 l0_2 a0_3 l0_4 a1_0 a1_1 l1_2 a1_3 l1_4) := ⟨fun k => laws_eqDialed.mono a0_0 a0_1 l0_2 a0_3 l0_4 a1_0 a1_1 l1_2 a1_3 l1_4 k, rfl⟩
theorem laws_eqDialed.fv_eq (a0_0 : Bool) (a0_1 : Int) (l0_2 : List Int) (a0_3 : Int) (l0_4 : List Int) (a1_0 : Bool) (a1_1 : Int) (l1_2 : List Int) (a1_3 : Int) (l1_4 : List Int) : laws_eqDialed.fv a0_0 a0_1 l0_2 a0_3 l0_4 a1_0 a1_1 l1_2 a1_3 l1_4 = (laws_eqDeal.fv a0_0 a0_1 l0_2 a1_0 a1_1 l1_2).bind fun t573 => (if t573 = true then (if a0_3 = a1_3 then ((laws_eqIntS.fv l0_4 l1_4).bind fun t574 => (if t574 = true then (some true) else (some false))) else (some false)) else (some false)) := by
  refine Is.lim (g := fun k => laws_eqDialed.f k a0_0 a0_1 l0_2 a0_3 l0_4 a1_0 a1_1 l1_2 a1_3 l1_4) ?_
  · unfold laws_eqDialed.f
    repeat' first
    | with_reducible exact laws_eqDeal.f_is _ _ _ _ _ _
    | with_reducible exact laws_eqIntS.f_is _ _
    | with_reducible exact Is.now _
    | with_reducible refine Is.ite ?_ ?_
    | with_reducible refine Is.bind ?_ (fun _ => ?_)
noncomputable def laws_eqDialedS.l0v (x0 : List (S97)) (x1 : List (S97)) (x5 : Int) : Option (Bool) := Lim fun k => laws_eqDialedS.l0 k x0 x1 x5
noncomputable def laws_eqDialedS.fv (l0 : List (S97)) (l1 : List (S97)) : Option (Bool) := Lim fun k => laws_eqDialedS.f k l0 l1
theorem laws_eqDialedS.l0_is (x0 : List (S97)) (x1 : List (S97)) (x5 : Int) : Is (fun k => laws_eqDialedS.l0 k x0 x1 x5) (laws_eqDialedS.l0v x0 x1 x5) := ⟨fun k => (laws_eqDialedS.mono_l k) x0 x1 x5, rfl⟩
theorem laws_eqDialedS.f_is (l0 : List (S97)) (l1 : List (S97)) : Is (fun k => laws_eqDialedS.f k l0 l1) (laws_eqDialedS.fv l0 l1) := ⟨fun k => laws_eqDialedS.mono l0 l1 k, rfl⟩
theorem laws_eqDialedS.l0v_eq (x0 : List (S97)) (x1 : List (S97)) (x5 : Int) : laws_eqDialedS.l0v x0 x1 x5 = if x5 < (x0.length : Int) then (if 0 ≤ x5 then (if x5 < (x1.length : Int) then ((laws_eqDialed.fv ((rd_T97 x0 x5).f0.f0) ((rd_T97 x0 x5).f0.f1) ((rd_T97 x0 x5).f0.f2) ((rd_T97 x0 x5).f1) ((rd_T97 x0 x5).f2) ((rd_T97 x1 x5).f0.f0) ((rd_T97 x1 x5).f0.f1) ((rd_T97 x1 x5).f0.f2) ((rd_T97 x1 x5).f1) ((rd_T97 x1 x5).f2)).bind fun t577 => (if t577 = true then (laws_eqDialedS.l0v x0 x1 (wrap64 (x5 + 1))) else (some false))) else (none)) else (none)) else (some true) := by
  refine Is.step (laws_eqDialedS.l0_is x0 x1 x5).mo (fun k => by rw [laws_eqDialedS.l0]) ?_
  · skip
    repeat' first
    | with_reducible exact laws_eqDialed.f_is _ _ _ _ _ _ _ _ _ _
    | with_reducible exact laws_eqDialedS.l0_is _ _ _
    | with_reducible exact Is.now _
    | with_reducible refine Is.ite ?_ ?_
    | with_reducible refine Is.bind ?_ (fun _ => ?_)
theorem laws_eqDialedS.fv_eq (l0 : List (S97)) (l1 : List (S97)) : laws_eqDialedS.fv l0 l1 = if (l0.length : Int) = (l1.length : Int) then (laws_eqDialedS.l0v l0 l1 0) else (some false) := by
  refine Is.lim (g := fun k => laws_eqDialedS.f k l0 l1) ?_
  · unfold laws_eqDialedS.f
    repeat' first
    | with_reducible exact laws_eqDialedS.l0_is _ _ _
    | with_reducible exact Is.now _
    | with_reducible refine Is.ite ?_ ?_
    | with_reducible refine Is.bind ?_ (fun _ => ?_)
end Go.Proofs.Ytdoefkloanpliaa.Print
