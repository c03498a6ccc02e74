/- Written by a program of this session (limx.py): the equations of what the printed functions come to. No condition. -/
import Derived.Test.YtaggmlokldaclaaBase
import Derived.Test.YtaggmlokldaclaaPrint7
import Derived.Test.YtaggmlokldaclaaLim6
namespace Go.Proofs.Ytaggmlokldaclaa.Print
open Go.RowKit Go.Proofs.YtaggmlokldaclaaW.PrintWords Go.Proofs.YtaggmlokldaclaaW.PrintLast Go.Proofs.Ytaggmlokldaclaa.Base
set_option linter.unusedVariables false
set_option maxRecDepth 20000
noncomputable def spec_l24Any.l0v (x3 : List Int) (x4 : Int) (x1000 : List Int) (x1001 : Int) (x1002 : Int) : Option (List Int × Int × Int) := Lim fun k => spec_l24Any.l0 k x3 x4 x1000 x1001 x1002
noncomputable def spec_l24Any.j1v (x3 : List Int) (x23 : Bool) (x1000 : List Int) (x1001 : Int) (x1002 : Int) : Option (List Int × Int × Int) := Lim fun k => spec_l24Any.j1 k x3 x23 x1000 x1001 x1002
noncomputable def spec_l24Any.j2v (x3 : List Int) (x1000 : List Int) (x1001 : Int) (x1002 : Int) : Option (List Int × Int × Int) := Lim fun k => spec_l24Any.j2 k x3 x1000 x1001 x1002
noncomputable def spec_l24Any.l1v (x3 : List Int) (x1000 : List Int) (x1001 : Int) (x1002 : Int) : Option (List Int × Int × Int) := Lim fun k => spec_l24Any.l1 k x3 x1000 x1001 x1002
noncomputable def spec_l24Any.fv (s0_0 : List Int) (s0_1 : Int) (s0_2 : Int) : Option (List Int × Int × Int) := Lim fun k => spec_l24Any.f k s0_0 s0_1 s0_2
theorem spec_l24Any.l0_is (x3 : List Int) (x4 : Int) (x1000 : List Int) (x1001 : Int) (x1002 : Int) : Is (fun k => spec_l24Any.l0 k x3 x4 x1000 x1001 x1002) (spec_l24Any.l0v x3 x4 x1000 x1001 x1002) := ⟨fun k => (spec_l24Any.mono_l k).1 x3 x4 x1000 x1001 x1002, rfl⟩
theorem spec_l24Any.j1_is (x3 : List Int) (x23 : Bool) (x1000 : List Int) (x1001 : Int) (x1002 : Int) : Is (fun k => spec_l24Any.j1 k x3 x23 x1000 x1001 x1002) (spec_l24Any.j1v x3 x23 x1000 x1001 x1002) := ⟨fun k => (spec_l24Any.mono_l k).2.1 x3 x23 x1000 x1001 x1002, rfl⟩
theorem spec_l24Any.j2_is (x3 : List Int) (x1000 : List Int) (x1001 : Int) (x1002 : Int) : Is (fun k => spec_l24Any.j2 k x3 x1000 x1001 x1002) (spec_l24Any.j2v x3 x1000 x1001 x1002) := ⟨fun k => (spec_l24Any.mono_l k).2.2.1 x3 x1000 x1001 x1002, rfl⟩
theorem spec_l24Any.l1_is (x3 : List Int) (x1000 : List Int) (x1001 : Int) (x1002 : Int) : Is (fun k => spec_l24Any.l1 k x3 x1000 x1001 x1002) (spec_l24Any.l1v x3 x1000 x1001 x1002) := ⟨fun k => (spec_l24Any.mono_l k).2.2.2 x3 x1000 x1001 x1002, rfl⟩
theorem spec_l24Any.f_is (s0_0 : List Int) (s0_1 : Int) (s0_2 : Int) : Is (fun k => spec_l24Any.f k s0_0 s0_1 s0_2) (spec_l24Any.fv s0_0 s0_1 s0_2) := ⟨fun k => spec_l24Any.mono s0_0 s0_1 s0_2 k, rfl⟩
theorem spec_l24Any.l0v_eq (x3 : List Int) (x4 : Int) (x1000 : List Int) (x1001 : Int) (x1002 : Int) : spec_l24Any.l0v x3 x4 x1000 x1001 x1002 = if x4 > 0 then ((spec_l1Below.f x1000 x1001 x1002 40).bind fun bt431 => (if x3.length < 17592186044416 then (spec_l24Any.l0v (x3 ++ [bt431.1]) (wrap64 (x4 - 1)) x1000 bt431.2.1 bt431.2.2) else (none))) else (if (x3.length : Int) > 0 then ((spec_l1Once.f x1000 x1001 x1002 6).bind fun bt437 => (spec_l24Any.j1v x3 bt437.1 x1000 bt437.2.1 bt437.2.2)) else (spec_l24Any.j1v x3 false x1000 x1001 x1002)) := by
  refine Is.step (spec_l24Any.l0_is x3 x4 x1000 x1001 x1002).mo (fun k => by rw [spec_l24Any.l0]) ?_
  · skip
    repeat' first
    | with_reducible exact spec_l24Any.j1_is _ _ _ _ _
    | with_reducible exact spec_l24Any.l0_is _ _ _ _ _
    | with_reducible exact Is.now _
    | with_reducible refine Is.ite ?_ ?_
    | with_reducible refine Is.bind ?_ (fun _ => ?_)
theorem spec_l24Any.j1v_eq (x3 : List Int) (x23 : Bool) (x1000 : List Int) (x1001 : Int) (x1002 : Int) : spec_l24Any.j1v x3 x23 x1000 x1001 x1002 = if x23 = true then ((spec_l1Int.f x1000 x1001 x1002 (([(-1), 10000, 10001, 9223372036854775807] : List Int))).bind fun bt443 => (if 0 < (x3.length : Int) then (spec_l24Any.j2v (x3.set (0 : Int).toNat bt443.1) x1000 bt443.2.1 bt443.2.2) else (none))) else (spec_l24Any.j2v x3 x1000 x1001 x1002) := by
  refine Is.step (spec_l24Any.j1_is x3 x23 x1000 x1001 x1002).mo (fun k => by rw [spec_l24Any.j1]) ?_
  · skip
    repeat' first
    | with_reducible exact spec_l24Any.j2_is _ _ _ _
    | with_reducible exact Is.now _
    | with_reducible refine Is.ite ?_ ?_
    | with_reducible refine Is.bind ?_ (fun _ => ?_)
theorem spec_l24Any.j2v_eq (x3 : List Int) (x1000 : List Int) (x1001 : Int) (x1002 : Int) : spec_l24Any.j2v x3 x1000 x1001 x1002 = (spec_l1Once.f x1000 x1001 x1002 12).bind fun bt447 => (if bt447.1 = true then (spec_l24Any.l1v x3 x1000 bt447.2.1 bt447.2.2) else (some (x3, bt447.2.1, bt447.2.2))) := by
  refine Is.step (spec_l24Any.j2_is x3 x1000 x1001 x1002).mo (fun k => by rw [spec_l24Any.j2]) ?_
  · skip
    repeat' first
    | with_reducible exact spec_l24Any.l1_is _ _ _ _
    | with_reducible exact Is.now _
    | with_reducible refine Is.ite ?_ ?_
    | with_reducible refine Is.bind ?_ (fun _ => ?_)
theorem spec_l24Any.l1v_eq (x3 : List Int) (x1000 : List Int) (x1001 : Int) (x1002 : Int) : spec_l24Any.l1v x3 x1000 x1001 x1002 = if (x3.length : Int) < 11 then (if x3.length < 17592186044416 then (spec_l24Any.l1v (x3 ++ [1]) x1000 x1001 x1002) else (none)) else (some (x3, x1001, x1002)) := by
  refine Is.step (spec_l24Any.l1_is x3 x1000 x1001 x1002).mo (fun k => by rw [spec_l24Any.l1]) ?_
  · skip
    repeat' first
    | with_reducible exact spec_l24Any.l1_is _ _ _ _
    | with_reducible exact Is.now _
    | with_reducible refine Is.ite ?_ ?_
    | with_reducible refine Is.bind ?_ (fun _ => ?_)
theorem spec_l24Any.fv_eq (s0_0 : List Int) (s0_1 : Int) (s0_2 : Int) : spec_l24Any.fv s0_0 s0_1 s0_2 = (spec_l1Below.f s0_0 s0_1 s0_2 8).bind fun bt428 => (spec_l24Any.l0v (([] : List Int)) bt428.1 s0_0 bt428.2.1 bt428.2.2) := by
  refine Is.lim (g := fun k => spec_l24Any.f k s0_0 s0_1 s0_2) ?_
  · unfold spec_l24Any.f
    repeat' first
    | with_reducible exact spec_l24Any.l0_is _ _ _ _ _
    | with_reducible exact Is.now _
    | with_reducible refine Is.ite ?_ ?_
    | with_reducible refine Is.bind ?_ (fun _ => ?_)
noncomputable def spec_DrawHideSmall.fv (l0 : List Int) : Option (List Int × Int) := Lim fun k => spec_DrawHideSmall.f k l0
theorem spec_DrawHideSmall.f_is (l0 : List Int) : Is (fun k => spec_DrawHideSmall.f k l0) (spec_DrawHideSmall.fv l0) := ⟨fun k => spec_DrawHideSmall.mono l0 k, rfl⟩
theorem spec_DrawHideSmall.fv_eq (l0 : List Int) : spec_DrawHideSmall.fv l0 = (spec_l1New.fv l0).bind fun bt453 => ((spec_l24Any.fv bt453.1 bt453.2.1 bt453.2.2).bind fun bt457 => ((spec_l1Int.f bt453.1 bt457.2.1 bt457.2.2 (([0, 1, 5, 10, 40, 10000, 10001, (-1)] : List Int))).bind fun bt465 => (some (bt457.1, bt465.1)))) := by
  refine Is.lim (g := fun k => spec_DrawHideSmall.f k l0) ?_
  · unfold spec_DrawHideSmall.f
    repeat' first
    | with_reducible exact spec_l1New.f_is _
    | with_reducible exact spec_l24Any.f_is _ _ _
    | with_reducible exact Is.now _
    | with_reducible refine Is.ite ?_ ?_
    | with_reducible refine Is.bind ?_ (fun _ => ?_)
noncomputable def laws_sumOf.l0v (x0 : List Int) (x3 : Int) (x4 : Int) : Option (Int) := Lim fun k => laws_sumOf.l0 k x0 x3 x4
noncomputable def laws_sumOf.fv (l0 : List Int) : Option (Int) := Lim fun k => laws_sumOf.f k l0
theorem laws_sumOf.l0_is (x0 : List Int) (x3 : Int) (x4 : Int) : Is (fun k => laws_sumOf.l0 k x0 x3 x4) (laws_sumOf.l0v x0 x3 x4) := ⟨fun k => (laws_sumOf.mono_l k) x0 x3 x4, rfl⟩
theorem laws_sumOf.f_is (l0 : List Int) : Is (fun k => laws_sumOf.f k l0) (laws_sumOf.fv l0) := ⟨fun k => laws_sumOf.mono l0 k, rfl⟩
theorem laws_sumOf.l0v_eq (x0 : List Int) (x3 : Int) (x4 : Int) : laws_sumOf.l0v x0 x3 x4 = if x4 < (x0.length : Int) then (if 0 ≤ x4 then (laws_sumOf.l0v x0 (wrap64 (x3 + (rd x0 x4))) (wrap64 (x4 + 1))) else (none)) else (some x3) := by
  refine Is.step (laws_sumOf.l0_is x0 x3 x4).mo (fun k => by rw [laws_sumOf.l0]) ?_
  · skip
    repeat' first
    | with_reducible exact laws_sumOf.l0_is _ _ _
    | with_reducible exact Is.now _
    | with_reducible refine Is.ite ?_ ?_
    | with_reducible refine Is.bind ?_ (fun _ => ?_)
theorem laws_sumOf.fv_eq (l0 : List Int) : laws_sumOf.fv l0 = laws_sumOf.l0v l0 0 0 := by
  refine Is.lim (g := fun k => laws_sumOf.f k l0) ?_
  · unfold laws_sumOf.f
    repeat' first
    | with_reducible exact laws_sumOf.l0_is _ _ _
    | with_reducible exact Is.now _
    | with_reducible refine Is.ite ?_ ?_
    | with_reducible refine Is.bind ?_ (fun _ => ?_)
noncomputable def spec_DrawSumCounts.fv (l0 : List Int) : Option (List Int × List Int) := Lim fun k => spec_DrawSumCounts.f k l0
theorem spec_DrawSumCounts.f_is (l0 : List Int) : Is (fun k => spec_DrawSumCounts.f k l0) (spec_DrawSumCounts.fv l0) := ⟨fun k => spec_DrawSumCounts.mono l0 k, rfl⟩
theorem spec_DrawSumCounts.fv_eq (l0 : List Int) : spec_DrawSumCounts.fv l0 = (spec_l1New.fv l0).bind fun bt469 => ((spec_l24Any.fv bt469.1 bt469.2.1 bt469.2.2).bind fun bt473 => ((spec_l24Any.fv bt469.1 bt473.2.1 bt473.2.2).bind fun bt478 => (some (bt473.1, bt478.1)))) := by
  refine Is.lim (g := fun k => spec_DrawSumCounts.f k l0) ?_
  · unfold spec_DrawSumCounts.f
    repeat' first
    | with_reducible exact spec_l1New.f_is _
    | with_reducible exact spec_l24Any.f_is _ _ _
    | with_reducible exact Is.now _
    | with_reducible refine Is.ite ?_ ?_
    | with_reducible refine Is.bind ?_ (fun _ => ?_)
noncomputable def slices_Equal_int_int.l0v (x0 : List Int) (x1 : List Int) (x12 : Int) (x13 : Int) : Option (Bool) := Lim fun k => slices_Equal_int_int.l0 k x0 x1 x12 x13
noncomputable def slices_Equal_int_int.fv (l0 : List Int) (l1 : List Int) : Option (Bool) := Lim fun k => slices_Equal_int_int.f k l0 l1
theorem slices_Equal_int_int.l0_is (x0 : List Int) (x1 : List Int) (x12 : Int) (x13 : Int) : Is (fun k => slices_Equal_int_int.l0 k x0 x1 x12 x13) (slices_Equal_int_int.l0v x0 x1 x12 x13) := ⟨fun k => (slices_Equal_int_int.mono_l k) x0 x1 x12 x13, rfl⟩
theorem slices_Equal_int_int.f_is (l0 : List Int) (l1 : List Int) : Is (fun k => slices_Equal_int_int.f k l0 l1) (slices_Equal_int_int.fv l0 l1) := ⟨fun k => slices_Equal_int_int.mono l0 l1 k, rfl⟩
theorem slices_Equal_int_int.l0v_eq (x0 : List Int) (x1 : List Int) (x12 : Int) (x13 : Int) : slices_Equal_int_int.l0v x0 x1 x12 x13 = if x13 < x12 then (if 0 ≤ x13 then (if x13 < (x0.length : Int) then (if x13 < (x1.length : Int) then (if (rd x0 x13) = (rd x1 x13) then (slices_Equal_int_int.l0v x0 x1 x12 (wrap64 (x13 + 1))) else (some false)) else (none)) else (none)) else (none)) else (some true) := by
  refine Is.step (slices_Equal_int_int.l0_is x0 x1 x12 x13).mo (fun k => by rw [slices_Equal_int_int.l0]) ?_
  · skip
    repeat' first
    | with_reducible exact slices_Equal_int_int.l0_is _ _ _ _
    | with_reducible exact Is.now _
    | with_reducible refine Is.ite ?_ ?_
    | with_reducible refine Is.bind ?_ (fun _ => ?_)
theorem slices_Equal_int_int.fv_eq (l0 : List Int) (l1 : List Int) : slices_Equal_int_int.fv l0 l1 = if (l0.length : Int) = (l1.length : Int) then (slices_Equal_int_int.l0v l0 l1 (l0.length : Int) 0) else (some false) := by
  refine Is.lim (g := fun k => slices_Equal_int_int.f k l0 l1) ?_
  · unfold slices_Equal_int_int.f
    repeat' first
    | with_reducible exact slices_Equal_int_int.l0_is _ _ _ _
    | with_reducible exact Is.now _
    | with_reducible refine Is.ite ?_ ?_
    | with_reducible refine Is.bind ?_ (fun _ => ?_)
noncomputable def impl_EqualInts.fv (l0 : List Int) (l1 : List Int) : Option (Bool) := Lim fun k => impl_EqualInts.f k l0 l1
theorem impl_EqualInts.f_is (l0 : List Int) (l1 : List Int) : Is (fun k => impl_EqualInts.f k l0 l1) (impl_EqualInts.fv l0 l1) := ⟨fun k => impl_EqualInts.mono l0 l1 k, rfl⟩
theorem impl_EqualInts.fv_eq (l0 : List Int) (l1 : List Int) : impl_EqualInts.fv l0 l1 = (slices_Equal_int_int.fv l0 l1).bind fun t485 => (some t485) := by
  refine Is.lim (g := fun k => impl_EqualInts.f k l0 l1) ?_
  · unfold impl_EqualInts.f
    repeat' first
    | with_reducible exact slices_Equal_int_int.f_is _ _
    | with_reducible exact Is.now _
    | with_reducible refine Is.ite ?_ ?_
    | with_reducible refine Is.bind ?_ (fun _ => ?_)
noncomputable def spec_DrawShareOf.fv (l0 : List Int) : Option (List Int × Int) := Lim fun k => spec_DrawShareOf.f k l0
theorem spec_DrawShareOf.f_is (l0 : List Int) : Is (fun k => spec_DrawShareOf.f k l0) (spec_DrawShareOf.fv l0) := ⟨fun k => spec_DrawShareOf.mono l0 k, rfl⟩
theorem spec_DrawShareOf.fv_eq (l0 : List Int) : spec_DrawShareOf.fv l0 = (spec_l1New.fv l0).bind fun bt486 => ((spec_l24Any.fv bt486.1 bt486.2.1 bt486.2.2).bind fun bt490 => ((spec_l1Below.f bt486.1 bt490.2.1 bt490.2.2 10).bind fun bt495 => (some (bt490.1, wrap64 (bt495.1 - 1))))) := by
  refine Is.lim (g := fun k => spec_DrawShareOf.f k l0) ?_
  · unfold spec_DrawShareOf.f
    repeat' first
    | with_reducible exact spec_l1New.f_is _
    | with_reducible exact spec_l24Any.f_is _ _ _
    | with_reducible exact Is.now _
    | with_reducible refine Is.ite ?_ ?_
    | with_reducible refine Is.bind ?_ (fun _ => ?_)
end Go.Proofs.Ytaggmlokldaclaa.Print
