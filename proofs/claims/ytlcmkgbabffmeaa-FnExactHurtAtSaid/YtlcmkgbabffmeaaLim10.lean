/- Written by a program of this session (limx.py): the equations of what the printed functions come to. No condition. -/
import Derived.Test.YtlcmkgbabffmeaaBase
import Derived.Test.YtlcmkgbabffmeaaPrint10
import Derived.Test.YtlcmkgbabffmeaaLim4
namespace Go.Proofs.Ytlcmkgbabffmeaa.Print
open Go.RowKit Go.Proofs.YtlcmkgbabffmeaaW.PrintWords Go.Proofs.YtlcmkgbabffmeaaW.PrintLast Go.Proofs.Ytlcmkgbabffmeaa.Base
set_option linter.unusedVariables false
set_option maxRecDepth 20000
noncomputable def spec_HurtAt.l0v (x1 : Int) (x2 : List Bool) (x7 : Int) (x8 : Int) (x685000 : Int) (x685001 : List Int) (x685002 : Int) (x685003 : Bool) : Option (Int) := Lim fun k => spec_HurtAt.l0 k x1 x2 x7 x8 x685000 x685001 x685002 x685003
noncomputable def spec_HurtAt.j1v (x1 : Int) (x2 : List Bool) (x7 : Int) (x8 : Int) (x17 : Bool) (x685000 : Int) (x685001 : List Int) (x685002 : Int) (x685003 : Bool) : Option (Int) := Lim fun k => spec_HurtAt.j1 k x1 x2 x7 x8 x17 x685000 x685001 x685002 x685003
noncomputable def spec_HurtAt.fv (a0_0 : Int) (l0_1 : List Int) (a0_2 : Int) (a0_3 : Bool) (a1 : Int) (l2 : List Bool) : Option (Int) := Lim fun k => spec_HurtAt.f k a0_0 l0_1 a0_2 a0_3 a1 l2
theorem spec_HurtAt.l0_is (x1 : Int) (x2 : List Bool) (x7 : Int) (x8 : Int) (x685000 : Int) (x685001 : List Int) (x685002 : Int) (x685003 : Bool) : Is (fun k => spec_HurtAt.l0 k x1 x2 x7 x8 x685000 x685001 x685002 x685003) (spec_HurtAt.l0v x1 x2 x7 x8 x685000 x685001 x685002 x685003) := ⟨fun k => (spec_HurtAt.mono_l k).1 x1 x2 x7 x8 x685000 x685001 x685002 x685003, rfl⟩
theorem spec_HurtAt.j1_is (x1 : Int) (x2 : List Bool) (x7 : Int) (x8 : Int) (x17 : Bool) (x685000 : Int) (x685001 : List Int) (x685002 : Int) (x685003 : Bool) : Is (fun k => spec_HurtAt.j1 k x1 x2 x7 x8 x17 x685000 x685001 x685002 x685003) (spec_HurtAt.j1v x1 x2 x7 x8 x17 x685000 x685001 x685002 x685003) := ⟨fun k => (spec_HurtAt.mono_l k).2 x1 x2 x7 x8 x17 x685000 x685001 x685002 x685003, rfl⟩
theorem spec_HurtAt.f_is (a0_0 : Int) (l0_1 : List Int) (a0_2 : Int) (a0_3 : Bool) (a1 : Int) (l2 : List Bool) : Is (fun k => spec_HurtAt.f k a0_0 l0_1 a0_2 a0_3 a1 l2) (spec_HurtAt.fv a0_0 l0_1 a0_2 a0_3 a1 l2) := ⟨fun k => spec_HurtAt.mono a0_0 l0_1 a0_2 a0_3 a1 l2 k, rfl⟩
theorem spec_HurtAt.l0v_eq (x1 : Int) (x2 : List Bool) (x7 : Int) (x8 : Int) (x685000 : Int) (x685001 : List Int) (x685002 : Int) (x685003 : Bool) : spec_HurtAt.l0v x1 x2 x7 x8 x685000 x685001 x685002 x685003 = if x8 < x1 then (spec_HurtAt.j1v x1 x2 x7 x8 (x1 == (x2.length : Int)) x685000 x685001 x685002 x685003) else (spec_HurtAt.j1v x1 x2 x7 x8 false x685000 x685001 x685002 x685003) := by
  refine Is.step (spec_HurtAt.l0_is x1 x2 x7 x8 x685000 x685001 x685002 x685003).mo (fun k => by rw [spec_HurtAt.l0]) ?_
  · skip
    repeat' first
    | with_reducible exact spec_HurtAt.j1_is _ _ _ _ _ _ _ _ _
    | with_reducible exact Is.now _
    | with_reducible refine Is.ite ?_ ?_
    | with_reducible refine Is.bind ?_ (fun _ => ?_)
theorem spec_HurtAt.j1v_eq (x1 : Int) (x2 : List Bool) (x7 : Int) (x8 : Int) (x17 : Bool) (x685000 : Int) (x685001 : List Int) (x685002 : Int) (x685003 : Bool) : spec_HurtAt.j1v x1 x2 x7 x8 x17 x685000 x685001 x685002 x685003 = if x17 = true then ((spec_IsIn.fv x685000 x685001 x685002 x685003 x8 x1).bind fun t685 => (if t685 = true then (if 0 ≤ x8 then (if x8 < (x2.length : Int) then (if rdOf false x2 x8 = true then (spec_HurtAt.l0v x1 x2 (wrap64 (x7 + 1)) (wrap64 (x8 + 1)) x685000 x685001 x685002 x685003) else (spec_HurtAt.l0v x1 x2 x7 (wrap64 (x8 + 1)) x685000 x685001 x685002 x685003)) else (none)) else (none)) else (spec_HurtAt.l0v x1 x2 x7 (wrap64 (x8 + 1)) x685000 x685001 x685002 x685003))) else (some x7) := by
  refine Is.step (spec_HurtAt.j1_is x1 x2 x7 x8 x17 x685000 x685001 x685002 x685003).mo (fun k => by rw [spec_HurtAt.j1]) ?_
  · skip
    repeat' first
    | with_reducible exact spec_HurtAt.l0_is _ _ _ _ _ _ _ _
    | with_reducible exact spec_IsIn.f_is _ _ _ _ _ _
    | with_reducible exact Is.now _
    | with_reducible refine Is.ite ?_ ?_
    | with_reducible refine Is.bind ?_ (fun _ => ?_)
theorem spec_HurtAt.fv_eq (a0_0 : Int) (l0_1 : List Int) (a0_2 : Int) (a0_3 : Bool) (a1 : Int) (l2 : List Bool) : spec_HurtAt.fv a0_0 l0_1 a0_2 a0_3 a1 l2 = spec_HurtAt.l0v a1 l2 0 0 a0_0 l0_1 a0_2 a0_3 := by
  refine Is.lim (g := fun k => spec_HurtAt.f k a0_0 l0_1 a0_2 a0_3 a1 l2) ?_
  · unfold spec_HurtAt.f
    repeat' first
    | with_reducible exact spec_HurtAt.l0_is _ _ _ _ _ _ _ _
    | with_reducible exact Is.now _
    | with_reducible refine Is.ite ?_ ?_
    | with_reducible refine Is.bind ?_ (fun _ => ?_)
noncomputable def laws_toBoolS.l0v (x0 : List Bool) (x3 : List Bool) (x4 : Int) : Option (List Bool) := Lim fun k => laws_toBoolS.l0 k x0 x3 x4
noncomputable def laws_toBoolS.fv (l0 : List Bool) : Option (List Bool) := Lim fun k => laws_toBoolS.f k l0
theorem laws_toBoolS.l0_is (x0 : List Bool) (x3 : List Bool) (x4 : Int) : Is (fun k => laws_toBoolS.l0 k x0 x3 x4) (laws_toBoolS.l0v x0 x3 x4) := ⟨fun k => (laws_toBoolS.mono_l k) x0 x3 x4, rfl⟩
theorem laws_toBoolS.f_is (l0 : List Bool) : Is (fun k => laws_toBoolS.f k l0) (laws_toBoolS.fv l0) := ⟨fun k => laws_toBoolS.mono l0 k, rfl⟩
theorem laws_toBoolS.l0v_eq (x0 : List Bool) (x3 : List Bool) (x4 : Int) : laws_toBoolS.l0v x0 x3 x4 = if x4 < (x0.length : Int) then (if 0 ≤ x4 then (if x4 < (x3.length : Int) then (laws_toBoolS.l0v x0 (x3.set (x4 : Int).toNat (rdOf false x0 x4)) (wrap64 (x4 + 1))) else (none)) else (none)) else (some x3) := by
  refine Is.step (laws_toBoolS.l0_is x0 x3 x4).mo (fun k => by rw [laws_toBoolS.l0]) ?_
  · skip
    repeat' first
    | with_reducible exact laws_toBoolS.l0_is _ _ _
    | with_reducible exact Is.now _
    | with_reducible refine Is.ite ?_ ?_
    | with_reducible refine Is.bind ?_ (fun _ => ?_)
theorem laws_toBoolS.fv_eq (l0 : List Bool) : laws_toBoolS.fv l0 = if 0 ≤ (l0.length : Int) then (if ((l0.length : Int) : Int).toNat ≤ 281474976710656 then (laws_toBoolS.l0v l0 (List.replicate ((l0.length : Int) : Int).toNat false) 0) else (none)) else (none) := by
  refine Is.lim (g := fun k => laws_toBoolS.f k l0) ?_
  · unfold laws_toBoolS.f
    repeat' first
    | with_reducible exact laws_toBoolS.l0_is _ _ _
    | with_reducible exact Is.now _
    | with_reducible refine Is.ite ?_ ?_
    | with_reducible refine Is.bind ?_ (fun _ => ?_)
noncomputable def impl_HurtAt.l0v (x1 : Int) (x7 : Int) (x14 : List Bool) (x15 : Int) (x16 : Int) (x693000 : Int) (x693001 : List Int) (x693002 : Int) (x693003 : Bool) : Option (Int) := Lim fun k => impl_HurtAt.l0 k x1 x7 x14 x15 x16 x693000 x693001 x693002 x693003
noncomputable def impl_HurtAt.fv (a0_0 : Int) (l0_1 : List Int) (a0_2 : Int) (a0_3 : Bool) (a1 : Int) (l2 : List Bool) : Option (Int) := Lim fun k => impl_HurtAt.f k a0_0 l0_1 a0_2 a0_3 a1 l2
theorem impl_HurtAt.l0_is (x1 : Int) (x7 : Int) (x14 : List Bool) (x15 : Int) (x16 : Int) (x693000 : Int) (x693001 : List Int) (x693002 : Int) (x693003 : Bool) : Is (fun k => impl_HurtAt.l0 k x1 x7 x14 x15 x16 x693000 x693001 x693002 x693003) (impl_HurtAt.l0v x1 x7 x14 x15 x16 x693000 x693001 x693002 x693003) := ⟨fun k => (impl_HurtAt.mono_l k) x1 x7 x14 x15 x16 x693000 x693001 x693002 x693003, rfl⟩
theorem impl_HurtAt.f_is (a0_0 : Int) (l0_1 : List Int) (a0_2 : Int) (a0_3 : Bool) (a1 : Int) (l2 : List Bool) : Is (fun k => impl_HurtAt.f k a0_0 l0_1 a0_2 a0_3 a1 l2) (impl_HurtAt.fv a0_0 l0_1 a0_2 a0_3 a1 l2) := ⟨fun k => impl_HurtAt.mono a0_0 l0_1 a0_2 a0_3 a1 l2 k, rfl⟩
theorem impl_HurtAt.l0v_eq (x1 : Int) (x7 : Int) (x14 : List Bool) (x15 : Int) (x16 : Int) (x693000 : Int) (x693001 : List Int) (x693002 : Int) (x693003 : Bool) : impl_HurtAt.l0v x1 x7 x14 x15 x16 x693000 x693001 x693002 x693003 = if x16 < x15 then (if 0 ≤ x16 then (if x16 < (x14.length : Int) then (if rdOf false x14 x16 = true then ((impl_IsIn.fv x693000 x693001 x693002 x693003 x16 x1).bind fun t694 => (if t694 = true then (impl_HurtAt.l0v x1 (wrap64 (x7 + 1)) x14 x15 (wrap64 (x16 + 1)) x693000 x693001 x693002 x693003) else (impl_HurtAt.l0v x1 x7 x14 x15 (wrap64 (x16 + 1)) x693000 x693001 x693002 x693003))) else (impl_HurtAt.l0v x1 x7 x14 x15 (wrap64 (x16 + 1)) x693000 x693001 x693002 x693003)) else (none)) else (none)) else (some x7) := by
  refine Is.step (impl_HurtAt.l0_is x1 x7 x14 x15 x16 x693000 x693001 x693002 x693003).mo (fun k => by rw [impl_HurtAt.l0]) ?_
  · skip
    repeat' first
    | with_reducible exact impl_HurtAt.l0_is _ _ _ _ _ _ _ _ _
    | with_reducible exact impl_IsIn.f_is _ _ _ _ _ _
    | with_reducible exact Is.now _
    | with_reducible refine Is.ite ?_ ?_
    | with_reducible refine Is.bind ?_ (fun _ => ?_)
theorem impl_HurtAt.fv_eq (a0_0 : Int) (l0_1 : List Int) (a0_2 : Int) (a0_3 : Bool) (a1 : Int) (l2 : List Bool) : impl_HurtAt.fv a0_0 l0_1 a0_2 a0_3 a1 l2 = if a1 = (l2.length : Int) then (impl_HurtAt.l0v a1 0 l2 (l2.length : Int) 0 a0_0 l0_1 a0_2 a0_3) else (some 0) := by
  refine Is.lim (g := fun k => impl_HurtAt.f k a0_0 l0_1 a0_2 a0_3 a1 l2) ?_
  · unfold impl_HurtAt.f
    repeat' first
    | with_reducible exact impl_HurtAt.l0_is _ _ _ _ _ _ _ _ _
    | with_reducible exact Is.now _
    | with_reducible refine Is.ite ?_ ?_
    | with_reducible refine Is.bind ?_ (fun _ => ?_)
noncomputable def laws_eqBoolS.l0v (x0 : List Bool) (x1 : List Bool) (x5 : Int) : Option (Bool) := Lim fun k => laws_eqBoolS.l0 k x0 x1 x5
noncomputable def laws_eqBoolS.fv (l0 : List Bool) (l1 : List Bool) : Option (Bool) := Lim fun k => laws_eqBoolS.f k l0 l1
theorem laws_eqBoolS.l0_is (x0 : List Bool) (x1 : List Bool) (x5 : Int) : Is (fun k => laws_eqBoolS.l0 k x0 x1 x5) (laws_eqBoolS.l0v x0 x1 x5) := ⟨fun k => (laws_eqBoolS.mono_l k) x0 x1 x5, rfl⟩
theorem laws_eqBoolS.f_is (l0 : List Bool) (l1 : List Bool) : Is (fun k => laws_eqBoolS.f k l0 l1) (laws_eqBoolS.fv l0 l1) := ⟨fun k => laws_eqBoolS.mono l0 l1 k, rfl⟩
theorem laws_eqBoolS.l0v_eq (x0 : List Bool) (x1 : List Bool) (x5 : Int) : laws_eqBoolS.l0v x0 x1 x5 = if x5 < (x0.length : Int) then (if 0 ≤ x5 then (if x5 < (x1.length : Int) then (if ((rdOf false x0 x5) != (rdOf false x1 x5)) = true then (some false) else (laws_eqBoolS.l0v x0 x1 (wrap64 (x5 + 1)))) else (none)) else (none)) else (some true) := by
  refine Is.step (laws_eqBoolS.l0_is x0 x1 x5).mo (fun k => by rw [laws_eqBoolS.l0]) ?_
  · skip
    repeat' first
    | with_reducible exact laws_eqBoolS.l0_is _ _ _
    | with_reducible exact Is.now _
    | with_reducible refine Is.ite ?_ ?_
    | with_reducible refine Is.bind ?_ (fun _ => ?_)
theorem laws_eqBoolS.fv_eq (l0 : List Bool) (l1 : List Bool) : laws_eqBoolS.fv l0 l1 = if (l0.length : Int) = (l1.length : Int) then (laws_eqBoolS.l0v l0 l1 0) else (some false) := by
  refine Is.lim (g := fun k => laws_eqBoolS.f k l0 l1) ?_
  · unfold laws_eqBoolS.f
    repeat' first
    | with_reducible exact laws_eqBoolS.l0_is _ _ _
    | with_reducible exact Is.now _
    | with_reducible refine Is.ite ?_ ?_
    | with_reducible refine Is.bind ?_ (fun _ => ?_)
end Go.Proofs.Ytlcmkgbabffmeaa.Print
