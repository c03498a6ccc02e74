/- Written by a program of this session (limx.py): the equations of what the printed functions come to. No condition. -/
import Derived.Test.YtdoefkloanpliaaBase
import Derived.Test.YtdoefkloanpliaaPrint9
import Derived.Test.YtdoefkloanpliaaLim1
import Derived.Test.YtdoefkloanpliaaLim2
namespace Go.Proofs.Ytdoefkloanpliaa.Print
open Go.RowKit Go.Proofs.YtdoefkloanpliaaW.PrintWords Go.Proofs.YtdoefkloanpliaaW.PrintLast Go.Proofs.Ytdoefkloanpliaa.Base
set_option linter.unusedVariables false
set_option maxRecDepth 20000
noncomputable def laws_contains.l0v (x0 : List Int) (x1 : Int) (x5 : Int) : Option (Bool) := Lim fun k => laws_contains.l0 k x0 x1 x5
noncomputable def laws_contains.fv (l0 : List Int) (a1 : Int) : Option (Bool) := Lim fun k => laws_contains.f k l0 a1
theorem laws_contains.l0_is (x0 : List Int) (x1 : Int) (x5 : Int) : Is (fun k => laws_contains.l0 k x0 x1 x5) (laws_contains.l0v x0 x1 x5) := ⟨fun k => (laws_contains.mono_l k) x0 x1 x5, rfl⟩
theorem laws_contains.f_is (l0 : List Int) (a1 : Int) : Is (fun k => laws_contains.f k l0 a1) (laws_contains.fv l0 a1) := ⟨fun k => laws_contains.mono l0 a1 k, rfl⟩
theorem laws_contains.l0v_eq (x0 : List Int) (x1 : Int) (x5 : Int) : laws_contains.l0v x0 x1 x5 = if x5 < (x0.length : Int) then (if 0 ≤ x5 then (if (rd x0 x5) = x1 then (some true) else (laws_contains.l0v x0 x1 (wrap64 (x5 + 1)))) else (none)) else (some false) := by
  refine Is.step (laws_contains.l0_is x0 x1 x5).mo (fun k => by rw [laws_contains.l0]) ?_
  · skip
    repeat' first
    | with_reducible exact laws_contains.l0_is _ _ _
    | with_reducible exact Is.now _
    | with_reducible refine Is.ite ?_ ?_
    | with_reducible refine Is.bind ?_ (fun _ => ?_)
theorem laws_contains.fv_eq (l0 : List Int) (a1 : Int) : laws_contains.fv l0 a1 = laws_contains.l0v l0 a1 0 := by
  refine Is.lim (g := fun k => laws_contains.f k l0 a1) ?_
  · unfold laws_contains.f
    repeat' first
    | with_reducible exact laws_contains.l0_is _ _ _
    | with_reducible exact Is.now _
    | with_reducible refine Is.ite ?_ ?_
    | with_reducible refine Is.bind ?_ (fun _ => ?_)
noncomputable def laws_szDialedS.l0v (x0 : List (S94)) (x1 : Int) (x5 : Int) : Option (Int) := Lim fun k => laws_szDialedS.l0 k x0 x1 x5
noncomputable def laws_szDialedS.fv (l0 : List (S94)) (a1 : Int) : Option (Int) := Lim fun k => laws_szDialedS.f k l0 a1
theorem laws_szDialedS.l0_is (x0 : List (S94)) (x1 : Int) (x5 : Int) : Is (fun k => laws_szDialedS.l0 k x0 x1 x5) (laws_szDialedS.l0v x0 x1 x5) := ⟨fun k => (laws_szDialedS.mono_l k) x0 x1 x5, rfl⟩
theorem laws_szDialedS.f_is (l0 : List (S94)) (a1 : Int) : Is (fun k => laws_szDialedS.f k l0 a1) (laws_szDialedS.fv l0 a1) := ⟨fun k => laws_szDialedS.mono l0 a1 k, rfl⟩
theorem laws_szDialedS.l0v_eq (x0 : List (S94)) (x1 : Int) (x5 : Int) : laws_szDialedS.l0v x0 x1 x5 = if x5 < (x0.length : Int) then (if 0 ≤ x5 then ((laws_szDialed.f ((rd_T94 x0 x5).f0.f0) ((rd_T94 x0 x5).f0.f1) ((rd_T94 x0 x5).f0.f2) ((rd_T94 x0 x5).f1) ((rd_T94 x0 x5).f2) x1).bind fun t528 => (if t528 < 0 then (some (-1)) else (laws_szDialedS.l0v x0 t528 (wrap64 (x5 + 1))))) else (none)) else (some x1) := by
  refine Is.step (laws_szDialedS.l0_is x0 x1 x5).mo (fun k => by rw [laws_szDialedS.l0]) ?_
  · skip
    repeat' first
    | with_reducible exact laws_szDialedS.l0_is _ _ _
    | with_reducible exact Is.now _
    | with_reducible refine Is.ite ?_ ?_
    | with_reducible refine Is.bind ?_ (fun _ => ?_)
theorem laws_szDialedS.fv_eq (l0 : List (S94)) (a1 : Int) : laws_szDialedS.fv l0 a1 = if (wrap64 (a1 - (l0.length : Int))) < 0 then (some (-1)) else (laws_szDialedS.l0v l0 (wrap64 (a1 - (l0.length : Int))) 0) := by
  refine Is.lim (g := fun k => laws_szDialedS.f k l0 a1) ?_
  · unfold laws_szDialedS.f
    repeat' first
    | with_reducible exact laws_szDialedS.l0_is _ _ _
    | with_reducible exact Is.now _
    | with_reducible refine Is.ite ?_ ?_
    | with_reducible refine Is.bind ?_ (fun _ => ?_)
noncomputable def spec_MaskedBy.l0v (x0 : List (S97)) (x1 : Int) (x6 : Int) (x7 : Int) (x8 : Int) : Option (Int × Int) := Lim fun k => spec_MaskedBy.l0 k x0 x1 x6 x7 x8
noncomputable def spec_MaskedBy.j1v (x0 : List (S97)) (x1 : Int) (x6 : Int) (x7 : Int) (x8 : Int) (x20 : Bool) (x531000 : Bool) (x531001 : Int) (x531002 : List Int) (x531003 : Int) (x531004 : List Int) : Option (Int × Int) := Lim fun k => spec_MaskedBy.j1 k x0 x1 x6 x7 x8 x20 x531000 x531001 x531002 x531003 x531004
noncomputable def spec_MaskedBy.fv (l0 : List (S97)) (a1 : Int) : Option (Int × Int) := Lim fun k => spec_MaskedBy.f k l0 a1
theorem spec_MaskedBy.l0_is (x0 : List (S97)) (x1 : Int) (x6 : Int) (x7 : Int) (x8 : Int) : Is (fun k => spec_MaskedBy.l0 k x0 x1 x6 x7 x8) (spec_MaskedBy.l0v x0 x1 x6 x7 x8) := ⟨fun k => (spec_MaskedBy.mono_l k).1 x0 x1 x6 x7 x8, rfl⟩
theorem spec_MaskedBy.j1_is (x0 : List (S97)) (x1 : Int) (x6 : Int) (x7 : Int) (x8 : Int) (x20 : Bool) (x531000 : Bool) (x531001 : Int) (x531002 : List Int) (x531003 : Int) (x531004 : List Int) : Is (fun k => spec_MaskedBy.j1 k x0 x1 x6 x7 x8 x20 x531000 x531001 x531002 x531003 x531004) (spec_MaskedBy.j1v x0 x1 x6 x7 x8 x20 x531000 x531001 x531002 x531003 x531004) := ⟨fun k => (spec_MaskedBy.mono_l k).2 x0 x1 x6 x7 x8 x20 x531000 x531001 x531002 x531003 x531004, rfl⟩
theorem spec_MaskedBy.f_is (l0 : List (S97)) (a1 : Int) : Is (fun k => spec_MaskedBy.f k l0 a1) (spec_MaskedBy.fv l0 a1) := ⟨fun k => spec_MaskedBy.mono l0 a1 k, rfl⟩
theorem spec_MaskedBy.l0v_eq (x0 : List (S97)) (x1 : Int) (x6 : Int) (x7 : Int) (x8 : Int) : spec_MaskedBy.l0v x0 x1 x6 x7 x8 = if x8 < (x0.length : Int) then (if 0 ≤ x8 then (if ((rd_T97 x0 x8).f0.f0 = true) then (if ((rd_T97 x0 x8).f0.f1) < x1 then ((spec_l9Has.fv ((rd_T97 x0 x8).f2) x1).bind fun t531 => (spec_MaskedBy.j1v x0 x1 x6 x7 x8 t531 ((rd_T97 x0 x8).f0.f0) ((rd_T97 x0 x8).f0.f1) ((rd_T97 x0 x8).f0.f2) ((rd_T97 x0 x8).f1) ((rd_T97 x0 x8).f2))) else (spec_MaskedBy.j1v x0 x1 x6 x7 x8 false ((rd_T97 x0 x8).f0.f0) ((rd_T97 x0 x8).f0.f1) ((rd_T97 x0 x8).f0.f2) ((rd_T97 x0 x8).f1) ((rd_T97 x0 x8).f2))) else (spec_MaskedBy.j1v x0 x1 x6 x7 x8 true ((rd_T97 x0 x8).f0.f0) ((rd_T97 x0 x8).f0.f1) ((rd_T97 x0 x8).f0.f2) ((rd_T97 x0 x8).f1) ((rd_T97 x0 x8).f2))) else (none)) else (some (x6, x7)) := by
  refine Is.step (spec_MaskedBy.l0_is x0 x1 x6 x7 x8).mo (fun k => by rw [spec_MaskedBy.l0]) ?_
  · skip
    repeat' first
    | with_reducible exact spec_MaskedBy.j1_is _ _ _ _ _ _ _ _ _ _ _
    | with_reducible exact spec_l9Has.f_is _ _
    | with_reducible exact Is.now _
    | with_reducible refine Is.ite ?_ ?_
    | with_reducible refine Is.bind ?_ (fun _ => ?_)
theorem spec_MaskedBy.j1v_eq (x0 : List (S97)) (x1 : Int) (x6 : Int) (x7 : Int) (x8 : Int) (x20 : Bool) (x531000 : Bool) (x531001 : Int) (x531002 : List Int) (x531003 : Int) (x531004 : List Int) : spec_MaskedBy.j1v x0 x1 x6 x7 x8 x20 x531000 x531001 x531002 x531003 x531004 = if x20 = true then (spec_MaskedBy.l0v x0 x1 x6 (wrap64 (x7 + 1)) (wrap64 (x8 + 1))) else (if x531001 ≥ x1 then (spec_MaskedBy.l0v x0 x1 (wrap64 (x6 + 1)) x7 (wrap64 (x8 + 1))) else (spec_MaskedBy.l0v x0 x1 x6 x7 (wrap64 (x8 + 1)))) := by
  refine Is.step (spec_MaskedBy.j1_is x0 x1 x6 x7 x8 x20 x531000 x531001 x531002 x531003 x531004).mo (fun k => by rw [spec_MaskedBy.j1]) ?_
  · skip
    repeat' first
    | with_reducible exact spec_MaskedBy.l0_is _ _ _ _ _
    | with_reducible exact Is.now _
    | with_reducible refine Is.ite ?_ ?_
    | with_reducible refine Is.bind ?_ (fun _ => ?_)
theorem spec_MaskedBy.fv_eq (l0 : List (S97)) (a1 : Int) : spec_MaskedBy.fv l0 a1 = spec_MaskedBy.l0v l0 a1 0 0 0 := by
  refine Is.lim (g := fun k => spec_MaskedBy.f k l0 a1) ?_
  · unfold spec_MaskedBy.f
    repeat' first
    | with_reducible exact spec_MaskedBy.l0_is _ _ _ _ _
    | with_reducible exact Is.now _
    | with_reducible refine Is.ite ?_ ?_
    | with_reducible refine Is.bind ?_ (fun _ => ?_)
noncomputable def laws_toDeal.fv (a0_0 : Bool) (a0_1 : Int) (l0_2 : List Int) : Option (Bool × Int × List Int) := Lim fun k => laws_toDeal.f k a0_0 a0_1 l0_2
theorem laws_toDeal.f_is (a0_0 : Bool) (a0_1 : Int) (l0_2 : List Int) : Is (fun k => laws_toDeal.f k a0_0 a0_1 l0_2) (laws_toDeal.fv a0_0 a0_1 l0_2) := ⟨fun k => laws_toDeal.mono a0_0 a0_1 l0_2 k, rfl⟩
theorem laws_toDeal.fv_eq (a0_0 : Bool) (a0_1 : Int) (l0_2 : List Int) : laws_toDeal.fv a0_0 a0_1 l0_2 = (laws_toIntS.fv l0_2).bind fun t535 => (some (a0_0, a0_1, t535)) := by
  refine Is.lim (g := fun k => laws_toDeal.f k a0_0 a0_1 l0_2) ?_
  · unfold laws_toDeal.f
    repeat' first
    | with_reducible exact laws_toIntS.f_is _
    | with_reducible exact Is.now _
    | with_reducible refine Is.ite ?_ ?_
    | with_reducible refine Is.bind ?_ (fun _ => ?_)
noncomputable def laws_toDialed.fv (a0_0 : Bool) (a0_1 : Int) (l0_2 : List Int) (a0_3 : Int) (l0_4 : List Int) : Option (Bool × Int × List Int × Int × List Int) := Lim fun k => laws_toDialed.f k a0_0 a0_1 l0_2 a0_3 l0_4
theorem laws_toDialed.f_is (a0_0 : Bool) (a0_1 : Int) (l0_2 : List Int) (a0_3 : Int) (l0_4 : List Int) : Is (fun k => laws_toDialed.f k a0_0 a0_1 l0_2 a0_3 l0_4) (laws_toDialed.fv a0_0 a0_1 l0_2 a0_3 l0_4) := ⟨fun k => laws_toDialed.mono a0_0 a0_1 l0_2 a0_3 l0_4 k, rfl⟩
theorem laws_toDialed.fv_eq (a0_0 : Bool) (a0_1 : Int) (l0_2 : List Int) (a0_3 : Int) (l0_4 : List Int) : laws_toDialed.fv a0_0 a0_1 l0_2 a0_3 l0_4 = (laws_toDeal.fv a0_0 a0_1 l0_2).bind fun bt541 => ((laws_toIntS.fv l0_4).bind fun t546 => (some (bt541.1, bt541.2.1, bt541.2.2, a0_3, t546))) := by
  refine Is.lim (g := fun k => laws_toDialed.f k a0_0 a0_1 l0_2 a0_3 l0_4) ?_
  · unfold laws_toDialed.f
    repeat' first
    | with_reducible exact laws_toDeal.f_is _ _ _
    | with_reducible exact laws_toIntS.f_is _
    | with_reducible exact Is.now _
    | with_reducible refine Is.ite ?_ ?_
    | with_reducible refine Is.bind ?_ (fun _ => ?_)
noncomputable def laws_toDialedS.l0v (x0 : List (S94)) (x3 : List (S97)) (x4 : Int) : Option ((List (S97))) := Lim fun k => laws_toDialedS.l0 k x0 x3 x4
noncomputable def laws_toDialedS.fv (l0 : List (S94)) : Option ((List (S97))) := Lim fun k => laws_toDialedS.f k l0
theorem laws_toDialedS.l0_is (x0 : List (S94)) (x3 : List (S97)) (x4 : Int) : Is (fun k => laws_toDialedS.l0 k x0 x3 x4) (laws_toDialedS.l0v x0 x3 x4) := ⟨fun k => (laws_toDialedS.mono_l k) x0 x3 x4, rfl⟩
theorem laws_toDialedS.f_is (l0 : List (S94)) : Is (fun k => laws_toDialedS.f k l0) (laws_toDialedS.fv l0) := ⟨fun k => laws_toDialedS.mono l0 k, rfl⟩
theorem laws_toDialedS.l0v_eq (x0 : List (S94)) (x3 : List (S97)) (x4 : Int) : laws_toDialedS.l0v x0 x3 x4 = if x4 < (x0.length : Int) then (if 0 ≤ x4 then ((laws_toDialed.fv ((rd_T94 x0 x4).f0.f0) ((rd_T94 x0 x4).f0.f1) ((rd_T94 x0 x4).f0.f2) ((rd_T94 x0 x4).f1) ((rd_T94 x0 x4).f2)).bind fun bt553 => (if x4 < (x3.length : Int) then (laws_toDialedS.l0v x0 (x3.set (x4 : Int).toNat (⟨(⟨bt553.1, bt553.2.1, bt553.2.2.1⟩ : S95), bt553.2.2.2.1, bt553.2.2.2.2⟩ : S97)) (wrap64 (x4 + 1))) else (none))) else (none)) else (some x3) := by
  refine Is.step (laws_toDialedS.l0_is x0 x3 x4).mo (fun k => by rw [laws_toDialedS.l0]) ?_
  · skip
    repeat' first
    | with_reducible exact laws_toDialed.f_is _ _ _ _ _
    | with_reducible exact laws_toDialedS.l0_is _ _ _
    | with_reducible exact Is.now _
    | with_reducible refine Is.ite ?_ ?_
    | with_reducible refine Is.bind ?_ (fun _ => ?_)
theorem laws_toDialedS.fv_eq (l0 : List (S94)) : laws_toDialedS.fv l0 = if 0 ≤ (l0.length : Int) then (if ((l0.length : Int) : Int).toNat ≤ 3909374676536 then (laws_toDialedS.l0v l0 (List.replicate ((l0.length : Int) : Int).toNat z97) 0) else (none)) else (none) := by
  refine Is.lim (g := fun k => laws_toDialedS.f k l0) ?_
  · unfold laws_toDialedS.f
    repeat' first
    | with_reducible exact laws_toDialedS.l0_is _ _ _
    | with_reducible exact Is.now _
    | with_reducible refine Is.ite ?_ ?_
    | with_reducible refine Is.bind ?_ (fun _ => ?_)
end Go.Proofs.Ytdoefkloanpliaa.Print
