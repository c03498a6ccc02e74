/- Written by a program of this session (limx.py): the equations of what the printed functions come to. No condition. -/
import Derived.Test.YtdoefkloanpliaaBase
import Derived.Test.YtdoefkloanpliaaPrint3
namespace Go.Proofs.Ytdoefkloanpliaa.Print
open Go.RowKit Go.Proofs.YtdoefkloanpliaaW.PrintWords Go.Proofs.YtdoefkloanpliaaW.PrintLast Go.Proofs.Ytdoefkloanpliaa.Base
set_option linter.unusedVariables false
set_option maxRecDepth 20000
noncomputable def spec_AreVersions.l0v (x0 : List Int) (x3 : Int) : Option (Bool) := Lim fun k => spec_AreVersions.l0 k x0 x3
noncomputable def spec_AreVersions.fv (l0 : List Int) : Option (Bool) := Lim fun k => spec_AreVersions.f k l0
theorem spec_AreVersions.l0_is (x0 : List Int) (x3 : Int) : Is (fun k => spec_AreVersions.l0 k x0 x3) (spec_AreVersions.l0v x0 x3) := ⟨fun k => (spec_AreVersions.mono_l k) x0 x3, rfl⟩
theorem spec_AreVersions.f_is (l0 : List Int) : Is (fun k => spec_AreVersions.f k l0) (spec_AreVersions.fv l0) := ⟨fun k => spec_AreVersions.mono l0 k, rfl⟩
theorem spec_AreVersions.l0v_eq (x0 : List Int) (x3 : Int) : spec_AreVersions.l0v x0 x3 = if x3 < (x0.length : Int) then (if 0 ≤ x3 then ((spec_l1In.f (rd x0 x3) 1 9).bind fun t164 => (if t164 = true then (if x3 > 0 then (if 0 ≤ (wrap64 (x3 - 1)) then (if (wrap64 (x3 - 1)) < (x0.length : Int) then (if (rd x0 (wrap64 (x3 - 1))) ≥ (rd x0 x3) then (some false) else (spec_AreVersions.l0v x0 (wrap64 (x3 + 1)))) else (none)) else (none)) else (spec_AreVersions.l0v x0 (wrap64 (x3 + 1)))) else (some false))) else (none)) else (some (decide ((x0.length : Int) > 0))) := by
  refine Is.step (spec_AreVersions.l0_is x0 x3).mo (fun k => by rw [spec_AreVersions.l0]) ?_
  · skip
    repeat' first
    | with_reducible exact spec_AreVersions.l0_is _ _
    | with_reducible exact Is.now _
    | with_reducible refine Is.ite ?_ ?_
    | with_reducible refine Is.bind ?_ (fun _ => ?_)
theorem spec_AreVersions.fv_eq (l0 : List Int) : spec_AreVersions.fv l0 = spec_AreVersions.l0v l0 0 := by
  refine Is.lim (g := fun k => spec_AreVersions.f k l0) ?_
  · unfold spec_AreVersions.f
    repeat' first
    | with_reducible exact spec_AreVersions.l0_is _ _
    | with_reducible exact Is.now _
    | with_reducible refine Is.ite ?_ ?_
    | with_reducible refine Is.bind ?_ (fun _ => ?_)
noncomputable def spec_l9Byte.l0v (x0 : List Int) (x3 : Int) : Option (Bool) := Lim fun k => spec_l9Byte.l0 k x0 x3
noncomputable def spec_l9Byte.fv (l0 : List Int) : Option (Bool) := Lim fun k => spec_l9Byte.f k l0
theorem spec_l9Byte.l0_is (x0 : List Int) (x3 : Int) : Is (fun k => spec_l9Byte.l0 k x0 x3) (spec_l9Byte.l0v x0 x3) := ⟨fun k => (spec_l9Byte.mono_l k) x0 x3, rfl⟩
theorem spec_l9Byte.f_is (l0 : List Int) : Is (fun k => spec_l9Byte.f k l0) (spec_l9Byte.fv l0) := ⟨fun k => spec_l9Byte.mono l0 k, rfl⟩
theorem spec_l9Byte.l0v_eq (x0 : List Int) (x3 : Int) : spec_l9Byte.l0v x0 x3 = if x3 < (x0.length : Int) then (if 0 ≤ x3 then ((spec_l1In.f (rd x0 x3) 0 255).bind fun t169 => (if t169 = true then (spec_l9Byte.l0v x0 (wrap64 (x3 + 1))) else (some false))) else (none)) else (some true) := by
  refine Is.step (spec_l9Byte.l0_is x0 x3).mo (fun k => by rw [spec_l9Byte.l0]) ?_
  · skip
    repeat' first
    | with_reducible exact spec_l9Byte.l0_is _ _
    | with_reducible exact Is.now _
    | with_reducible refine Is.ite ?_ ?_
    | with_reducible refine Is.bind ?_ (fun _ => ?_)
theorem spec_l9Byte.fv_eq (l0 : List Int) : spec_l9Byte.fv l0 = spec_l9Byte.l0v l0 0 := by
  refine Is.lim (g := fun k => spec_l9Byte.f k l0) ?_
  · unfold spec_l9Byte.f
    repeat' first
    | with_reducible exact spec_l9Byte.l0_is _ _
    | with_reducible exact Is.now _
    | with_reducible refine Is.ite ?_ ?_
    | with_reducible refine Is.bind ?_ (fun _ => ?_)
noncomputable def spec_IsBox.fv (a0_0 : Int) (l0_1 : List Int) (l0_2 : List Int) (a0_3 : Bool) : Option (Bool) := Lim fun k => spec_IsBox.f k a0_0 l0_1 l0_2 a0_3
theorem spec_IsBox.f_is (a0_0 : Int) (l0_1 : List Int) (l0_2 : List Int) (a0_3 : Bool) : Is (fun k => spec_IsBox.f k a0_0 l0_1 l0_2 a0_3) (spec_IsBox.fv a0_0 l0_1 l0_2 a0_3) := ⟨fun k => spec_IsBox.mono a0_0 l0_1 l0_2 a0_3 k, rfl⟩
theorem spec_IsBox.fv_eq (a0_0 : Int) (l0_1 : List Int) (l0_2 : List Int) (a0_3 : Bool) : spec_IsBox.fv a0_0 l0_1 l0_2 a0_3 = (spec_l1In.f a0_0 0 9).bind fun t171 => (if t171 = true then (if (l0_1.length : Int) ≤ 6 then (if (l0_2.length : Int) ≤ 6 then ((spec_l9Byte.fv l0_1).bind fun t172 => (if t172 = true then ((spec_l9Byte.fv l0_2).bind fun t173 => (some t173)) else (some false))) else (some false)) else (some false)) else (some false)) := by
  refine Is.lim (g := fun k => spec_IsBox.f k a0_0 l0_1 l0_2 a0_3) ?_
  · unfold spec_IsBox.f
    repeat' first
    | with_reducible exact spec_l9Byte.f_is _
    | with_reducible exact Is.now _
    | with_reducible refine Is.ite ?_ ?_
    | with_reducible refine Is.bind ?_ (fun _ => ?_)
end Go.Proofs.Ytdoefkloanpliaa.Print
