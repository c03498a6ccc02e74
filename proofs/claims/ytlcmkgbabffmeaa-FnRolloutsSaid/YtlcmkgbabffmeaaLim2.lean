/- Written by a program of this session (limx.py): the equations of what the printed functions come to. No condition. -/
import Derived.Test.YtlcmkgbabffmeaaBase
import Derived.Test.YtlcmkgbabffmeaaPrint2
namespace Go.Proofs.Ytlcmkgbabffmeaa.Print
open Go.RowKit Go.Proofs.YtlcmkgbabffmeaaW.PrintWords Go.Proofs.YtlcmkgbabffmeaaW.PrintLast Go.Proofs.Ytlcmkgbabffmeaa.Base
set_option linter.unusedVariables false
set_option maxRecDepth 20000
noncomputable def spec_IsRollout.l0v (x3 : Int) (x127000 : Int) (x127001 : List Int) (x127002 : Int) (x127003 : Bool) : Option (Bool) := Lim fun k => spec_IsRollout.l0 k x3 x127000 x127001 x127002 x127003
noncomputable def spec_IsRollout.fv (a0_0 : Int) (l0_1 : List Int) (a0_2 : Int) (a0_3 : Bool) : Option (Bool) := Lim fun k => spec_IsRollout.f k a0_0 l0_1 a0_2 a0_3
theorem spec_IsRollout.l0_is (x3 : Int) (x127000 : Int) (x127001 : List Int) (x127002 : Int) (x127003 : Bool) : Is (fun k => spec_IsRollout.l0 k x3 x127000 x127001 x127002 x127003) (spec_IsRollout.l0v x3 x127000 x127001 x127002 x127003) := ⟨fun k => (spec_IsRollout.mono_l k) x3 x127000 x127001 x127002 x127003, rfl⟩
theorem spec_IsRollout.f_is (a0_0 : Int) (l0_1 : List Int) (a0_2 : Int) (a0_3 : Bool) : Is (fun k => spec_IsRollout.f k a0_0 l0_1 a0_2 a0_3) (spec_IsRollout.fv a0_0 l0_1 a0_2 a0_3) := ⟨fun k => spec_IsRollout.mono a0_0 l0_1 a0_2 a0_3 k, rfl⟩
theorem spec_IsRollout.l0v_eq (x3 : Int) (x127000 : Int) (x127001 : List Int) (x127002 : Int) (x127003 : Bool) : spec_IsRollout.l0v x3 x127000 x127001 x127002 x127003 = if x3 < (x127001.length : Int) then (if 0 ≤ x3 then ((spec_l1In.f (rd x127001 x3) 1 100).bind fun t128 => (if t128 = true then (if x3 > 0 then (if 0 ≤ (wrap64 (x3 - 1)) then (if (wrap64 (x3 - 1)) < (x127001.length : Int) then (if (rd x127001 (wrap64 (x3 - 1))) ≥ (rd x127001 x3) then (some false) else (spec_IsRollout.l0v (wrap64 (x3 + 1)) x127000 x127001 x127002 x127003)) else (none)) else (none)) else (spec_IsRollout.l0v (wrap64 (x3 + 1)) x127000 x127001 x127002 x127003)) else (some false))) else (none)) else ((spec_l1In.f x127000 1 9).bind fun t131 => (if t131 = true then ((spec_l1In.f (x127001.length : Int) 1 5).bind fun t132 => (if t132 = true then (if 0 ≤ (wrap64 ((x127001.length : Int) - 1)) then (if (wrap64 ((x127001.length : Int) - 1)) < (x127001.length : Int) then (if (rd x127001 (wrap64 ((x127001.length : Int) - 1))) = 100 then ((spec_l1In.f x127002 0 (wrap64 ((x127001.length : Int) - 1))).bind fun t134 => (some t134)) else (some false)) else (none)) else (none)) else (some false))) else (some false))) := by
  refine Is.step (spec_IsRollout.l0_is x3 x127000 x127001 x127002 x127003).mo (fun k => by rw [spec_IsRollout.l0]) ?_
  · skip
    repeat' first
    | with_reducible exact spec_IsRollout.l0_is _ _ _ _ _
    | with_reducible exact Is.now _
    | with_reducible refine Is.ite ?_ ?_
    | with_reducible refine Is.bind ?_ (fun _ => ?_)
theorem spec_IsRollout.fv_eq (a0_0 : Int) (l0_1 : List Int) (a0_2 : Int) (a0_3 : Bool) : spec_IsRollout.fv a0_0 l0_1 a0_2 a0_3 = spec_IsRollout.l0v 0 a0_0 l0_1 a0_2 a0_3 := by
  refine Is.lim (g := fun k => spec_IsRollout.f k a0_0 l0_1 a0_2 a0_3) ?_
  · unfold spec_IsRollout.f
    repeat' first
    | with_reducible exact spec_IsRollout.l0_is _ _ _ _ _
    | with_reducible exact Is.now _
    | with_reducible refine Is.ite ?_ ?_
    | with_reducible refine Is.bind ?_ (fun _ => ?_)
noncomputable def spec_NextStage.fv (a0_0 : Int) (l0_1 : List Int) (a0_2 : Int) (a0_3 : Bool) : Option (Int × List Int × Int × Bool × Bool) := Lim fun k => spec_NextStage.f k a0_0 l0_1 a0_2 a0_3
theorem spec_NextStage.f_is (a0_0 : Int) (l0_1 : List Int) (a0_2 : Int) (a0_3 : Bool) : Is (fun k => spec_NextStage.f k a0_0 l0_1 a0_2 a0_3) (spec_NextStage.fv a0_0 l0_1 a0_2 a0_3) := ⟨fun k => spec_NextStage.mono a0_0 l0_1 a0_2 a0_3 k, rfl⟩
theorem spec_NextStage.fv_eq (a0_0 : Int) (l0_1 : List Int) (a0_2 : Int) (a0_3 : Bool) : spec_NextStage.fv a0_0 l0_1 a0_2 a0_3 = (spec_l26Copy.f a0_0 l0_1 a0_2 a0_3).bind fun bt145 => ((spec_IsRollout.fv a0_0 l0_1 a0_2 a0_3).bind fun t152 => (if t152 = true then (if a0_3 = true then (some (bt145.1, bt145.2.1, bt145.2.2.1, bt145.2.2.2, false)) else (if a0_2 = (wrap64 ((l0_1.length : Int) - 1)) then (some (bt145.1, bt145.2.1, bt145.2.2.1, bt145.2.2.2, false)) else (some (bt145.1, bt145.2.1, wrap64 (a0_2 + 1), bt145.2.2.2, true)))) else (some (bt145.1, bt145.2.1, bt145.2.2.1, bt145.2.2.2, false)))) := by
  refine Is.lim (g := fun k => spec_NextStage.f k a0_0 l0_1 a0_2 a0_3) ?_
  · unfold spec_NextStage.f
    repeat' first
    | with_reducible exact spec_IsRollout.f_is _ _ _ _
    | with_reducible exact Is.now _
    | with_reducible refine Is.ite ?_ ?_
    | with_reducible refine Is.bind ?_ (fun _ => ?_)
noncomputable def spec_BackStage.fv (a0_0 : Int) (l0_1 : List Int) (a0_2 : Int) (a0_3 : Bool) : Option (Int × List Int × Int × Bool × Bool) := Lim fun k => spec_BackStage.f k a0_0 l0_1 a0_2 a0_3
theorem spec_BackStage.f_is (a0_0 : Int) (l0_1 : List Int) (a0_2 : Int) (a0_3 : Bool) : Is (fun k => spec_BackStage.f k a0_0 l0_1 a0_2 a0_3) (spec_BackStage.fv a0_0 l0_1 a0_2 a0_3) := ⟨fun k => spec_BackStage.mono a0_0 l0_1 a0_2 a0_3 k, rfl⟩
theorem spec_BackStage.fv_eq (a0_0 : Int) (l0_1 : List Int) (a0_2 : Int) (a0_3 : Bool) : spec_BackStage.fv a0_0 l0_1 a0_2 a0_3 = (spec_l26Copy.f a0_0 l0_1 a0_2 a0_3).bind fun bt155 => ((spec_IsRollout.fv a0_0 l0_1 a0_2 a0_3).bind fun t162 => (if t162 = true then (if a0_3 = true then (some (bt155.1, bt155.2.1, bt155.2.2.1, bt155.2.2.2, false)) else (some (bt155.1, bt155.2.1, 0, true, true))) else (some (bt155.1, bt155.2.1, bt155.2.2.1, bt155.2.2.2, false)))) := by
  refine Is.lim (g := fun k => spec_BackStage.f k a0_0 l0_1 a0_2 a0_3) ?_
  · unfold spec_BackStage.f
    repeat' first
    | with_reducible exact spec_IsRollout.f_is _ _ _ _
    | with_reducible exact Is.now _
    | with_reducible refine Is.ite ?_ ?_
    | with_reducible refine Is.bind ?_ (fun _ => ?_)
noncomputable def spec_StageAfter.l0v (x1 : List Int) (x6 : Int) (x172000 : Int) (x172001 : List Int) (x172002 : Int) (x172003 : Bool) : Option (Int × List Int × Int × Bool) := Lim fun k => spec_StageAfter.l0 k x1 x6 x172000 x172001 x172002 x172003
noncomputable def spec_StageAfter.fv (a0_0 : Int) (l0_1 : List Int) (a0_2 : Int) (a0_3 : Bool) (l1 : List Int) : Option (Int × List Int × Int × Bool) := Lim fun k => spec_StageAfter.f k a0_0 l0_1 a0_2 a0_3 l1
theorem spec_StageAfter.l0_is (x1 : List Int) (x6 : Int) (x172000 : Int) (x172001 : List Int) (x172002 : Int) (x172003 : Bool) : Is (fun k => spec_StageAfter.l0 k x1 x6 x172000 x172001 x172002 x172003) (spec_StageAfter.l0v x1 x6 x172000 x172001 x172002 x172003) := ⟨fun k => (spec_StageAfter.mono_l k) x1 x6 x172000 x172001 x172002 x172003, rfl⟩
theorem spec_StageAfter.f_is (a0_0 : Int) (l0_1 : List Int) (a0_2 : Int) (a0_3 : Bool) (l1 : List Int) : Is (fun k => spec_StageAfter.f k a0_0 l0_1 a0_2 a0_3 l1) (spec_StageAfter.fv a0_0 l0_1 a0_2 a0_3 l1) := ⟨fun k => spec_StageAfter.mono a0_0 l0_1 a0_2 a0_3 l1 k, rfl⟩
theorem spec_StageAfter.l0v_eq (x1 : List Int) (x6 : Int) (x172000 : Int) (x172001 : List Int) (x172002 : Int) (x172003 : Bool) : spec_StageAfter.l0v x1 x6 x172000 x172001 x172002 x172003 = if x6 < (x1.length : Int) then (if 0 ≤ x6 then (if (rd x1 x6) = 1 then ((spec_NextStage.fv x172000 x172001 x172002 x172003).bind fun bt173 => (spec_StageAfter.l0v x1 (wrap64 (x6 + 1)) bt173.1 bt173.2.1 bt173.2.2.1 bt173.2.2.2.1)) else (if (rd x1 x6) = 2 then ((spec_BackStage.fv x172000 x172001 x172002 x172003).bind fun bt180 => (spec_StageAfter.l0v x1 (wrap64 (x6 + 1)) bt180.1 bt180.2.1 bt180.2.2.1 bt180.2.2.2.1)) else (spec_StageAfter.l0v x1 (wrap64 (x6 + 1)) x172000 x172001 x172002 x172003))) else (none)) else (some (x172000, x172001, x172002, x172003)) := by
  refine Is.step (spec_StageAfter.l0_is x1 x6 x172000 x172001 x172002 x172003).mo (fun k => by rw [spec_StageAfter.l0]) ?_
  · skip
    repeat' first
    | with_reducible exact spec_BackStage.f_is _ _ _ _
    | with_reducible exact spec_NextStage.f_is _ _ _ _
    | with_reducible exact spec_StageAfter.l0_is _ _ _ _ _ _
    | with_reducible exact Is.now _
    | with_reducible refine Is.ite ?_ ?_
    | with_reducible refine Is.bind ?_ (fun _ => ?_)
theorem spec_StageAfter.fv_eq (a0_0 : Int) (l0_1 : List Int) (a0_2 : Int) (a0_3 : Bool) (l1 : List Int) : spec_StageAfter.fv a0_0 l0_1 a0_2 a0_3 l1 = (spec_l26Copy.f a0_0 l0_1 a0_2 a0_3).bind fun bt165 => (spec_StageAfter.l0v l1 0 bt165.1 bt165.2.1 bt165.2.2.1 bt165.2.2.2) := by
  refine Is.lim (g := fun k => spec_StageAfter.f k a0_0 l0_1 a0_2 a0_3 l1) ?_
  · unfold spec_StageAfter.f
    repeat' first
    | with_reducible exact spec_StageAfter.l0_is _ _ _ _ _ _
    | with_reducible exact Is.now _
    | with_reducible refine Is.ite ?_ ?_
    | with_reducible refine Is.bind ?_ (fun _ => ?_)
end Go.Proofs.Ytlcmkgbabffmeaa.Print
