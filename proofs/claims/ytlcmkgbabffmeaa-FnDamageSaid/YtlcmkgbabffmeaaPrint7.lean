-- Written by a program of this session (printx.py) out of the translation; Lean checks it.
import Derived.Test.YtlcmkgbabffmeaaPrint0
import Derived.Test.YtlcmkgbabffmeaaPrint1
import Derived.Test.YtlcmkgbabffmeaaPrint2
import Derived.Test.YtlcmkgbabffmeaaPrint3
import Derived.Test.YtlcmkgbabffmeaaPrint5
import Derived.Test.YtlcmkgbabffmeaaPrint6
namespace Go.Proofs.Ytlcmkgbabffmeaa.Print
open Go.RowKit Go.Proofs.YtlcmkgbabffmeaaW.PrintWords Go.Proofs.YtlcmkgbabffmeaaW.PrintLast Go.Proofs.YtlcmkgbabffmeaaW.PrintMore Go.Proofs.Ytlcmkgbabffmeaa.Short
attribute [local go_sem] max2_int min2_int max_two min_two max_three min_three max_four min_four   -- for this text's walks alone
set_option linter.unusedVariables false
set_option linter.unusedSimpArgs false

/-! ### laws_FnDamage: function 14 -/
mutual
def laws_FnDamage.j0 : Nat → List Int → Bool → Option (Bool)
  | 0, _, _ => none
  | k + 1, x0, x56 => if x56 = true then (some false) else ((spec_DrawStageAfter.f k x0).bind fun bt441 => (laws_FnDamage.l0 k x0 bt441.2.2.2.2 0 0 bt441.1 bt441.2.1 bt441.2.2.1 bt441.2.2.2.1))
def laws_FnDamage.l0 : Nat → List Int → List Int → Int → Int → Int → List Int → Int → Bool → Option (Bool)
  | 0, _, _, _, _, _, _, _, _ => none
  | k + 1, x0, x8, x9, x10, x451000, x451001, x451002, x451003 => if x10 < (x8.length : Int) then (if 0 ≤ x10 then (if (rd x8 x10) = 1 then (laws_FnDamage.l0 k x0 x8 (wrap64 (x9 + 1)) (wrap64 (x10 + 1)) x451000 x451001 x451002 x451003) else (laws_FnDamage.l0 k x0 x8 x9 (wrap64 (x10 + 1)) x451000 x451001 x451002 x451003)) else (none)) else ((impl_StageAfter.f k x451000 x451001 x451002 x451003 x8).bind fun bt452 => ((impl_PassedStages.f k x451000 x451001 x451002 x451003 x8).bind fun t459 => ((impl_IsRollout.f k x451000 x451001 x451002 x451003).bind fun t460 => (if t460 = true then ((impl_IsRollout.f k bt452.1 bt452.2.1 bt452.2.2.1 bt452.2.2.2).bind fun t461 => (if t461 = true then (if t459 < 1 then (laws_FnDamage.j2 k x0 true) else (if t459 > (wrap64 ((wrap64 (x451002 + 1)) + x9)) then (laws_FnDamage.j2 k x0 true) else ((impl_CountIn.f k bt452.1 bt452.2.1 bt452.2.2.1 bt452.2.2.2 50).bind fun t462 => ((impl_MostHurt.f k x451000 x451001 x451002 x451003 50 t459).bind fun t463 => (laws_FnDamage.j2 k x0 (decide (t462 > t463))))))) else (laws_FnDamage.j2 k x0 true))) else (laws_FnDamage.j2 k x0 false)))))
def laws_FnDamage.j2 : Nat → List Int → Bool → Option (Bool)
  | 0, _, _ => none
  | k + 1, x0, x108 => if x108 = true then (some false) else ((spec_DrawSafeStages.f k x0).bind fun bt464 => ((impl_SafeStages.f k bt464.1 bt464.2).bind fun t466 => (if (t466.length : Int) = 0 then (some true) else ((impl_IsRollout.f k 1 t466 0 false).bind fun t470 => (if t470 = true then (if (t466.length : Int) = 1 then (some true) else ((impl_CountIn.f k 1 t466 0 false bt464.1).bind fun t471 => (some (decide (t471 ≤ bt464.2))))) else (some false))))))
end
def laws_FnDamage.f (k : Nat) (l0 : List Int) : Option (Bool) := (laws_big.f l0).bind fun t423 => (if t423 = true then (some true) else ((spec_DrawHurtAt.f k l0).bind fun bt424 => ((impl_HurtAt.f k bt424.1 bt424.2.1 bt424.2.2.1 bt424.2.2.2.1 bt424.2.2.2.2.1 bt424.2.2.2.2.2).bind fun t435 => ((impl_CountIn.f k bt424.1 bt424.2.1 bt424.2.2.1 bt424.2.2.2.1 bt424.2.2.2.2.1).bind fun t436 => ((spec_CountIn.f k bt424.1 bt424.2.1 bt424.2.2.1 bt424.2.2.2.1 bt424.2.2.2.2.1).bind fun t437 => (if t436 = t437 then ((impl_CountIn.f k bt424.1 bt424.2.1 bt424.2.2.1 bt424.2.2.2.1 bt424.2.2.2.2.1).bind fun t438 => (if t435 > t438 then (laws_FnDamage.j0 k l0 true) else ((impl_IsRollout.f k bt424.1 bt424.2.1 bt424.2.2.1 bt424.2.2.2.1).bind fun t439 => (if t439 = true then ((impl_MostHurt.f k bt424.1 bt424.2.1 bt424.2.2.1 bt424.2.2.2.1 bt424.2.2.2.2.1 (wrap64 (bt424.2.2.1 + 1))).bind fun t440 => (laws_FnDamage.j0 k l0 (decide (t435 > t440)))) else (laws_FnDamage.j0 k l0 false))))) else (laws_FnDamage.j0 k l0 true)))))))
theorem laws_FnDamage.mono_l : ∀ k, (∀ y0 y1, LeO (laws_FnDamage.j0 k y0 y1) (laws_FnDamage.j0 (k + 1) y0 y1)) ∧ (∀ y0 y1 y2 y3 y4 y5 y6 y7, LeO (laws_FnDamage.l0 k y0 y1 y2 y3 y4 y5 y6 y7) (laws_FnDamage.l0 (k + 1) y0 y1 y2 y3 y4 y5 y6 y7)) ∧ (∀ y0 y1, LeO (laws_FnDamage.j2 k y0 y1) (laws_FnDamage.j2 (k + 1) y0 y1))
  | 0 => ⟨fun _ _ r h => by simp [laws_FnDamage.j0] at h, fun _ _ _ _ _ _ _ _ r h => by simp [laws_FnDamage.l0] at h, fun _ _ r h => by simp [laws_FnDamage.j2] at h⟩
  | k + 1 => by
    obtain ⟨ih0, ih1, ih2⟩ := laws_FnDamage.mono_l k
    refine ⟨?_, ?_, ?_⟩
    · intro y0 y1
      unfold laws_FnDamage.j0
      repeat' first
      | (with_reducible exact ih0 _ _)
      | (with_reducible exact ih1 _ _ _ _ _ _ _ _)
      | (with_reducible exact ih2 _ _)
      | (with_reducible exact impl_CountIn.mono _ _ _ _ _ _)
      | (with_reducible exact impl_HurtAt.mono _ _ _ _ _ _ _)
      | (with_reducible exact impl_IsRollout.mono _ _ _ _ _)
      | (with_reducible exact impl_MostHurt.mono _ _ _ _ _ _ _)
      | (with_reducible exact impl_PassedStages.mono _ _ _ _ _ _)
      | (with_reducible exact impl_SafeStages.mono _ _ _)
      | (with_reducible exact impl_StageAfter.mono _ _ _ _ _ _)
      | (with_reducible exact spec_CountIn.mono _ _ _ _ _ _)
      | (with_reducible exact spec_DrawHurtAt.mono _ _)
      | (with_reducible exact spec_DrawSafeStages.mono _ _)
      | (with_reducible exact spec_DrawStageAfter.mono _ _)
      | (with_reducible exact LeO.refl _)
      | (with_reducible exact LeO.none _)
      | (with_reducible refine LeO.ite ?_ ?_)
      | (with_reducible refine LeO.bind ?_ (fun _ => ?_))
      | exact ih0 _ _
      | exact ih1 _ _ _ _ _ _ _ _
      | exact ih2 _ _
      | exact impl_CountIn.mono _ _ _ _ _ _
      | exact impl_HurtAt.mono _ _ _ _ _ _ _
      | exact impl_IsRollout.mono _ _ _ _ _
      | exact impl_MostHurt.mono _ _ _ _ _ _ _
      | exact impl_PassedStages.mono _ _ _ _ _ _
      | exact impl_SafeStages.mono _ _ _
      | exact impl_StageAfter.mono _ _ _ _ _ _
      | exact spec_CountIn.mono _ _ _ _ _ _
      | exact spec_DrawHurtAt.mono _ _
      | exact spec_DrawSafeStages.mono _ _
      | exact spec_DrawStageAfter.mono _ _
      | exact LeO.none _
      | refine LeO.ite ?_ ?_
      | refine LeO.bind ?_ (fun _ => ?_)
    · intro y0 y1 y2 y3 y4 y5 y6 y7
      unfold laws_FnDamage.l0
      repeat' first
      | (with_reducible exact ih0 _ _)
      | (with_reducible exact ih1 _ _ _ _ _ _ _ _)
      | (with_reducible exact ih2 _ _)
      | (with_reducible exact impl_CountIn.mono _ _ _ _ _ _)
      | (with_reducible exact impl_HurtAt.mono _ _ _ _ _ _ _)
      | (with_reducible exact impl_IsRollout.mono _ _ _ _ _)
      | (with_reducible exact impl_MostHurt.mono _ _ _ _ _ _ _)
      | (with_reducible exact impl_PassedStages.mono _ _ _ _ _ _)
      | (with_reducible exact impl_SafeStages.mono _ _ _)
      | (with_reducible exact impl_StageAfter.mono _ _ _ _ _ _)
      | (with_reducible exact spec_CountIn.mono _ _ _ _ _ _)
      | (with_reducible exact spec_DrawHurtAt.mono _ _)
      | (with_reducible exact spec_DrawSafeStages.mono _ _)
      | (with_reducible exact spec_DrawStageAfter.mono _ _)
      | (with_reducible exact LeO.refl _)
      | (with_reducible exact LeO.none _)
      | (with_reducible refine LeO.ite ?_ ?_)
      | (with_reducible refine LeO.bind ?_ (fun _ => ?_))
      | exact ih0 _ _
      | exact ih1 _ _ _ _ _ _ _ _
      | exact ih2 _ _
      | exact impl_CountIn.mono _ _ _ _ _ _
      | exact impl_HurtAt.mono _ _ _ _ _ _ _
      | exact impl_IsRollout.mono _ _ _ _ _
      | exact impl_MostHurt.mono _ _ _ _ _ _ _
      | exact impl_PassedStages.mono _ _ _ _ _ _
      | exact impl_SafeStages.mono _ _ _
      | exact impl_StageAfter.mono _ _ _ _ _ _
      | exact spec_CountIn.mono _ _ _ _ _ _
      | exact spec_DrawHurtAt.mono _ _
      | exact spec_DrawSafeStages.mono _ _
      | exact spec_DrawStageAfter.mono _ _
      | exact LeO.none _
      | refine LeO.ite ?_ ?_
      | refine LeO.bind ?_ (fun _ => ?_)
    · intro y0 y1
      unfold laws_FnDamage.j2
      repeat' first
      | (with_reducible exact ih0 _ _)
      | (with_reducible exact ih1 _ _ _ _ _ _ _ _)
      | (with_reducible exact ih2 _ _)
      | (with_reducible exact impl_CountIn.mono _ _ _ _ _ _)
      | (with_reducible exact impl_HurtAt.mono _ _ _ _ _ _ _)
      | (with_reducible exact impl_IsRollout.mono _ _ _ _ _)
      | (with_reducible exact impl_MostHurt.mono _ _ _ _ _ _ _)
      | (with_reducible exact impl_PassedStages.mono _ _ _ _ _ _)
      | (with_reducible exact impl_SafeStages.mono _ _ _)
      | (with_reducible exact impl_StageAfter.mono _ _ _ _ _ _)
      | (with_reducible exact spec_CountIn.mono _ _ _ _ _ _)
      | (with_reducible exact spec_DrawHurtAt.mono _ _)
      | (with_reducible exact spec_DrawSafeStages.mono _ _)
      | (with_reducible exact spec_DrawStageAfter.mono _ _)
      | (with_reducible exact LeO.refl _)
      | (with_reducible exact LeO.none _)
      | (with_reducible refine LeO.ite ?_ ?_)
      | (with_reducible refine LeO.bind ?_ (fun _ => ?_))
      | exact ih0 _ _
      | exact ih1 _ _ _ _ _ _ _ _
      | exact ih2 _ _
      | exact impl_CountIn.mono _ _ _ _ _ _
      | exact impl_HurtAt.mono _ _ _ _ _ _ _
      | exact impl_IsRollout.mono _ _ _ _ _
      | exact impl_MostHurt.mono _ _ _ _ _ _ _
      | exact impl_PassedStages.mono _ _ _ _ _ _
      | exact impl_SafeStages.mono _ _ _
      | exact impl_StageAfter.mono _ _ _ _ _ _
      | exact spec_CountIn.mono _ _ _ _ _ _
      | exact spec_DrawHurtAt.mono _ _
      | exact spec_DrawSafeStages.mono _ _
      | exact spec_DrawStageAfter.mono _ _
      | exact LeO.none _
      | refine LeO.ite ?_ ?_
      | refine LeO.bind ?_ (fun _ => ?_)
theorem laws_FnDamage.mono : ∀ a0 k, LeO (laws_FnDamage.f k a0) (laws_FnDamage.f (k + 1) a0) := by
  intro a0 k
  obtain ⟨ih0, ih1, ih2⟩ := laws_FnDamage.mono_l k
  unfold laws_FnDamage.f
  repeat' first
      | (with_reducible exact ih0 _ _)
      | (with_reducible exact ih1 _ _ _ _ _ _ _ _)
      | (with_reducible exact ih2 _ _)
      | (with_reducible exact impl_CountIn.mono _ _ _ _ _ _)
      | (with_reducible exact impl_HurtAt.mono _ _ _ _ _ _ _)
      | (with_reducible exact impl_IsRollout.mono _ _ _ _ _)
      | (with_reducible exact impl_MostHurt.mono _ _ _ _ _ _ _)
      | (with_reducible exact impl_PassedStages.mono _ _ _ _ _ _)
      | (with_reducible exact impl_SafeStages.mono _ _ _)
      | (with_reducible exact impl_StageAfter.mono _ _ _ _ _ _)
      | (with_reducible exact spec_CountIn.mono _ _ _ _ _ _)
      | (with_reducible exact spec_DrawHurtAt.mono _ _)
      | (with_reducible exact spec_DrawSafeStages.mono _ _)
      | (with_reducible exact spec_DrawStageAfter.mono _ _)
      | (with_reducible exact LeO.refl _)
      | (with_reducible exact LeO.none _)
      | (with_reducible refine LeO.ite ?_ ?_)
      | (with_reducible refine LeO.bind ?_ (fun _ => ?_))
      | exact ih0 _ _
      | exact ih1 _ _ _ _ _ _ _ _
      | exact ih2 _ _
      | exact impl_CountIn.mono _ _ _ _ _ _
      | exact impl_HurtAt.mono _ _ _ _ _ _ _
      | exact impl_IsRollout.mono _ _ _ _ _
      | exact impl_MostHurt.mono _ _ _ _ _ _ _
      | exact impl_PassedStages.mono _ _ _ _ _ _
      | exact impl_SafeStages.mono _ _ _
      | exact impl_StageAfter.mono _ _ _ _ _ _
      | exact spec_CountIn.mono _ _ _ _ _ _
      | exact spec_DrawHurtAt.mono _ _
      | exact spec_DrawSafeStages.mono _ _
      | exact spec_DrawStageAfter.mono _ _
      | exact LeO.none _
      | refine LeO.ite ?_ ?_
      | refine LeO.bind ?_ (fun _ => ?_)
def laws_FnDamage.T5 : Bool × List (List Nat × List Nat) := (true, [([], []), ([], []), ([0, 1], [0, 1]), ([], []), ([], []), ([3, 4, 2], [3, 4]), ([2, 5], [2, 5]), ([6, 5], [6]), ([7], [7]), ([7], [7]), ([7], [7]), ([9, 10, 7, 7], [7, 9, 10]), ([8, 11, 7], [7, 8, 11]), ([7, 12], [7, 12]), ([13, 11], [13]), ([14], [14]), ([15, 14, 14], [14, 15]), ([16, 16, 14], [14, 16]), ([17], [17]), ([17], [17]), ([17], [17]), ([17], [17]), ([21, 17], [17, 21]), ([22, 17], [17, 22]), ([19, 20, 23, 17, 17], [17, 19, 20, 23]), ([18, 24, 17], [17, 18, 24]), ([17, 25, 14], [14, 17, 25]), ([14, 26], [14, 26])])
def laws_FnDamage.B5 : List Nat := [0, 0, 3, 0, 0, 31, 63, 127, 255, 255, 255, 1791, 4095, 8191, 16383, 32767, 65535, 131071, 262143, 262143, 262143, 262143, 2359295, 6553599, 16515071, 33554431, 67108863, 134217727]
theorem laws_FnDamage.tab5 : rtab .any (opsOf Try.f14 5) = laws_FnDamage.T5 := by kernel_rfl
theorem laws_FnDamage.bits5 : waitsOk laws_FnDamage.T5.2 laws_FnDamage.B5 = true := by kernel_rfl
def laws_FnDamage.T16 : Bool × List (List Nat × List Nat) := (true, [([], []), ([0], [0]), ([1, 1], [1]), ([2], [2]), ([3, 2, 2], [2, 3]), ([4, 2], [2, 4]), ([5, 4, 2], [2, 5]), ([6], [6]), ([7, 6], [6, 7]), ([6, 8, 2], [2, 6, 8]), ([9, 6, 2], [2, 9]), ([10], [10]), ([10], [10]), ([12, 10], [10, 12]), ([13, 10], [10, 13]), ([10], [10]), ([14, 15, 10], [10, 14, 15]), ([11, 16, 10], [10, 11, 16]), ([10, 17, 2], [2, 10, 17]), ([18, 10, 2], [2, 18]), ([19], [19]), ([20, 19, 19], [19, 20]), ([19], [19]), ([19], [19]), ([22, 23, 21, 19], [19, 22, 23]), ([21, 24, 19], [19, 21, 24]), ([19, 25, 2], [2, 19, 25]), ([2, 26], [2, 26])])
def laws_FnDamage.B16 : List Nat := [0, 1, 3, 7, 15, 31, 63, 127, 255, 511, 1023, 2047, 2047, 6143, 14335, 2047, 63487, 131071, 262143, 524287, 1048575, 2097151, 1048575, 1048575, 16777215, 33554431, 67108863, 134217727]
theorem laws_FnDamage.tab16 : rtab .any (opsOf Try.f14 16) = laws_FnDamage.T16 := by kernel_rfl
theorem laws_FnDamage.bits16 : waitsOk laws_FnDamage.T16.2 laws_FnDamage.B16 = true := by kernel_rfl
set_option maxHeartbeats 8000000 in
set_option maxRecDepth 100000 in
theorem laws_FnDamage.calls (k : Nat) (A0 : Option Addr) (c0 : Nat) (l0 : List Int) (r : Bool) (w : World) (hr0 : Kd.C (Kd.int .u8) w A0 l0.length l0) (hc0 : l0.length ≤ c0) (h : laws_FnDamage.f k l0 = some r) :
    Calls Try.prog 14 #[.slice A0 l0.length c0] w fun e w' => e = .returned (.bool r) ∧ Below w.heap.size w w' := by
  have hu27 := Try.underlying27
  have HR0 := Aside0.mk hr0
  have HC0 := Aside0.mk hc0
  clear hr0 hc0
  have HB := Aside0.mk (Below.refl w.heap.size w)
  have H : ((laws_big.f l0).bind fun t423 => (if t423 = true then (some true) else ((spec_DrawHurtAt.f k l0).bind fun bt424 => ((impl_HurtAt.f k bt424.1 bt424.2.1 bt424.2.2.1 bt424.2.2.2.1 bt424.2.2.2.2.1 bt424.2.2.2.2.2).bind fun t435 => ((impl_CountIn.f k bt424.1 bt424.2.1 bt424.2.2.1 bt424.2.2.2.1 bt424.2.2.2.2.1).bind fun t436 => ((spec_CountIn.f k bt424.1 bt424.2.1 bt424.2.2.1 bt424.2.2.2.1 bt424.2.2.2.2.1).bind fun t437 => (if t436 = t437 then ((impl_CountIn.f k bt424.1 bt424.2.1 bt424.2.2.1 bt424.2.2.2.1 bt424.2.2.2.2.1).bind fun t438 => (if t435 > t438 then (laws_FnDamage.j0 k l0 true) else ((impl_IsRollout.f k bt424.1 bt424.2.1 bt424.2.2.1 bt424.2.2.2.1).bind fun t439 => (if t439 = true then ((impl_MostHurt.f k bt424.1 bt424.2.1 bt424.2.2.1 bt424.2.2.2.1 bt424.2.2.2.2.1 (wrap64 (bt424.2.2.1 + 1))).bind fun t440 => (laws_FnDamage.j0 k l0 (decide (t435 > t440)))) else (laws_FnDamage.j0 k l0 false))))) else (laws_FnDamage.j0 k l0 true)))))))) = some r := h
  clear h
  replace H := Option.bind_eq_some_iff.mp H
  obtain ⟨t423, A20, H⟩ := H
  (try dsimp only at H)
  have A2 := Aside0.mk A20
  clear A20
  have HS_ := Aside0.mk H
  clear H
  go_enter Try.func14, Try.ntmps14
  go_upto_if 18 with (first | ((with_reducible refine gate_callee (f := 32) rfl ?_); refine goesL_ (some 18) rfl rfl Try.func32 (by kernel_rfl) rfl #[.slice A0 l0.length c0] rfl mp_ ?_; (with_reducible refine (laws_big.calls _ _ l0 t423 _ ?side1 ?side2 A2.out).mono ?_); (case side1 => exact pc_ HR0.out); (case side2 => exact HC0.out); rintro e w' ⟨rfl, ⟨nd, rfl⟩⟩; refine ⟨_, rfl, ?_⟩))
  (try simp only [Act.put, List.setIfInBounds_toArray, List.set_cons_zero, List.set_cons_succ])
  have H := HS_.out
  clear HS_
  by_cases c3 : t423 = true
  · subst c3
    rw [if_pos rfl] at H
    obtain rfl := Option.some.inj H
    go_wp2
    go_ret
    exact ⟨er_, pb_ HB.out⟩
  replace c3 := Bool.eq_false_iff.mpr c3
  subst c3
  rw [if_neg (show ¬ (false = true) by decide)] at H
  replace H := Option.bind_eq_some_iff.mp H
  obtain ⟨⟨t424, t425, t428, t429, t430, t431⟩, A40, H⟩ := H
  (try dsimp only at H)
  have A4 := Aside0.mk A40
  clear A40
  replace H := Option.bind_eq_some_iff.mp H
  obtain ⟨t435, A50, H⟩ := H
  (try dsimp only at H)
  have A5 := Aside0.mk A50
  clear A50
  have HC6 := Aside0.mk H
  clear H
  go_upto_region 5 with (first | ((with_reducible refine gate_callee (f := 47) rfl ?_); refine goesL_ (some 21) rfl rfl Try.func47 (by kernel_rfl) rfl #[.slice A0 l0.length c0] rfl mp_ ?_; (with_reducible refine (spec_DrawHurtAt.calls k _ _ l0 t424 t425 t428 t429 t430 t431 _ ?side1 ?side2 A4.out).mono ?_); (case side1 => exact pc_ (Kd.C_below HR0.out HB.out)); (case side2 => exact HC0.out); rintro e w7 ⟨v426, v432, rfl, ho0, ho1, hb⟩; refine ⟨_, rfl, ?_⟩; have n0_ := Aside0.mk (Kd.R_lower ho0 (below_size (pb_ HB.out))); have n1_ := Aside0.mk (Kd.R_lower ho1 (below_size (pb_ HB.out))); have n2_ := Aside0.mk (below_step (pb_ HB.out) hb); clear HB; have HO427 := n0_; have HO433 := n1_; have HB := n2_; clear n0_ n1_ n2_; (try clear hb); (try clear hb2); (try clear hk); (try clear hi); (try clear ho0); (try clear ho1)) | ((with_reducible refine gate_dst (N := 3) rfl ?_); refine box_event ?hg (N := 3) ?hd (cs := #[.int .i64 0, .slice none 0 0, .int .i64 0, .bool false]) (t := 27) ?hr ?_; (case hd => rfl); (case hg => rfl); (case hr => first | (go_simp; done) | (go_simp; rfl)); intro gb434 hg w8 hbox hb; have n0_ := Aside0.mk (Kd.R_below (pr_ HO427.out) hb); have n1_ := Aside0.mk (Kd.R_below (pr_ HO433.out) hb); have n2_ := Aside0.mk (below_step (pb_ HB.out) hb); have n3_ := Aside0.mk (hbox); have n4_ := Aside0.mk ((by rw [hg]; exact (below_size (pb_ HB.out)) : w.heap.size ≤ gb434)); have n5_ := Aside0.mk ((by rw [hg]; exact (below_size (pb_ HB.out)) : w.heap.size ≤ gb434)); clear HO427; clear HO433; clear HB; have HO427 := n0_; have HO433 := n1_; have HB := n2_; have BK434 := n3_; have GW434 := n4_; have GE434 := n5_; clear n0_ n1_ n2_ n3_ n4_ n5_; clear hb hbox hg; have hcz9_0 : w8.cell? ⟨gb434, 0, none⟩ = some (.int .i64 0) := (blk_cell BK434.out 0).trans rfl; have hcz9_1 : w8.cell? ⟨gb434, 1, none⟩ = some (.slice none 0 0) := (blk_cell BK434.out 1).trans rfl; have hcz9_2 : w8.cell? ⟨gb434, 2, none⟩ = some (.int .i64 0) := (blk_cell BK434.out 2).trans rfl; have hcz9_3 : w8.cell? ⟨gb434, 3, none⟩ = some (.bool false) := (blk_cell BK434.out 3).trans rfl; have hfz9_0 := blk_frozen BK434.out 0; have hfz9_1 := blk_frozen BK434.out 1; have hfz9_2 := blk_frozen BK434.out 2; have hfz9_3 := blk_frozen BK434.out 3; obtain ⟨Ao10, co10, eo10⟩ := Kd.R_slice HO427.out; subst eo10; obtain ⟨Ao11, co11, eo11⟩ := Kd.R_slice HO433.out; subst eo11) | ((with_reducible refine gate_callee (f := 38) rfl ?_); refine goesL_ (some 28) rfl rfl Try.func38 (by kernel_rfl) rfl #[.agg #[.int .i64 t424, .slice Ao10 t425.length co10, .int .i64 t428, .bool t429], .int .i64 t430, .slice Ao11 t431.length co11] rfl mp_ ?_; (with_reducible refine (impl_HurtAt.calls k t424 _ _ t425 t428 t429 t430 _ _ t431 t435 _ ?side1 ?side2 ?side3 ?side4 A5.out).mono ?_); (case side1 => refine (Kd.R_reads' (e := 3) (base := w.heap.size) (ok := fun k_ => True) (n := t425.length) (c := co10) ?_).2.2; exact (pr_ (rf4_ HO427.out BK434.out))); (case side2 => exact (Kd.R_reads' HO427.out).2.1); (case side3 => refine (Kd.R_reads' (e := 4) (base := w.heap.size) (ok := fun k_ => True) (n := t431.length) (c := co11) ?_).2.2; exact (pr_ (rf4_ HO433.out BK434.out))); (case side4 => exact (Kd.R_reads' HO433.out).2.1); rintro e w12 ⟨rfl, hb⟩; refine ⟨_, rfl, ?_⟩; have n0_ := Aside0.mk (Kd.R_below (pr_ (rf4_ HO427.out BK434.out)) hb); have n1_ := Aside0.mk (Kd.R_below (pr_ (rf4_ HO433.out BK434.out)) hb); have n2_ := Aside0.mk (blk_below (g := gb434) (o := .cells #[.int .i64 t424, .slice Ao10 t425.length co10, .int .i64 t428, .bool t429] 27 (0, 0)) (pp_ BK434.out) hb); have n3_ := Aside0.mk (below_step (pb1_ HB.out GE434.out) hb); clear HO427; clear HO433; clear BK434; clear HB; have HO427 := n0_; have HO433 := n1_; have BK434 := n2_; have HB := n3_; clear n0_ n1_ n2_ n3_; (try clear hb); (try clear hb2); (try clear hk); (try clear hi)))
  (try simp only [Act.put, List.setIfInBounds_toArray, List.set_cons_zero, List.set_cons_succ])
  go_cut [56] (fun v56 wc => ∃ (kq : Nat) (x56_5 : Bool), v56 = .bool x56_5 ∧ Aside0 (laws_FnDamage.j0 kq l0 x56_5 = some r) ∧ Aside0 (kq ≤ k) ∧ Aside0 (Kd.R (Kd.int .i64) 3 wc w.heap.size (fun _ => True) (.slice Ao10 t425.length co10) t425) ∧ Aside0 (wc.heap[gb434]? = some (.cells #[.int .i64 t424, (.slice Ao10 t425.length co10), .int .i64 t428, .bool t429] 27 (0, 0))) ∧ Aside0 (Below w.heap.size w wc))
  case first =>
    have H := HC6.out
    clear HC6
    replace H := Option.bind_eq_some_iff.mp H
    obtain ⟨t436, A130, H⟩ := H
    (try dsimp only at H)
    have A13 := Aside0.mk A130
    clear A130
    replace H := Option.bind_eq_some_iff.mp H
    obtain ⟨t437, A140, H⟩ := H
    (try dsimp only at H)
    have A14 := Aside0.mk A140
    clear A140
    by_cases c15 : t436 = t437
    rotate_left
    · rw [if_neg c15] at H
      have c15b0 : (t436 == t437) = false := beq_eq_false_iff_ne.mpr c15
      have c15b1 : (t436 != t437) = true := bne_iff_ne.mpr c15
      (first | rw [c15b0] | (simp only [i64_w, i32_w]; rw [c15b0]) | rw [c15b1] | (have c_ := c15b1; rw [bne] at c_; rw [c_]; clear c_) | skip)
      have H' := Aside0.mk H
      clear H
      try go_wp2
      have n0_ := Aside0.mk (Kd.R_drew HO427.out)
      have n1_ := Aside0.mk (Kd.R_drew HO433.out)
      have n2_ := Aside0.mk (blk_drew BK434.out)
      have n3_ := Aside0.mk (below_drew1 HB.out)
      clear HO427
      clear HO433
      clear BK434
      clear HB
      have HO427 := n0_
      have HO433 := n1_
      have BK434 := n2_
      have HB := n3_
      clear n0_ n1_ n2_ n3_
      refine start_ (n := 28) (S := fun w' => w'.cell? ⟨gb434, 0, none⟩ = some (.int .i64 t424) ∧ w'.cell? ⟨gb434, 1, none⟩ = some (.slice Ao10 t425.length co10) ∧ w'.cell? ⟨gb434, 2, none⟩ = some (.int .i64 t428) ∧ w'.cell? ⟨gb434, 3, none⟩ = some (.bool t429)) (ds := []) #[false, false, false, false, false, false, false, false, false, false, false, false, false, false, false, false, false, false, false, false, false, false, false, false, false, false, false, false] (by kernel_rfl) rfl rfl ⟨(blk_cell BK434.out 0).trans rfl, (blk_cell BK434.out 1).trans rfl, (blk_cell BK434.out 2).trans rfl, (blk_cell BK434.out 3).trans rfl⟩ (fun hHeld => ?_); refine with_tabW laws_FnDamage.tab5 laws_FnDamage.bits5 (fun HT_ HW_ => ?_)
      generalize w12.drew = w16 at HO427 HO433 BK434 HB hHeld ⊢
      refine pure_ (i := 1) (N := some 30) (v := ?_) (a' := ?_) #[false, true, false, false, false, false, false, false, false, false, false, false, false, false, false, false, false, false, false, false, false, false, false, false, false, false, false, false] rfl rfl (any_of HT_.out (by kernel_rfl)) (fun _ _ _ h => h) (Or.inl ⟨by rfl, ?_⟩) ?_ ?_
      rotate_left
      · intro w'
        go_simp
        (try (simp only [Instr.field]; simp only [underlying, hu27]; go_simp; simp only [asAgg]; go_simp))
        with_reducible rfl
      rotate_left
      · simp only [Act.put, List.setIfInBounds_toArray, List.set_cons_zero, List.set_cons_succ, i64_w, i32_w]
        rfl
      refine pure_ (i := 4) (N := some 33) (v := ?_) (a' := ?_) #[false, true, false, false, true, false, false, false, false, false, false, false, false, false, false, false, false, false, false, false, false, false, false, false, false, false, false, false] rfl rfl (any_of HT_.out (by kernel_rfl)) (fun _ _ _ h => h) (Or.inl ⟨by rfl, ?_⟩) ?_ ?_
      rotate_left
      · intro w'
        go_simp
        (try (simp only [Instr.field]; simp only [underlying, hu27]; go_simp; simp only [asAgg]; go_simp))
        with_reducible rfl
      rotate_left
      · simp only [Act.put, List.setIfInBounds_toArray, List.set_cons_zero, List.set_cons_succ, i64_w, i32_w]
        rfl
      refine take_ (i := 0) (N := some 29) (v := ?_) (a' := ?_) #[true, true, false, false, true, false, false, false, false, false, false, false, false, false, false, false, false, false, false, false, false, false, false, false, false, false, false, false] rfl rfl (take_ofW HT_.out HW_.out (by kernel_rfl)) (fun _ _ _ h => h) (Or.inl ⟨by rfl, ?_⟩) hHeld ?_ ?_
      rotate_left
      · rintro w' ⟨s0, s1, s2, s3⟩
        go_simp
        (try (simp only [Instr.field]; simp only [underlying, hu27]; go_simp; simp only [asAgg]; go_simp))
        with_reducible rfl
      rotate_left
      · simp only [Act.put, List.setIfInBounds_toArray, List.set_cons_zero, List.set_cons_succ, i64_w, i32_w]
        rfl
      refine take_ (i := 3) (N := some 32) (v := ?_) (a' := ?_) #[true, true, false, true, true, false, false, false, false, false, false, false, false, false, false, false, false, false, false, false, false, false, false, false, false, false, false, false] rfl rfl (take_ofW HT_.out HW_.out (by kernel_rfl)) (fun _ _ _ h => h) (Or.inl ⟨by rfl, ?_⟩) hHeld ?_ ?_
      rotate_left
      · rintro w' ⟨s0, s1, s2, s3⟩
        go_simp
        (try (simp only [Instr.field]; simp only [underlying, hu27]; go_simp; simp only [asAgg]; go_simp))
        with_reducible rfl
      rotate_left
      · simp only [Act.put, List.setIfInBounds_toArray, List.set_cons_zero, List.set_cons_succ, i64_w, i32_w]
        rfl
      refine one_ (i := 2) (N := some 31) #[true, true, true, true, true, false, false, false, false, false, false, false, false, false, false, false, false, false, false, false, false, false, false, false, false, false, false, false] rfl rfl (one_of HT_.out (by kernel_rfl)) (by decide) (fun K hK => ?_)
      refine goes_ Try.func23 (by kernel_rfl) rfl #[.agg #[.int .i64 t424, .slice Ao10 t425.length co10, .int .i64 t428, .bool t429], .int .i64 t430] (by rfl) rfl rfl mp_ ?_
      with_reducible refine (impl_CountIn.calls k t424 _ _ t425 t428 t429 t430 t436 _ ?side1 ?side2 A13.out).mono ?_
      (case side1 => exact pc_ ((Kd.R_reads' HO427.out).2.2))
      (case side2 => exact (Kd.R_reads' HO427.out).2.1)
      rintro e w17 ⟨rfl, hb⟩
      refine ⟨_, rfl, ?_⟩
      have n0_ := Aside0.mk (Kd.R_below (pr_ HO427.out) hb)
      have n1_ := Aside0.mk (Kd.R_below (pr_ HO433.out) hb)
      have n2_ := Aside0.mk (bb_ BK434.out hb)
      have n3_ := Aside0.mk (below_step (pb1_ HB.out GE434.out) hb)
      clear HO427
      clear HO433
      clear BK434
      clear HB
      have HO427 := n0_
      have HO433 := n1_
      have BK434 := n2_
      have HB := n3_
      clear n0_ n1_ n2_ n3_
      (try clear hb)
      (try clear hb2)
      (try clear hk)
      (try clear hi)
      refine hK.out _ _ ⟨(blk_cell BK434.out 0).trans rfl, (blk_cell BK434.out 1).trans rfl, (blk_cell BK434.out 2).trans rfl, (blk_cell BK434.out 3).trans rfl⟩ (fun hHeld => ?_)
      clear hK K
      refine norm_ (a' := ?_) ?_ ?_
      rotate_left
      · show Act.put _ (some 31) _ = _
        simp only [Act.put, List.setIfInBounds_toArray, List.set_cons_zero, List.set_cons_succ, i64_w, i32_w]
        rfl
      refine one_ (i := 5) (N := some 34) #[true, true, true, true, true, true, false, false, false, false, false, false, false, false, false, false, false, false, false, false, false, false, false, false, false, false, false, false] rfl rfl (one_of HT_.out (by kernel_rfl)) (by decide) (fun K hK => ?_)
      refine goes_ Try.func22 (by kernel_rfl) rfl #[.agg #[.int .i64 t424, .slice Ao10 t425.length co10, .int .i64 t428, .bool t429], .int .i64 t430] (by rfl) rfl rfl mp_ ?_
      with_reducible refine (spec_CountIn.calls k t424 _ _ t425 t428 t429 t430 t437 _ ?side1 ?side2 A14.out).mono ?_
      (case side1 => exact pc_ ((Kd.R_reads' HO427.out).2.2))
      (case side2 => exact (Kd.R_reads' HO427.out).2.1)
      rintro e w18 ⟨rfl, hb⟩
      refine ⟨_, rfl, ?_⟩
      have n0_ := Aside0.mk (Kd.R_below (pr_ HO427.out) hb)
      have n1_ := Aside0.mk (Kd.R_below (pr_ HO433.out) hb)
      have n2_ := Aside0.mk (bb_ BK434.out hb)
      have n3_ := Aside0.mk (below_step (pb1_ HB.out GE434.out) hb)
      clear HO427
      clear HO433
      clear BK434
      clear HB
      have HO427 := n0_
      have HO433 := n1_
      have BK434 := n2_
      have HB := n3_
      clear n0_ n1_ n2_ n3_
      (try clear hb)
      (try clear hb2)
      (try clear hk)
      (try clear hi)
      refine hK.out _ _ ⟨(blk_cell BK434.out 0).trans rfl, (blk_cell BK434.out 1).trans rfl, (blk_cell BK434.out 2).trans rfl, (blk_cell BK434.out 3).trans rfl⟩ (fun hHeld => ?_)
      clear hK K
      refine norm_ (a' := ?_) ?_ ?_
      rotate_left
      · show Act.put _ (some 34) _ = _
        simp only [Act.put, List.setIfInBounds_toArray, List.set_cons_zero, List.set_cons_succ, i64_w, i32_w]
        rfl
      refine pure_ (i := 6) (N := some 35) (v := ?_) (a' := ?_) #[true, true, true, true, true, true, true, false, false, false, false, false, false, false, false, false, false, false, false, false, false, false, false, false, false, false, false, false] rfl rfl (any_of HT_.out (by kernel_rfl)) (fun _ _ _ h => h) (Or.inl ⟨by rfl, ?_⟩) ?_ ?_
      rotate_left
      · intro w'
        go_simp
        (try (simp only [Instr.field]; simp only [underlying, hu27]; go_simp; simp only [asAgg]; go_simp))
        with_reducible rfl
      rotate_left
      · simp only [Act.put, List.setIfInBounds_toArray, List.set_cons_zero, List.set_cons_succ, i64_w, i32_w]
        rfl
      refine pure_ (i := 7) (N := some 36) (v := ?_) (a' := ?_) #[true, true, true, true, true, true, true, true, false, false, false, false, false, false, false, false, false, false, false, false, false, false, false, false, false, false, false, false] rfl rfl (any_of HT_.out (by kernel_rfl)) (fun _ _ _ h => h) (Or.inl ⟨by rfl, ?_⟩) ?_ ?_
      rotate_left
      · intro w'
        go_simp
        (try (simp only [Instr.field]; simp only [underlying, hu27]; go_simp; simp only [asAgg]; go_simp))
        with_reducible rfl
      rotate_left
      · simp only [Act.put, List.setIfInBounds_toArray, List.set_cons_zero, List.set_cons_succ, i64_w, i32_w]
        rfl
      refine pure_ (i := 8) (N := some 37) (v := undef) (a' := ?_) #[true, true, true, true, true, true, true, true, true, false, false, false, false, false, false, false, false, false, false, false, false, false, false, false, false, false, false, false] rfl rfl (any_of HT_.out (by kernel_rfl)) (fun _ _ _ h => h) (Or.inr ⟨by rfl, rfl⟩) ?_ ?_
      rotate_left
      · simp only [Act.put, List.setIfInBounds_toArray, List.set_cons_zero, List.set_cons_succ, i64_w, i32_w]
        rfl
      refine pure_ (i := 9) (N := some 38) (v := undef) (a' := ?_) #[true, true, true, true, true, true, true, true, true, true, false, false, false, false, false, false, false, false, false, false, false, false, false, false, false, false, false, false] rfl rfl (any_of HT_.out (by kernel_rfl)) (fun _ _ _ h => h) (Or.inr ⟨by rfl, rfl⟩) ?_ ?_
      rotate_left
      · simp only [Act.put, List.setIfInBounds_toArray, List.set_cons_zero, List.set_cons_succ, i64_w, i32_w]
        rfl
      refine pure_ (i := 10) (N := some 39) (v := undef) (a' := ?_) #[true, true, true, true, true, true, true, true, true, true, true, false, false, false, false, false, false, false, false, false, false, false, false, false, false, false, false, false] rfl rfl (any_of HT_.out (by kernel_rfl)) (fun _ _ _ h => h) (Or.inr ⟨by rfl, rfl⟩) ?_ ?_
      rotate_left
      · simp only [Act.put, List.setIfInBounds_toArray, List.set_cons_zero, List.set_cons_succ, i64_w, i32_w]
        rfl
      refine pure_ (i := 11) (N := some 40) (v := undef) (a' := ?_) #[true, true, true, true, true, true, true, true, true, true, true, true, false, false, false, false, false, false, false, false, false, false, false, false, false, false, false, false] rfl rfl (any_of HT_.out (by kernel_rfl)) (fun _ _ _ h => h) (Or.inr ⟨by rfl, rfl⟩) ?_ ?_
      rotate_left
      · simp only [Act.put, List.setIfInBounds_toArray, List.set_cons_zero, List.set_cons_succ, i64_w, i32_w]
        rfl
      refine pure_ (i := 12) (N := some 41) (v := undef) (a' := ?_) #[true, true, true, true, true, true, true, true, true, true, true, true, true, false, false, false, false, false, false, false, false, false, false, false, false, false, false, false] rfl rfl (any_of HT_.out (by kernel_rfl)) (fun _ _ _ h => h) (Or.inr ⟨by rfl, rfl⟩) ?_ ?_
      rotate_left
      · simp only [Act.put, List.setIfInBounds_toArray, List.set_cons_zero, List.set_cons_succ, i64_w, i32_w]
        rfl
      refine pure_ (i := 13) (N := some 42) (v := ?_) (a' := ?_) #[true, true, true, true, true, true, true, true, true, true, true, true, true, true, false, false, false, false, false, false, false, false, false, false, false, false, false, false] rfl rfl (any_of HT_.out (by kernel_rfl)) (fun _ _ _ h => h) (Or.inl ⟨by rfl, ?_⟩) ?_ ?_
      rotate_left
      · intro w'
        go_simp
        (try (simp only [Instr.field]; simp only [underlying, hu27]; go_simp; simp only [asAgg]; go_simp))
        with_reducible rfl
      rotate_left
      · simp only [Act.put, List.setIfInBounds_toArray, List.set_cons_zero, List.set_cons_succ, i64_w, i32_w]
        rfl
      refine pure_ (i := 14) (N := some 43) (v := ?_) (a' := ?_) #[true, true, true, true, true, true, true, true, true, true, true, true, true, true, true, false, false, false, false, false, false, false, false, false, false, false, false, false] rfl rfl (any_of HT_.out (by kernel_rfl)) (fun _ _ _ h => h) (Or.inl ⟨by rfl, ?_⟩) ?_ ?_
      rotate_left
      · intro w'
        go_simp
        (try (simp only [Instr.field]; simp only [underlying, hu27]; go_simp; simp only [asAgg]; go_simp))
        with_reducible rfl
      rotate_left
      · simp only [Act.put, List.setIfInBounds_toArray, List.set_cons_zero, List.set_cons_succ, i64_w, i32_w]
        rfl
      refine pure_ (i := 15) (N := some 44) (v := undef) (a' := ?_) #[true, true, true, true, true, true, true, true, true, true, true, true, true, true, true, true, false, false, false, false, false, false, false, false, false, false, false, false] rfl rfl (any_of HT_.out (by kernel_rfl)) (fun _ _ _ h => h) (Or.inr ⟨by rfl, rfl⟩) ?_ ?_
      rotate_left
      · simp only [Act.put, List.setIfInBounds_toArray, List.set_cons_zero, List.set_cons_succ, i64_w, i32_w]
        rfl
      refine pure_ (i := 16) (N := some 45) (v := undef) (a' := ?_) #[true, true, true, true, true, true, true, true, true, true, true, true, true, true, true, true, true, false, false, false, false, false, false, false, false, false, false, false] rfl rfl (any_of HT_.out (by kernel_rfl)) (fun _ _ _ h => h) (Or.inr ⟨by rfl, rfl⟩) ?_ ?_
      rotate_left
      · simp only [Act.put, List.setIfInBounds_toArray, List.set_cons_zero, List.set_cons_succ, i64_w, i32_w]
        rfl
      refine pure_ (i := 17) (N := some 46) (v := undef) (a' := ?_) #[true, true, true, true, true, true, true, true, true, true, true, true, true, true, true, true, true, true, false, false, false, false, false, false, false, false, false, false] rfl rfl (any_of HT_.out (by kernel_rfl)) (fun _ _ _ h => h) (Or.inr ⟨by rfl, rfl⟩) ?_ ?_
      rotate_left
      · simp only [Act.put, List.setIfInBounds_toArray, List.set_cons_zero, List.set_cons_succ, i64_w, i32_w]
        rfl
      refine pure_ (i := 18) (N := some 47) (v := undef) (a' := ?_) #[true, true, true, true, true, true, true, true, true, true, true, true, true, true, true, true, true, true, true, false, false, false, false, false, false, false, false, false] rfl rfl (any_of HT_.out (by kernel_rfl)) (fun _ _ _ h => h) (Or.inr ⟨by rfl, rfl⟩) ?_ ?_
      rotate_left
      · simp only [Act.put, List.setIfInBounds_toArray, List.set_cons_zero, List.set_cons_succ, i64_w, i32_w]
        rfl
      refine pure_ (i := 19) (N := some 48) (v := undef) (a' := ?_) #[true, true, true, true, true, true, true, true, true, true, true, true, true, true, true, true, true, true, true, true, false, false, false, false, false, false, false, false] rfl rfl (any_of HT_.out (by kernel_rfl)) (fun _ _ _ h => h) (Or.inr ⟨by rfl, rfl⟩) ?_ ?_
      rotate_left
      · simp only [Act.put, List.setIfInBounds_toArray, List.set_cons_zero, List.set_cons_succ, i64_w, i32_w]
        rfl
      refine pure_ (i := 20) (N := some 49) (v := undef) (a' := ?_) #[true, true, true, true, true, true, true, true, true, true, true, true, true, true, true, true, true, true, true, true, true, false, false, false, false, false, false, false] rfl rfl (any_of HT_.out (by kernel_rfl)) (fun _ _ _ h => h) (Or.inr ⟨by rfl, rfl⟩) ?_ ?_
      rotate_left
      · simp only [Act.put, List.setIfInBounds_toArray, List.set_cons_zero, List.set_cons_succ, i64_w, i32_w]
        rfl
      refine pure_ (i := 21) (N := some 50) (v := undef) (a' := ?_) #[true, true, true, true, true, true, true, true, true, true, true, true, true, true, true, true, true, true, true, true, true, true, false, false, false, false, false, false] rfl rfl (any_of HT_.out (by kernel_rfl)) (fun _ _ _ h => h) (Or.inr ⟨by rfl, rfl⟩) ?_ ?_
      rotate_left
      · simp only [Act.put, List.setIfInBounds_toArray, List.set_cons_zero, List.set_cons_succ, i64_w, i32_w]
        rfl
      refine pure_ (i := 22) (N := some 51) (v := undef) (a' := ?_) #[true, true, true, true, true, true, true, true, true, true, true, true, true, true, true, true, true, true, true, true, true, true, true, false, false, false, false, false] rfl rfl (any_of HT_.out (by kernel_rfl)) (fun _ _ _ h => h) (Or.inr ⟨by rfl, rfl⟩) ?_ ?_
      rotate_left
      · simp only [Act.put, List.setIfInBounds_toArray, List.set_cons_zero, List.set_cons_succ, i64_w, i32_w]
        rfl
      refine pure_ (i := 23) (N := some 52) (v := undef) (a' := ?_) #[true, true, true, true, true, true, true, true, true, true, true, true, true, true, true, true, true, true, true, true, true, true, true, true, false, false, false, false] rfl rfl (any_of HT_.out (by kernel_rfl)) (fun _ _ _ h => h) (Or.inr ⟨by rfl, rfl⟩) ?_ ?_
      rotate_left
      · simp only [Act.put, List.setIfInBounds_toArray, List.set_cons_zero, List.set_cons_succ, i64_w, i32_w]
        rfl
      refine pure_ (i := 24) (N := some 53) (v := undef) (a' := ?_) #[true, true, true, true, true, true, true, true, true, true, true, true, true, true, true, true, true, true, true, true, true, true, true, true, true, false, false, false] rfl rfl (any_of HT_.out (by kernel_rfl)) (fun _ _ _ h => h) (Or.inr ⟨by rfl, rfl⟩) ?_ ?_
      rotate_left
      · simp only [Act.put, List.setIfInBounds_toArray, List.set_cons_zero, List.set_cons_succ, i64_w, i32_w]
        rfl
      refine pure_ (i := 25) (N := some 54) (v := undef) (a' := ?_) #[true, true, true, true, true, true, true, true, true, true, true, true, true, true, true, true, true, true, true, true, true, true, true, true, true, true, false, false] rfl rfl (any_of HT_.out (by kernel_rfl)) (fun _ _ _ h => h) (Or.inr ⟨by rfl, rfl⟩) ?_ ?_
      rotate_left
      · simp only [Act.put, List.setIfInBounds_toArray, List.set_cons_zero, List.set_cons_succ, i64_w, i32_w]
        rfl
      refine pure_ (i := 26) (N := some 55) (v := undef) (a' := ?_) #[true, true, true, true, true, true, true, true, true, true, true, true, true, true, true, true, true, true, true, true, true, true, true, true, true, true, true, false] rfl rfl (any_of HT_.out (by kernel_rfl)) (fun _ _ _ h => h) (Or.inr ⟨by rfl, rfl⟩) ?_ ?_
      rotate_left
      · simp only [Act.put, List.setIfInBounds_toArray, List.set_cons_zero, List.set_cons_succ, i64_w, i32_w]
        rfl
      refine pure_ (i := 27) (N := some 56) (v := ?_) (a' := ?_) #[true, true, true, true, true, true, true, true, true, true, true, true, true, true, true, true, true, true, true, true, true, true, true, true, true, true, true, true] rfl rfl (any_of HT_.out (by kernel_rfl)) (fun _ _ _ h => h) (Or.inl ⟨by rfl, ?_⟩) ?_ ?_
      rotate_left
      · intro w'
        go_simp
        (try (simp only [Instr.field]; simp only [underlying, hu27]; go_simp; simp only [asAgg]; go_simp))
        with_reducible rfl
      rotate_left
      · simp only [Act.put, List.setIfInBounds_toArray, List.set_cons_zero, List.set_cons_succ, i64_w, i32_w]
        rfl
      refine done_ (done_of HT_.out (by kernel_rfl)) ?_
      try go_wp2
      go_meet
      case rel => exact ⟨_, (true), el_, H', ⟨by first | omega | exact Nat.le_refl _⟩, ⟨pr_ HO427.out⟩, ⟨pk_ BK434.out⟩, ⟨pb1_ HB.out GE434.out⟩⟩
    rw [if_pos c15] at H
    have c15b0 : (t436 == t437) = true := beq_iff_eq.mpr c15
    have c15b1 : (t436 != t437) = false := bne_eq_false_iff_eq.mpr c15
    clear c15
    (first | rw [c15b0] | (simp only [i64_w, i32_w]; rw [c15b0]) | rw [c15b1] | (have c_ := c15b1; rw [bne] at c_; rw [c_]; clear c_) | skip)
    replace H := Option.bind_eq_some_iff.mp H
    obtain ⟨t438, A190, H⟩ := H
    (try dsimp only at H)
    have A19 := Aside0.mk A190
    clear A190
    by_cases c20 : t435 > t438
    · rw [if_pos c20] at H
      have c20b0 : decide (t438 < t435) = true := decide_eq_true c20
      clear c20
      have H' := Aside0.mk H
      clear H
      try go_wp2
      have n0_ := Aside0.mk (Kd.R_drew HO427.out)
      have n1_ := Aside0.mk (Kd.R_drew HO433.out)
      have n2_ := Aside0.mk (blk_drew BK434.out)
      have n3_ := Aside0.mk (below_drew1 HB.out)
      clear HO427
      clear HO433
      clear BK434
      clear HB
      have HO427 := n0_
      have HO433 := n1_
      have BK434 := n2_
      have HB := n3_
      clear n0_ n1_ n2_ n3_
      refine start_ (n := 28) (S := fun w' => w'.cell? ⟨gb434, 0, none⟩ = some (.int .i64 t424) ∧ w'.cell? ⟨gb434, 1, none⟩ = some (.slice Ao10 t425.length co10) ∧ w'.cell? ⟨gb434, 2, none⟩ = some (.int .i64 t428) ∧ w'.cell? ⟨gb434, 3, none⟩ = some (.bool t429)) (ds := []) #[false, false, false, false, false, false, false, false, false, false, false, false, false, false, false, false, false, false, false, false, false, false, false, false, false, false, false, false] (by kernel_rfl) rfl rfl ⟨(blk_cell BK434.out 0).trans rfl, (blk_cell BK434.out 1).trans rfl, (blk_cell BK434.out 2).trans rfl, (blk_cell BK434.out 3).trans rfl⟩ (fun hHeld => ?_); refine with_tabW laws_FnDamage.tab5 laws_FnDamage.bits5 (fun HT_ HW_ => ?_)
      generalize w12.drew = w21 at HO427 HO433 BK434 HB hHeld ⊢
      refine pure_ (i := 1) (N := some 30) (v := ?_) (a' := ?_) #[false, true, false, false, false, false, false, false, false, false, false, false, false, false, false, false, false, false, false, false, false, false, false, false, false, false, false, false] rfl rfl (any_of HT_.out (by kernel_rfl)) (fun _ _ _ h => h) (Or.inl ⟨by rfl, ?_⟩) ?_ ?_
      rotate_left
      · intro w'
        go_simp
        (try (simp only [Instr.field]; simp only [underlying, hu27]; go_simp; simp only [asAgg]; go_simp))
        with_reducible rfl
      rotate_left
      · simp only [Act.put, List.setIfInBounds_toArray, List.set_cons_zero, List.set_cons_succ, i64_w, i32_w]
        rfl
      refine pure_ (i := 4) (N := some 33) (v := ?_) (a' := ?_) #[false, true, false, false, true, false, false, false, false, false, false, false, false, false, false, false, false, false, false, false, false, false, false, false, false, false, false, false] rfl rfl (any_of HT_.out (by kernel_rfl)) (fun _ _ _ h => h) (Or.inl ⟨by rfl, ?_⟩) ?_ ?_
      rotate_left
      · intro w'
        go_simp
        (try (simp only [Instr.field]; simp only [underlying, hu27]; go_simp; simp only [asAgg]; go_simp))
        with_reducible rfl
      rotate_left
      · simp only [Act.put, List.setIfInBounds_toArray, List.set_cons_zero, List.set_cons_succ, i64_w, i32_w]
        rfl
      refine take_ (i := 0) (N := some 29) (v := ?_) (a' := ?_) #[true, true, false, false, true, false, false, false, false, false, false, false, false, false, false, false, false, false, false, false, false, false, false, false, false, false, false, false] rfl rfl (take_ofW HT_.out HW_.out (by kernel_rfl)) (fun _ _ _ h => h) (Or.inl ⟨by rfl, ?_⟩) hHeld ?_ ?_
      rotate_left
      · rintro w' ⟨s0, s1, s2, s3⟩
        go_simp
        (try (simp only [Instr.field]; simp only [underlying, hu27]; go_simp; simp only [asAgg]; go_simp))
        with_reducible rfl
      rotate_left
      · simp only [Act.put, List.setIfInBounds_toArray, List.set_cons_zero, List.set_cons_succ, i64_w, i32_w]
        rfl
      refine take_ (i := 3) (N := some 32) (v := ?_) (a' := ?_) #[true, true, false, true, true, false, false, false, false, false, false, false, false, false, false, false, false, false, false, false, false, false, false, false, false, false, false, false] rfl rfl (take_ofW HT_.out HW_.out (by kernel_rfl)) (fun _ _ _ h => h) (Or.inl ⟨by rfl, ?_⟩) hHeld ?_ ?_
      rotate_left
      · rintro w' ⟨s0, s1, s2, s3⟩
        go_simp
        (try (simp only [Instr.field]; simp only [underlying, hu27]; go_simp; simp only [asAgg]; go_simp))
        with_reducible rfl
      rotate_left
      · simp only [Act.put, List.setIfInBounds_toArray, List.set_cons_zero, List.set_cons_succ, i64_w, i32_w]
        rfl
      refine one_ (i := 2) (N := some 31) #[true, true, true, true, true, false, false, false, false, false, false, false, false, false, false, false, false, false, false, false, false, false, false, false, false, false, false, false] rfl rfl (one_of HT_.out (by kernel_rfl)) (by decide) (fun K hK => ?_)
      refine goes_ Try.func23 (by kernel_rfl) rfl #[.agg #[.int .i64 t424, .slice Ao10 t425.length co10, .int .i64 t428, .bool t429], .int .i64 t430] (by rfl) rfl rfl mp_ ?_
      with_reducible refine (impl_CountIn.calls k t424 _ _ t425 t428 t429 t430 t436 _ ?side1 ?side2 A13.out).mono ?_
      (case side1 => exact pc_ ((Kd.R_reads' HO427.out).2.2))
      (case side2 => exact (Kd.R_reads' HO427.out).2.1)
      rintro e w22 ⟨rfl, hb⟩
      refine ⟨_, rfl, ?_⟩
      have n0_ := Aside0.mk (Kd.R_below (pr_ HO427.out) hb)
      have n1_ := Aside0.mk (Kd.R_below (pr_ HO433.out) hb)
      have n2_ := Aside0.mk (bb_ BK434.out hb)
      have n3_ := Aside0.mk (below_step (pb1_ HB.out GE434.out) hb)
      clear HO427
      clear HO433
      clear BK434
      clear HB
      have HO427 := n0_
      have HO433 := n1_
      have BK434 := n2_
      have HB := n3_
      clear n0_ n1_ n2_ n3_
      (try clear hb)
      (try clear hb2)
      (try clear hk)
      (try clear hi)
      refine hK.out _ _ ⟨(blk_cell BK434.out 0).trans rfl, (blk_cell BK434.out 1).trans rfl, (blk_cell BK434.out 2).trans rfl, (blk_cell BK434.out 3).trans rfl⟩ (fun hHeld => ?_)
      clear hK K
      refine norm_ (a' := ?_) ?_ ?_
      rotate_left
      · show Act.put _ (some 31) _ = _
        simp only [Act.put, List.setIfInBounds_toArray, List.set_cons_zero, List.set_cons_succ, i64_w, i32_w]
        rfl
      refine one_ (i := 5) (N := some 34) #[true, true, true, true, true, true, false, false, false, false, false, false, false, false, false, false, false, false, false, false, false, false, false, false, false, false, false, false] rfl rfl (one_of HT_.out (by kernel_rfl)) (by decide) (fun K hK => ?_)
      refine goes_ Try.func22 (by kernel_rfl) rfl #[.agg #[.int .i64 t424, .slice Ao10 t425.length co10, .int .i64 t428, .bool t429], .int .i64 t430] (by rfl) rfl rfl mp_ ?_
      with_reducible refine (spec_CountIn.calls k t424 _ _ t425 t428 t429 t430 t437 _ ?side1 ?side2 A14.out).mono ?_
      (case side1 => exact pc_ ((Kd.R_reads' HO427.out).2.2))
      (case side2 => exact (Kd.R_reads' HO427.out).2.1)
      rintro e w23 ⟨rfl, hb⟩
      refine ⟨_, rfl, ?_⟩
      have n0_ := Aside0.mk (Kd.R_below (pr_ HO427.out) hb)
      have n1_ := Aside0.mk (Kd.R_below (pr_ HO433.out) hb)
      have n2_ := Aside0.mk (bb_ BK434.out hb)
      have n3_ := Aside0.mk (below_step (pb1_ HB.out GE434.out) hb)
      clear HO427
      clear HO433
      clear BK434
      clear HB
      have HO427 := n0_
      have HO433 := n1_
      have BK434 := n2_
      have HB := n3_
      clear n0_ n1_ n2_ n3_
      (try clear hb)
      (try clear hb2)
      (try clear hk)
      (try clear hi)
      refine hK.out _ _ ⟨(blk_cell BK434.out 0).trans rfl, (blk_cell BK434.out 1).trans rfl, (blk_cell BK434.out 2).trans rfl, (blk_cell BK434.out 3).trans rfl⟩ (fun hHeld => ?_)
      clear hK K
      refine norm_ (a' := ?_) ?_ ?_
      rotate_left
      · show Act.put _ (some 34) _ = _
        simp only [Act.put, List.setIfInBounds_toArray, List.set_cons_zero, List.set_cons_succ, i64_w, i32_w]
        rfl
      refine pure_ (i := 6) (N := some 35) (v := ?_) (a' := ?_) #[true, true, true, true, true, true, true, false, false, false, false, false, false, false, false, false, false, false, false, false, false, false, false, false, false, false, false, false] rfl rfl (any_of HT_.out (by kernel_rfl)) (fun _ _ _ h => h) (Or.inl ⟨by rfl, ?_⟩) ?_ ?_
      rotate_left
      · intro w'
        go_simp
        (try (simp only [Instr.field]; simp only [underlying, hu27]; go_simp; simp only [asAgg]; go_simp))
        with_reducible rfl
      rotate_left
      · simp only [Act.put, List.setIfInBounds_toArray, List.set_cons_zero, List.set_cons_succ, i64_w, i32_w]
        rfl
      refine pure_ (i := 7) (N := some 36) (v := ?_) (a' := ?_) #[true, true, true, true, true, true, true, true, false, false, false, false, false, false, false, false, false, false, false, false, false, false, false, false, false, false, false, false] rfl rfl (any_of HT_.out (by kernel_rfl)) (fun _ _ _ h => h) (Or.inl ⟨by rfl, ?_⟩) ?_ ?_
      rotate_left
      · intro w'
        go_simp
        (try (simp only [Instr.field]; simp only [underlying, hu27]; go_simp; simp only [asAgg]; go_simp))
        with_reducible rfl
      rotate_left
      · simp only [Act.put, List.setIfInBounds_toArray, List.set_cons_zero, List.set_cons_succ, i64_w, i32_w]
        rfl
      refine pure_ (i := 8) (N := some 37) (v := ?_) (a' := ?_) #[true, true, true, true, true, true, true, true, true, false, false, false, false, false, false, false, false, false, false, false, false, false, false, false, false, false, false, false] rfl rfl (any_of HT_.out (by kernel_rfl)) (fun _ _ _ h => h) (Or.inl ⟨by rfl, ?_⟩) ?_ ?_
      rotate_left
      · intro w'
        go_simp
        (try (simp only [Instr.field]; simp only [underlying, hu27]; go_simp; simp only [asAgg]; go_simp))
        with_reducible rfl
      rotate_left
      · simp only [Act.put, List.setIfInBounds_toArray, List.set_cons_zero, List.set_cons_succ, i64_w, i32_w]
        rfl
      refine pure_ (i := 10) (N := some 39) (v := ?_) (a' := ?_) #[true, true, true, true, true, true, true, true, true, false, true, false, false, false, false, false, false, false, false, false, false, false, false, false, false, false, false, false] rfl rfl (any_of HT_.out (by kernel_rfl)) (fun _ _ _ h => h) (Or.inl ⟨by rfl, ?_⟩) ?_ ?_
      rotate_left
      · intro w'
        go_simp
        (try (simp only [Instr.field]; simp only [underlying, hu27]; go_simp; simp only [asAgg]; go_simp))
        with_reducible rfl
      rotate_left
      · simp only [Act.put, List.setIfInBounds_toArray, List.set_cons_zero, List.set_cons_succ, i64_w, i32_w]
        rfl
      refine take_ (i := 9) (N := some 38) (v := ?_) (a' := ?_) #[true, true, true, true, true, true, true, true, true, true, true, false, false, false, false, false, false, false, false, false, false, false, false, false, false, false, false, false] rfl rfl (take_ofW HT_.out HW_.out (by kernel_rfl)) (fun _ _ _ h => h) (Or.inl ⟨by rfl, ?_⟩) hHeld ?_ ?_
      rotate_left
      · rintro w' ⟨s0, s1, s2, s3⟩
        go_simp
        (try (simp only [Instr.field]; simp only [underlying, hu27]; go_simp; simp only [asAgg]; go_simp))
        with_reducible rfl
      rotate_left
      · simp only [Act.put, List.setIfInBounds_toArray, List.set_cons_zero, List.set_cons_succ, i64_w, i32_w]
        rfl
      refine one_ (i := 11) (N := some 40) #[true, true, true, true, true, true, true, true, true, true, true, true, false, false, false, false, false, false, false, false, false, false, false, false, false, false, false, false] rfl rfl (one_of HT_.out (by kernel_rfl)) (by decide) (fun K hK => ?_)
      refine goes_ Try.func23 (by kernel_rfl) rfl #[.agg #[.int .i64 t424, .slice Ao10 t425.length co10, .int .i64 t428, .bool t429], .int .i64 t430] (by rfl) rfl rfl mp_ ?_
      with_reducible refine (impl_CountIn.calls k t424 _ _ t425 t428 t429 t430 t438 _ ?side1 ?side2 A19.out).mono ?_
      (case side1 => exact pc_ ((Kd.R_reads' HO427.out).2.2))
      (case side2 => exact (Kd.R_reads' HO427.out).2.1)
      rintro e w24 ⟨rfl, hb⟩
      refine ⟨_, rfl, ?_⟩
      have n0_ := Aside0.mk (Kd.R_below (pr_ HO427.out) hb)
      have n1_ := Aside0.mk (Kd.R_below (pr_ HO433.out) hb)
      have n2_ := Aside0.mk (bb_ BK434.out hb)
      have n3_ := Aside0.mk (below_step (pb1_ HB.out GE434.out) hb)
      clear HO427
      clear HO433
      clear BK434
      clear HB
      have HO427 := n0_
      have HO433 := n1_
      have BK434 := n2_
      have HB := n3_
      clear n0_ n1_ n2_ n3_
      (try clear hb)
      (try clear hb2)
      (try clear hk)
      (try clear hi)
      refine hK.out _ _ ⟨(blk_cell BK434.out 0).trans rfl, (blk_cell BK434.out 1).trans rfl, (blk_cell BK434.out 2).trans rfl, (blk_cell BK434.out 3).trans rfl⟩ (fun hHeld => ?_)
      clear hK K
      refine norm_ (a' := ?_) ?_ ?_
      rotate_left
      · show Act.put _ (some 40) _ = _
        simp only [Act.put, List.setIfInBounds_toArray, List.set_cons_zero, List.set_cons_succ, i64_w, i32_w]
        rfl
      refine pure_ (i := 12) (N := some 41) (v := ?_) (a' := ?_) #[true, true, true, true, true, true, true, true, true, true, true, true, true, false, false, false, false, false, false, false, false, false, false, false, false, false, false, false] rfl rfl (any_of HT_.out (by kernel_rfl)) (fun _ _ _ h => h) (Or.inl ⟨by rfl, ?_⟩) ?_ ?_
      rotate_left
      · intro w'
        go_simp
        (try (simp only [Instr.field]; simp only [underlying, hu27]; go_simp; simp only [asAgg]; go_simp))
        with_reducible rfl
      rotate_left
      · simp only [Act.put, List.setIfInBounds_toArray, List.set_cons_zero, List.set_cons_succ, i64_w, i32_w]
        rfl
      refine pure_ (i := 13) (N := some 42) (v := ?_) (a' := ?_) #[true, true, true, true, true, true, true, true, true, true, true, true, true, true, false, false, false, false, false, false, false, false, false, false, false, false, false, false] rfl rfl (any_of HT_.out (by kernel_rfl)) (fun _ _ _ h => h) (Or.inl ⟨by rfl, ?_⟩) ?_ ?_
      rotate_left
      · intro w'
        go_simp
        (try (simp only [Instr.field]; simp only [underlying, hu27]; go_simp; simp only [asAgg]; go_simp))
        with_reducible rfl
      rotate_left
      · simp only [Act.put, List.setIfInBounds_toArray, List.set_cons_zero, List.set_cons_succ, i64_w, i32_w]
        rfl
      refine pure_ (i := 14) (N := some 43) (v := ?_) (a' := ?_) #[true, true, true, true, true, true, true, true, true, true, true, true, true, true, true, false, false, false, false, false, false, false, false, false, false, false, false, false] rfl rfl (any_of HT_.out (by kernel_rfl)) (fun _ _ _ h => h) (Or.inl ⟨by rfl, ?_⟩) ?_ ?_
      rotate_left
      · intro w'
        go_simp
        (try (simp only [Instr.field]; simp only [underlying, hu27]; go_simp; simp only [asAgg]; go_simp))
        with_reducible rfl
      rotate_left
      · simp only [Act.put, List.setIfInBounds_toArray, List.set_cons_zero, List.set_cons_succ, i64_w, i32_w]
        rfl
      refine pure_ (i := 15) (N := some 44) (v := undef) (a' := ?_) #[true, true, true, true, true, true, true, true, true, true, true, true, true, true, true, true, false, false, false, false, false, false, false, false, false, false, false, false] rfl rfl (any_of HT_.out (by kernel_rfl)) (fun _ _ _ h => h) (Or.inr ⟨by rfl, rfl⟩) ?_ ?_
      rotate_left
      · simp only [Act.put, List.setIfInBounds_toArray, List.set_cons_zero, List.set_cons_succ, i64_w, i32_w]
        rfl
      refine pure_ (i := 16) (N := some 45) (v := undef) (a' := ?_) #[true, true, true, true, true, true, true, true, true, true, true, true, true, true, true, true, true, false, false, false, false, false, false, false, false, false, false, false] rfl rfl (any_of HT_.out (by kernel_rfl)) (fun _ _ _ h => h) (Or.inr ⟨by rfl, rfl⟩) ?_ ?_
      rotate_left
      · simp only [Act.put, List.setIfInBounds_toArray, List.set_cons_zero, List.set_cons_succ, i64_w, i32_w]
        rfl
      refine pure_ (i := 17) (N := some 46) (v := undef) (a' := ?_) #[true, true, true, true, true, true, true, true, true, true, true, true, true, true, true, true, true, true, false, false, false, false, false, false, false, false, false, false] rfl rfl (any_of HT_.out (by kernel_rfl)) (fun _ _ _ h => h) (Or.inr ⟨by rfl, rfl⟩) ?_ ?_
      rotate_left
      · simp only [Act.put, List.setIfInBounds_toArray, List.set_cons_zero, List.set_cons_succ, i64_w, i32_w]
        rfl
      refine pure_ (i := 18) (N := some 47) (v := undef) (a' := ?_) #[true, true, true, true, true, true, true, true, true, true, true, true, true, true, true, true, true, true, true, false, false, false, false, false, false, false, false, false] rfl rfl (any_of HT_.out (by kernel_rfl)) (fun _ _ _ h => h) (Or.inr ⟨by rfl, rfl⟩) ?_ ?_
      rotate_left
      · simp only [Act.put, List.setIfInBounds_toArray, List.set_cons_zero, List.set_cons_succ, i64_w, i32_w]
        rfl
      refine pure_ (i := 19) (N := some 48) (v := undef) (a' := ?_) #[true, true, true, true, true, true, true, true, true, true, true, true, true, true, true, true, true, true, true, true, false, false, false, false, false, false, false, false] rfl rfl (any_of HT_.out (by kernel_rfl)) (fun _ _ _ h => h) (Or.inr ⟨by rfl, rfl⟩) ?_ ?_
      rotate_left
      · simp only [Act.put, List.setIfInBounds_toArray, List.set_cons_zero, List.set_cons_succ, i64_w, i32_w]
        rfl
      refine pure_ (i := 20) (N := some 49) (v := undef) (a' := ?_) #[true, true, true, true, true, true, true, true, true, true, true, true, true, true, true, true, true, true, true, true, true, false, false, false, false, false, false, false] rfl rfl (any_of HT_.out (by kernel_rfl)) (fun _ _ _ h => h) (Or.inr ⟨by rfl, rfl⟩) ?_ ?_
      rotate_left
      · simp only [Act.put, List.setIfInBounds_toArray, List.set_cons_zero, List.set_cons_succ, i64_w, i32_w]
        rfl
      refine pure_ (i := 21) (N := some 50) (v := undef) (a' := ?_) #[true, true, true, true, true, true, true, true, true, true, true, true, true, true, true, true, true, true, true, true, true, true, false, false, false, false, false, false] rfl rfl (any_of HT_.out (by kernel_rfl)) (fun _ _ _ h => h) (Or.inr ⟨by rfl, rfl⟩) ?_ ?_
      rotate_left
      · simp only [Act.put, List.setIfInBounds_toArray, List.set_cons_zero, List.set_cons_succ, i64_w, i32_w]
        rfl
      refine pure_ (i := 22) (N := some 51) (v := undef) (a' := ?_) #[true, true, true, true, true, true, true, true, true, true, true, true, true, true, true, true, true, true, true, true, true, true, true, false, false, false, false, false] rfl rfl (any_of HT_.out (by kernel_rfl)) (fun _ _ _ h => h) (Or.inr ⟨by rfl, rfl⟩) ?_ ?_
      rotate_left
      · simp only [Act.put, List.setIfInBounds_toArray, List.set_cons_zero, List.set_cons_succ, i64_w, i32_w]
        rfl
      refine pure_ (i := 23) (N := some 52) (v := undef) (a' := ?_) #[true, true, true, true, true, true, true, true, true, true, true, true, true, true, true, true, true, true, true, true, true, true, true, true, false, false, false, false] rfl rfl (any_of HT_.out (by kernel_rfl)) (fun _ _ _ h => h) (Or.inr ⟨by rfl, rfl⟩) ?_ ?_
      rotate_left
      · simp only [Act.put, List.setIfInBounds_toArray, List.set_cons_zero, List.set_cons_succ, i64_w, i32_w]
        rfl
      refine pure_ (i := 24) (N := some 53) (v := undef) (a' := ?_) #[true, true, true, true, true, true, true, true, true, true, true, true, true, true, true, true, true, true, true, true, true, true, true, true, true, false, false, false] rfl rfl (any_of HT_.out (by kernel_rfl)) (fun _ _ _ h => h) (Or.inr ⟨by rfl, rfl⟩) ?_ ?_
      rotate_left
      · simp only [Act.put, List.setIfInBounds_toArray, List.set_cons_zero, List.set_cons_succ, i64_w, i32_w]
        rfl
      refine pure_ (i := 25) (N := some 54) (v := undef) (a' := ?_) #[true, true, true, true, true, true, true, true, true, true, true, true, true, true, true, true, true, true, true, true, true, true, true, true, true, true, false, false] rfl rfl (any_of HT_.out (by kernel_rfl)) (fun _ _ _ h => h) (Or.inr ⟨by rfl, rfl⟩) ?_ ?_
      rotate_left
      · simp only [Act.put, List.setIfInBounds_toArray, List.set_cons_zero, List.set_cons_succ, i64_w, i32_w]
        rfl
      refine pure_ (i := 26) (N := some 55) (v := undef) (a' := ?_) #[true, true, true, true, true, true, true, true, true, true, true, true, true, true, true, true, true, true, true, true, true, true, true, true, true, true, true, false] rfl rfl (any_of HT_.out (by kernel_rfl)) (fun _ _ _ h => h) (Or.inr ⟨by rfl, rfl⟩) ?_ ?_
      rotate_left
      · simp only [Act.put, List.setIfInBounds_toArray, List.set_cons_zero, List.set_cons_succ, i64_w, i32_w]
        rfl
      refine pure_ (i := 27) (N := some 56) (v := ?_) (a' := ?_) #[true, true, true, true, true, true, true, true, true, true, true, true, true, true, true, true, true, true, true, true, true, true, true, true, true, true, true, true] rfl rfl (any_of HT_.out (by kernel_rfl)) (fun _ _ _ h => h) (Or.inl ⟨by rfl, ?_⟩) ?_ ?_
      rotate_left
      · intro w'
        go_simp
        (try (simp only [Instr.field]; simp only [underlying, hu27]; go_simp; simp only [asAgg]; go_simp))
        with_reducible rfl
      rotate_left
      · simp only [Act.put, List.setIfInBounds_toArray, List.set_cons_zero, List.set_cons_succ, i64_w, i32_w]
        rfl
      refine done_ (done_of HT_.out (by kernel_rfl)) ?_
      try go_wp2
      go_meet
      case rel => exact ⟨_, (true), el_, H', ⟨by first | omega | exact Nat.le_refl _⟩, ⟨pr_ HO427.out⟩, ⟨pk_ BK434.out⟩, ⟨pb1_ HB.out GE434.out⟩⟩
    rw [if_neg c20] at H
    have c20b0 : decide (t438 < t435) = false := decide_eq_false c20
    clear c20
    replace H := Option.bind_eq_some_iff.mp H
    obtain ⟨t439, A250, H⟩ := H
    (try dsimp only at H)
    have A25 := Aside0.mk A250
    clear A250
    by_cases c26 : t439 = true
    rotate_left
    · replace c26 := Bool.eq_false_iff.mpr c26
      subst c26
      rw [if_neg (show ¬ (false = true) by decide)] at H
      have H' := Aside0.mk H
      clear H
      try go_wp2
      have n0_ := Aside0.mk (Kd.R_drew HO427.out)
      have n1_ := Aside0.mk (Kd.R_drew HO433.out)
      have n2_ := Aside0.mk (blk_drew BK434.out)
      have n3_ := Aside0.mk (below_drew1 HB.out)
      clear HO427
      clear HO433
      clear BK434
      clear HB
      have HO427 := n0_
      have HO433 := n1_
      have BK434 := n2_
      have HB := n3_
      clear n0_ n1_ n2_ n3_
      refine start_ (n := 28) (S := fun w' => w'.cell? ⟨gb434, 0, none⟩ = some (.int .i64 t424) ∧ w'.cell? ⟨gb434, 1, none⟩ = some (.slice Ao10 t425.length co10) ∧ w'.cell? ⟨gb434, 2, none⟩ = some (.int .i64 t428) ∧ w'.cell? ⟨gb434, 3, none⟩ = some (.bool t429)) (ds := []) #[false, false, false, false, false, false, false, false, false, false, false, false, false, false, false, false, false, false, false, false, false, false, false, false, false, false, false, false] (by kernel_rfl) rfl rfl ⟨(blk_cell BK434.out 0).trans rfl, (blk_cell BK434.out 1).trans rfl, (blk_cell BK434.out 2).trans rfl, (blk_cell BK434.out 3).trans rfl⟩ (fun hHeld => ?_); refine with_tabW laws_FnDamage.tab5 laws_FnDamage.bits5 (fun HT_ HW_ => ?_)
      generalize w12.drew = w27 at HO427 HO433 BK434 HB hHeld ⊢
      refine pure_ (i := 1) (N := some 30) (v := ?_) (a' := ?_) #[false, true, false, false, false, false, false, false, false, false, false, false, false, false, false, false, false, false, false, false, false, false, false, false, false, false, false, false] rfl rfl (any_of HT_.out (by kernel_rfl)) (fun _ _ _ h => h) (Or.inl ⟨by rfl, ?_⟩) ?_ ?_
      rotate_left
      · intro w'
        go_simp
        (try (simp only [Instr.field]; simp only [underlying, hu27]; go_simp; simp only [asAgg]; go_simp))
        with_reducible rfl
      rotate_left
      · simp only [Act.put, List.setIfInBounds_toArray, List.set_cons_zero, List.set_cons_succ, i64_w, i32_w]
        rfl
      refine pure_ (i := 4) (N := some 33) (v := ?_) (a' := ?_) #[false, true, false, false, true, false, false, false, false, false, false, false, false, false, false, false, false, false, false, false, false, false, false, false, false, false, false, false] rfl rfl (any_of HT_.out (by kernel_rfl)) (fun _ _ _ h => h) (Or.inl ⟨by rfl, ?_⟩) ?_ ?_
      rotate_left
      · intro w'
        go_simp
        (try (simp only [Instr.field]; simp only [underlying, hu27]; go_simp; simp only [asAgg]; go_simp))
        with_reducible rfl
      rotate_left
      · simp only [Act.put, List.setIfInBounds_toArray, List.set_cons_zero, List.set_cons_succ, i64_w, i32_w]
        rfl
      refine take_ (i := 0) (N := some 29) (v := ?_) (a' := ?_) #[true, true, false, false, true, false, false, false, false, false, false, false, false, false, false, false, false, false, false, false, false, false, false, false, false, false, false, false] rfl rfl (take_ofW HT_.out HW_.out (by kernel_rfl)) (fun _ _ _ h => h) (Or.inl ⟨by rfl, ?_⟩) hHeld ?_ ?_
      rotate_left
      · rintro w' ⟨s0, s1, s2, s3⟩
        go_simp
        (try (simp only [Instr.field]; simp only [underlying, hu27]; go_simp; simp only [asAgg]; go_simp))
        with_reducible rfl
      rotate_left
      · simp only [Act.put, List.setIfInBounds_toArray, List.set_cons_zero, List.set_cons_succ, i64_w, i32_w]
        rfl
      refine take_ (i := 3) (N := some 32) (v := ?_) (a' := ?_) #[true, true, false, true, true, false, false, false, false, false, false, false, false, false, false, false, false, false, false, false, false, false, false, false, false, false, false, false] rfl rfl (take_ofW HT_.out HW_.out (by kernel_rfl)) (fun _ _ _ h => h) (Or.inl ⟨by rfl, ?_⟩) hHeld ?_ ?_
      rotate_left
      · rintro w' ⟨s0, s1, s2, s3⟩
        go_simp
        (try (simp only [Instr.field]; simp only [underlying, hu27]; go_simp; simp only [asAgg]; go_simp))
        with_reducible rfl
      rotate_left
      · simp only [Act.put, List.setIfInBounds_toArray, List.set_cons_zero, List.set_cons_succ, i64_w, i32_w]
        rfl
      refine one_ (i := 2) (N := some 31) #[true, true, true, true, true, false, false, false, false, false, false, false, false, false, false, false, false, false, false, false, false, false, false, false, false, false, false, false] rfl rfl (one_of HT_.out (by kernel_rfl)) (by decide) (fun K hK => ?_)
      refine goes_ Try.func23 (by kernel_rfl) rfl #[.agg #[.int .i64 t424, .slice Ao10 t425.length co10, .int .i64 t428, .bool t429], .int .i64 t430] (by rfl) rfl rfl mp_ ?_
      with_reducible refine (impl_CountIn.calls k t424 _ _ t425 t428 t429 t430 t436 _ ?side1 ?side2 A13.out).mono ?_
      (case side1 => exact pc_ ((Kd.R_reads' HO427.out).2.2))
      (case side2 => exact (Kd.R_reads' HO427.out).2.1)
      rintro e w28 ⟨rfl, hb⟩
      refine ⟨_, rfl, ?_⟩
      have n0_ := Aside0.mk (Kd.R_below (pr_ HO427.out) hb)
      have n1_ := Aside0.mk (Kd.R_below (pr_ HO433.out) hb)
      have n2_ := Aside0.mk (bb_ BK434.out hb)
      have n3_ := Aside0.mk (below_step (pb1_ HB.out GE434.out) hb)
      clear HO427
      clear HO433
      clear BK434
      clear HB
      have HO427 := n0_
      have HO433 := n1_
      have BK434 := n2_
      have HB := n3_
      clear n0_ n1_ n2_ n3_
      (try clear hb)
      (try clear hb2)
      (try clear hk)
      (try clear hi)
      refine hK.out _ _ ⟨(blk_cell BK434.out 0).trans rfl, (blk_cell BK434.out 1).trans rfl, (blk_cell BK434.out 2).trans rfl, (blk_cell BK434.out 3).trans rfl⟩ (fun hHeld => ?_)
      clear hK K
      refine norm_ (a' := ?_) ?_ ?_
      rotate_left
      · show Act.put _ (some 31) _ = _
        simp only [Act.put, List.setIfInBounds_toArray, List.set_cons_zero, List.set_cons_succ, i64_w, i32_w]
        rfl
      refine one_ (i := 5) (N := some 34) #[true, true, true, true, true, true, false, false, false, false, false, false, false, false, false, false, false, false, false, false, false, false, false, false, false, false, false, false] rfl rfl (one_of HT_.out (by kernel_rfl)) (by decide) (fun K hK => ?_)
      refine goes_ Try.func22 (by kernel_rfl) rfl #[.agg #[.int .i64 t424, .slice Ao10 t425.length co10, .int .i64 t428, .bool t429], .int .i64 t430] (by rfl) rfl rfl mp_ ?_
      with_reducible refine (spec_CountIn.calls k t424 _ _ t425 t428 t429 t430 t437 _ ?side1 ?side2 A14.out).mono ?_
      (case side1 => exact pc_ ((Kd.R_reads' HO427.out).2.2))
      (case side2 => exact (Kd.R_reads' HO427.out).2.1)
      rintro e w29 ⟨rfl, hb⟩
      refine ⟨_, rfl, ?_⟩
      have n0_ := Aside0.mk (Kd.R_below (pr_ HO427.out) hb)
      have n1_ := Aside0.mk (Kd.R_below (pr_ HO433.out) hb)
      have n2_ := Aside0.mk (bb_ BK434.out hb)
      have n3_ := Aside0.mk (below_step (pb1_ HB.out GE434.out) hb)
      clear HO427
      clear HO433
      clear BK434
      clear HB
      have HO427 := n0_
      have HO433 := n1_
      have BK434 := n2_
      have HB := n3_
      clear n0_ n1_ n2_ n3_
      (try clear hb)
      (try clear hb2)
      (try clear hk)
      (try clear hi)
      refine hK.out _ _ ⟨(blk_cell BK434.out 0).trans rfl, (blk_cell BK434.out 1).trans rfl, (blk_cell BK434.out 2).trans rfl, (blk_cell BK434.out 3).trans rfl⟩ (fun hHeld => ?_)
      clear hK K
      refine norm_ (a' := ?_) ?_ ?_
      rotate_left
      · show Act.put _ (some 34) _ = _
        simp only [Act.put, List.setIfInBounds_toArray, List.set_cons_zero, List.set_cons_succ, i64_w, i32_w]
        rfl
      refine pure_ (i := 6) (N := some 35) (v := ?_) (a' := ?_) #[true, true, true, true, true, true, true, false, false, false, false, false, false, false, false, false, false, false, false, false, false, false, false, false, false, false, false, false] rfl rfl (any_of HT_.out (by kernel_rfl)) (fun _ _ _ h => h) (Or.inl ⟨by rfl, ?_⟩) ?_ ?_
      rotate_left
      · intro w'
        go_simp
        (try (simp only [Instr.field]; simp only [underlying, hu27]; go_simp; simp only [asAgg]; go_simp))
        with_reducible rfl
      rotate_left
      · simp only [Act.put, List.setIfInBounds_toArray, List.set_cons_zero, List.set_cons_succ, i64_w, i32_w]
        rfl
      refine pure_ (i := 7) (N := some 36) (v := ?_) (a' := ?_) #[true, true, true, true, true, true, true, true, false, false, false, false, false, false, false, false, false, false, false, false, false, false, false, false, false, false, false, false] rfl rfl (any_of HT_.out (by kernel_rfl)) (fun _ _ _ h => h) (Or.inl ⟨by rfl, ?_⟩) ?_ ?_
      rotate_left
      · intro w'
        go_simp
        (try (simp only [Instr.field]; simp only [underlying, hu27]; go_simp; simp only [asAgg]; go_simp))
        with_reducible rfl
      rotate_left
      · simp only [Act.put, List.setIfInBounds_toArray, List.set_cons_zero, List.set_cons_succ, i64_w, i32_w]
        rfl
      refine pure_ (i := 8) (N := some 37) (v := ?_) (a' := ?_) #[true, true, true, true, true, true, true, true, true, false, false, false, false, false, false, false, false, false, false, false, false, false, false, false, false, false, false, false] rfl rfl (any_of HT_.out (by kernel_rfl)) (fun _ _ _ h => h) (Or.inl ⟨by rfl, ?_⟩) ?_ ?_
      rotate_left
      · intro w'
        go_simp
        (try (simp only [Instr.field]; simp only [underlying, hu27]; go_simp; simp only [asAgg]; go_simp))
        with_reducible rfl
      rotate_left
      · simp only [Act.put, List.setIfInBounds_toArray, List.set_cons_zero, List.set_cons_succ, i64_w, i32_w]
        rfl
      refine pure_ (i := 10) (N := some 39) (v := ?_) (a' := ?_) #[true, true, true, true, true, true, true, true, true, false, true, false, false, false, false, false, false, false, false, false, false, false, false, false, false, false, false, false] rfl rfl (any_of HT_.out (by kernel_rfl)) (fun _ _ _ h => h) (Or.inl ⟨by rfl, ?_⟩) ?_ ?_
      rotate_left
      · intro w'
        go_simp
        (try (simp only [Instr.field]; simp only [underlying, hu27]; go_simp; simp only [asAgg]; go_simp))
        with_reducible rfl
      rotate_left
      · simp only [Act.put, List.setIfInBounds_toArray, List.set_cons_zero, List.set_cons_succ, i64_w, i32_w]
        rfl
      refine take_ (i := 9) (N := some 38) (v := ?_) (a' := ?_) #[true, true, true, true, true, true, true, true, true, true, true, false, false, false, false, false, false, false, false, false, false, false, false, false, false, false, false, false] rfl rfl (take_ofW HT_.out HW_.out (by kernel_rfl)) (fun _ _ _ h => h) (Or.inl ⟨by rfl, ?_⟩) hHeld ?_ ?_
      rotate_left
      · rintro w' ⟨s0, s1, s2, s3⟩
        go_simp
        (try (simp only [Instr.field]; simp only [underlying, hu27]; go_simp; simp only [asAgg]; go_simp))
        with_reducible rfl
      rotate_left
      · simp only [Act.put, List.setIfInBounds_toArray, List.set_cons_zero, List.set_cons_succ, i64_w, i32_w]
        rfl
      refine one_ (i := 11) (N := some 40) #[true, true, true, true, true, true, true, true, true, true, true, true, false, false, false, false, false, false, false, false, false, false, false, false, false, false, false, false] rfl rfl (one_of HT_.out (by kernel_rfl)) (by decide) (fun K hK => ?_)
      refine goes_ Try.func23 (by kernel_rfl) rfl #[.agg #[.int .i64 t424, .slice Ao10 t425.length co10, .int .i64 t428, .bool t429], .int .i64 t430] (by rfl) rfl rfl mp_ ?_
      with_reducible refine (impl_CountIn.calls k t424 _ _ t425 t428 t429 t430 t438 _ ?side1 ?side2 A19.out).mono ?_
      (case side1 => exact pc_ ((Kd.R_reads' HO427.out).2.2))
      (case side2 => exact (Kd.R_reads' HO427.out).2.1)
      rintro e w30 ⟨rfl, hb⟩
      refine ⟨_, rfl, ?_⟩
      have n0_ := Aside0.mk (Kd.R_below (pr_ HO427.out) hb)
      have n1_ := Aside0.mk (Kd.R_below (pr_ HO433.out) hb)
      have n2_ := Aside0.mk (bb_ BK434.out hb)
      have n3_ := Aside0.mk (below_step (pb1_ HB.out GE434.out) hb)
      clear HO427
      clear HO433
      clear BK434
      clear HB
      have HO427 := n0_
      have HO433 := n1_
      have BK434 := n2_
      have HB := n3_
      clear n0_ n1_ n2_ n3_
      (try clear hb)
      (try clear hb2)
      (try clear hk)
      (try clear hi)
      refine hK.out _ _ ⟨(blk_cell BK434.out 0).trans rfl, (blk_cell BK434.out 1).trans rfl, (blk_cell BK434.out 2).trans rfl, (blk_cell BK434.out 3).trans rfl⟩ (fun hHeld => ?_)
      clear hK K
      refine norm_ (a' := ?_) ?_ ?_
      rotate_left
      · show Act.put _ (some 40) _ = _
        simp only [Act.put, List.setIfInBounds_toArray, List.set_cons_zero, List.set_cons_succ, i64_w, i32_w]
        rfl
      refine pure_ (i := 12) (N := some 41) (v := ?_) (a' := ?_) #[true, true, true, true, true, true, true, true, true, true, true, true, true, false, false, false, false, false, false, false, false, false, false, false, false, false, false, false] rfl rfl (any_of HT_.out (by kernel_rfl)) (fun _ _ _ h => h) (Or.inl ⟨by rfl, ?_⟩) ?_ ?_
      rotate_left
      · intro w'
        go_simp
        (try (simp only [Instr.field]; simp only [underlying, hu27]; go_simp; simp only [asAgg]; go_simp))
        with_reducible rfl
      rotate_left
      · simp only [Act.put, List.setIfInBounds_toArray, List.set_cons_zero, List.set_cons_succ, i64_w, i32_w]
        rfl
      refine pure_ (i := 13) (N := some 42) (v := ?_) (a' := ?_) #[true, true, true, true, true, true, true, true, true, true, true, true, true, true, false, false, false, false, false, false, false, false, false, false, false, false, false, false] rfl rfl (any_of HT_.out (by kernel_rfl)) (fun _ _ _ h => h) (Or.inl ⟨by rfl, ?_⟩) ?_ ?_
      rotate_left
      · intro w'
        go_simp
        (try (simp only [Instr.field]; simp only [underlying, hu27]; go_simp; simp only [asAgg]; go_simp))
        with_reducible rfl
      rotate_left
      · simp only [Act.put, List.setIfInBounds_toArray, List.set_cons_zero, List.set_cons_succ, i64_w, i32_w]
        rfl
      refine pure_ (i := 14) (N := some 43) (v := ?_) (a' := ?_) #[true, true, true, true, true, true, true, true, true, true, true, true, true, true, true, false, false, false, false, false, false, false, false, false, false, false, false, false] rfl rfl (any_of HT_.out (by kernel_rfl)) (fun _ _ _ h => h) (Or.inl ⟨by rfl, ?_⟩) ?_ ?_
      rotate_left
      · intro w'
        go_simp
        (try (simp only [Instr.field]; simp only [underlying, hu27]; go_simp; simp only [asAgg]; go_simp))
        with_reducible rfl
      rotate_left
      · simp only [Act.put, List.setIfInBounds_toArray, List.set_cons_zero, List.set_cons_succ, i64_w, i32_w]
        rfl
      refine take_ (i := 15) (N := some 44) (v := ?_) (a' := ?_) #[true, true, true, true, true, true, true, true, true, true, true, true, true, true, true, true, false, false, false, false, false, false, false, false, false, false, false, false] rfl rfl (take_ofW HT_.out HW_.out (by kernel_rfl)) (fun _ _ _ h => h) (Or.inl ⟨by rfl, ?_⟩) hHeld ?_ ?_
      rotate_left
      · rintro w' ⟨s0, s1, s2, s3⟩
        go_simp
        (try (simp only [Instr.field]; simp only [underlying, hu27]; go_simp; simp only [asAgg]; go_simp))
        with_reducible rfl
      rotate_left
      · simp only [Act.put, List.setIfInBounds_toArray, List.set_cons_zero, List.set_cons_succ, i64_w, i32_w]
        rfl
      refine one_ (i := 16) (N := some 45) #[true, true, true, true, true, true, true, true, true, true, true, true, true, true, true, true, true, false, false, false, false, false, false, false, false, false, false, false] rfl rfl (one_of HT_.out (by kernel_rfl)) (by decide) (fun K hK => ?_)
      refine goes_ Try.func18 (by kernel_rfl) rfl #[.agg #[.int .i64 t424, .slice Ao10 t425.length co10, .int .i64 t428, .bool t429]] (by rfl) rfl rfl mp_ ?_
      with_reducible refine (impl_IsRollout.calls k t424 _ _ t425 t428 t429 false _ ?side1 ?side2 A25.out).mono ?_
      (case side1 => exact pc_ ((Kd.R_reads' HO427.out).2.2))
      (case side2 => exact (Kd.R_reads' HO427.out).2.1)
      rintro e w31 ⟨rfl, hb⟩
      refine ⟨_, rfl, ?_⟩
      have n0_ := Aside0.mk (Kd.R_below (pr_ HO427.out) hb)
      have n1_ := Aside0.mk (Kd.R_below (pr_ HO433.out) hb)
      have n2_ := Aside0.mk (bb_ BK434.out hb)
      have n3_ := Aside0.mk (below_step (pb1_ HB.out GE434.out) hb)
      clear HO427
      clear HO433
      clear BK434
      clear HB
      have HO427 := n0_
      have HO433 := n1_
      have BK434 := n2_
      have HB := n3_
      clear n0_ n1_ n2_ n3_
      (try clear hb)
      (try clear hb2)
      (try clear hk)
      (try clear hi)
      refine hK.out _ _ ⟨(blk_cell BK434.out 0).trans rfl, (blk_cell BK434.out 1).trans rfl, (blk_cell BK434.out 2).trans rfl, (blk_cell BK434.out 3).trans rfl⟩ (fun hHeld => ?_)
      clear hK K
      refine norm_ (a' := ?_) ?_ ?_
      rotate_left
      · show Act.put _ (some 45) _ = _
        simp only [Act.put, List.setIfInBounds_toArray, List.set_cons_zero, List.set_cons_succ, i64_w, i32_w]
        rfl
      refine pure_ (i := 17) (N := some 46) (v := ?_) (a' := ?_) #[true, true, true, true, true, true, true, true, true, true, true, true, true, true, true, true, true, true, false, false, false, false, false, false, false, false, false, false] rfl rfl (any_of HT_.out (by kernel_rfl)) (fun _ _ _ h => h) (Or.inl ⟨by rfl, ?_⟩) ?_ ?_
      rotate_left
      · intro w'
        go_simp
        (try (simp only [Instr.field]; simp only [underlying, hu27]; go_simp; simp only [asAgg]; go_simp))
        with_reducible rfl
      rotate_left
      · simp only [Act.put, List.setIfInBounds_toArray, List.set_cons_zero, List.set_cons_succ, i64_w, i32_w]
        rfl
      refine pure_ (i := 18) (N := some 47) (v := undef) (a' := ?_) #[true, true, true, true, true, true, true, true, true, true, true, true, true, true, true, true, true, true, true, false, false, false, false, false, false, false, false, false] rfl rfl (any_of HT_.out (by kernel_rfl)) (fun _ _ _ h => h) (Or.inr ⟨by rfl, rfl⟩) ?_ ?_
      rotate_left
      · simp only [Act.put, List.setIfInBounds_toArray, List.set_cons_zero, List.set_cons_succ, i64_w, i32_w]
        rfl
      refine pure_ (i := 19) (N := some 48) (v := undef) (a' := ?_) #[true, true, true, true, true, true, true, true, true, true, true, true, true, true, true, true, true, true, true, true, false, false, false, false, false, false, false, false] rfl rfl (any_of HT_.out (by kernel_rfl)) (fun _ _ _ h => h) (Or.inr ⟨by rfl, rfl⟩) ?_ ?_
      rotate_left
      · simp only [Act.put, List.setIfInBounds_toArray, List.set_cons_zero, List.set_cons_succ, i64_w, i32_w]
        rfl
      refine pure_ (i := 20) (N := some 49) (v := undef) (a' := ?_) #[true, true, true, true, true, true, true, true, true, true, true, true, true, true, true, true, true, true, true, true, true, false, false, false, false, false, false, false] rfl rfl (any_of HT_.out (by kernel_rfl)) (fun _ _ _ h => h) (Or.inr ⟨by rfl, rfl⟩) ?_ ?_
      rotate_left
      · simp only [Act.put, List.setIfInBounds_toArray, List.set_cons_zero, List.set_cons_succ, i64_w, i32_w]
        rfl
      refine pure_ (i := 21) (N := some 50) (v := undef) (a' := ?_) #[true, true, true, true, true, true, true, true, true, true, true, true, true, true, true, true, true, true, true, true, true, true, false, false, false, false, false, false] rfl rfl (any_of HT_.out (by kernel_rfl)) (fun _ _ _ h => h) (Or.inr ⟨by rfl, rfl⟩) ?_ ?_
      rotate_left
      · simp only [Act.put, List.setIfInBounds_toArray, List.set_cons_zero, List.set_cons_succ, i64_w, i32_w]
        rfl
      refine pure_ (i := 22) (N := some 51) (v := undef) (a' := ?_) #[true, true, true, true, true, true, true, true, true, true, true, true, true, true, true, true, true, true, true, true, true, true, true, false, false, false, false, false] rfl rfl (any_of HT_.out (by kernel_rfl)) (fun _ _ _ h => h) (Or.inr ⟨by rfl, rfl⟩) ?_ ?_
      rotate_left
      · simp only [Act.put, List.setIfInBounds_toArray, List.set_cons_zero, List.set_cons_succ, i64_w, i32_w]
        rfl
      refine pure_ (i := 23) (N := some 52) (v := undef) (a' := ?_) #[true, true, true, true, true, true, true, true, true, true, true, true, true, true, true, true, true, true, true, true, true, true, true, true, false, false, false, false] rfl rfl (any_of HT_.out (by kernel_rfl)) (fun _ _ _ h => h) (Or.inr ⟨by rfl, rfl⟩) ?_ ?_
      rotate_left
      · simp only [Act.put, List.setIfInBounds_toArray, List.set_cons_zero, List.set_cons_succ, i64_w, i32_w]
        rfl
      refine pure_ (i := 24) (N := some 53) (v := undef) (a' := ?_) #[true, true, true, true, true, true, true, true, true, true, true, true, true, true, true, true, true, true, true, true, true, true, true, true, true, false, false, false] rfl rfl (any_of HT_.out (by kernel_rfl)) (fun _ _ _ h => h) (Or.inr ⟨by rfl, rfl⟩) ?_ ?_
      rotate_left
      · simp only [Act.put, List.setIfInBounds_toArray, List.set_cons_zero, List.set_cons_succ, i64_w, i32_w]
        rfl
      refine pure_ (i := 25) (N := some 54) (v := undef) (a' := ?_) #[true, true, true, true, true, true, true, true, true, true, true, true, true, true, true, true, true, true, true, true, true, true, true, true, true, true, false, false] rfl rfl (any_of HT_.out (by kernel_rfl)) (fun _ _ _ h => h) (Or.inr ⟨by rfl, rfl⟩) ?_ ?_
      rotate_left
      · simp only [Act.put, List.setIfInBounds_toArray, List.set_cons_zero, List.set_cons_succ, i64_w, i32_w]
        rfl
      refine pure_ (i := 26) (N := some 55) (v := ?_) (a' := ?_) #[true, true, true, true, true, true, true, true, true, true, true, true, true, true, true, true, true, true, true, true, true, true, true, true, true, true, true, false] rfl rfl (any_of HT_.out (by kernel_rfl)) (fun _ _ _ h => h) (Or.inl ⟨by rfl, ?_⟩) ?_ ?_
      rotate_left
      · intro w'
        go_simp
        (try (simp only [Instr.field]; simp only [underlying, hu27]; go_simp; simp only [asAgg]; go_simp))
        with_reducible rfl
      rotate_left
      · simp only [Act.put, List.setIfInBounds_toArray, List.set_cons_zero, List.set_cons_succ, i64_w, i32_w]
        rfl
      refine pure_ (i := 27) (N := some 56) (v := ?_) (a' := ?_) #[true, true, true, true, true, true, true, true, true, true, true, true, true, true, true, true, true, true, true, true, true, true, true, true, true, true, true, true] rfl rfl (any_of HT_.out (by kernel_rfl)) (fun _ _ _ h => h) (Or.inl ⟨by rfl, ?_⟩) ?_ ?_
      rotate_left
      · intro w'
        go_simp
        (try (simp only [Instr.field]; simp only [underlying, hu27]; go_simp; simp only [asAgg]; go_simp))
        with_reducible rfl
      rotate_left
      · simp only [Act.put, List.setIfInBounds_toArray, List.set_cons_zero, List.set_cons_succ, i64_w, i32_w]
        rfl
      refine done_ (done_of HT_.out (by kernel_rfl)) ?_
      try go_wp2
      go_meet
      case rel => exact ⟨_, (false), el_, H', ⟨by first | omega | exact Nat.le_refl _⟩, ⟨pr_ HO427.out⟩, ⟨pk_ BK434.out⟩, ⟨pb1_ HB.out GE434.out⟩⟩
    subst c26
    rw [if_pos rfl] at H
    replace H := Option.bind_eq_some_iff.mp H
    obtain ⟨t440, A320, H⟩ := H
    replace H : (laws_FnDamage.j0 k l0 (decide (t435 > t440))) = some r := H
    have A32 := Aside0.mk A320
    clear A320
    have H' := Aside0.mk H
    clear H
    try go_wp2
    have n0_ := Aside0.mk (Kd.R_drew HO427.out)
    have n1_ := Aside0.mk (Kd.R_drew HO433.out)
    have n2_ := Aside0.mk (blk_drew BK434.out)
    have n3_ := Aside0.mk (below_drew1 HB.out)
    clear HO427
    clear HO433
    clear BK434
    clear HB
    have HO427 := n0_
    have HO433 := n1_
    have BK434 := n2_
    have HB := n3_
    clear n0_ n1_ n2_ n3_
    refine start_ (n := 28) (S := fun w' => w'.cell? ⟨gb434, 0, none⟩ = some (.int .i64 t424) ∧ w'.cell? ⟨gb434, 1, none⟩ = some (.slice Ao10 t425.length co10) ∧ w'.cell? ⟨gb434, 2, none⟩ = some (.int .i64 t428) ∧ w'.cell? ⟨gb434, 3, none⟩ = some (.bool t429)) (ds := []) #[false, false, false, false, false, false, false, false, false, false, false, false, false, false, false, false, false, false, false, false, false, false, false, false, false, false, false, false] (by kernel_rfl) rfl rfl ⟨(blk_cell BK434.out 0).trans rfl, (blk_cell BK434.out 1).trans rfl, (blk_cell BK434.out 2).trans rfl, (blk_cell BK434.out 3).trans rfl⟩ (fun hHeld => ?_); refine with_tabW laws_FnDamage.tab5 laws_FnDamage.bits5 (fun HT_ HW_ => ?_)
    generalize w12.drew = w33 at HO427 HO433 BK434 HB hHeld ⊢
    refine pure_ (i := 1) (N := some 30) (v := ?_) (a' := ?_) #[false, true, false, false, false, false, false, false, false, false, false, false, false, false, false, false, false, false, false, false, false, false, false, false, false, false, false, false] rfl rfl (any_of HT_.out (by kernel_rfl)) (fun _ _ _ h => h) (Or.inl ⟨by rfl, ?_⟩) ?_ ?_
    rotate_left
    · intro w'
      go_simp
      (try (simp only [Instr.field]; simp only [underlying, hu27]; go_simp; simp only [asAgg]; go_simp))
      with_reducible rfl
    rotate_left
    · simp only [Act.put, List.setIfInBounds_toArray, List.set_cons_zero, List.set_cons_succ, i64_w, i32_w]
      rfl
    refine pure_ (i := 4) (N := some 33) (v := ?_) (a' := ?_) #[false, true, false, false, true, false, false, false, false, false, false, false, false, false, false, false, false, false, false, false, false, false, false, false, false, false, false, false] rfl rfl (any_of HT_.out (by kernel_rfl)) (fun _ _ _ h => h) (Or.inl ⟨by rfl, ?_⟩) ?_ ?_
    rotate_left
    · intro w'
      go_simp
      (try (simp only [Instr.field]; simp only [underlying, hu27]; go_simp; simp only [asAgg]; go_simp))
      with_reducible rfl
    rotate_left
    · simp only [Act.put, List.setIfInBounds_toArray, List.set_cons_zero, List.set_cons_succ, i64_w, i32_w]
      rfl
    refine take_ (i := 0) (N := some 29) (v := ?_) (a' := ?_) #[true, true, false, false, true, false, false, false, false, false, false, false, false, false, false, false, false, false, false, false, false, false, false, false, false, false, false, false] rfl rfl (take_ofW HT_.out HW_.out (by kernel_rfl)) (fun _ _ _ h => h) (Or.inl ⟨by rfl, ?_⟩) hHeld ?_ ?_
    rotate_left
    · rintro w' ⟨s0, s1, s2, s3⟩
      go_simp
      (try (simp only [Instr.field]; simp only [underlying, hu27]; go_simp; simp only [asAgg]; go_simp))
      with_reducible rfl
    rotate_left
    · simp only [Act.put, List.setIfInBounds_toArray, List.set_cons_zero, List.set_cons_succ, i64_w, i32_w]
      rfl
    refine take_ (i := 3) (N := some 32) (v := ?_) (a' := ?_) #[true, true, false, true, true, false, false, false, false, false, false, false, false, false, false, false, false, false, false, false, false, false, false, false, false, false, false, false] rfl rfl (take_ofW HT_.out HW_.out (by kernel_rfl)) (fun _ _ _ h => h) (Or.inl ⟨by rfl, ?_⟩) hHeld ?_ ?_
    rotate_left
    · rintro w' ⟨s0, s1, s2, s3⟩
      go_simp
      (try (simp only [Instr.field]; simp only [underlying, hu27]; go_simp; simp only [asAgg]; go_simp))
      with_reducible rfl
    rotate_left
    · simp only [Act.put, List.setIfInBounds_toArray, List.set_cons_zero, List.set_cons_succ, i64_w, i32_w]
      rfl
    refine one_ (i := 2) (N := some 31) #[true, true, true, true, true, false, false, false, false, false, false, false, false, false, false, false, false, false, false, false, false, false, false, false, false, false, false, false] rfl rfl (one_of HT_.out (by kernel_rfl)) (by decide) (fun K hK => ?_)
    refine goes_ Try.func23 (by kernel_rfl) rfl #[.agg #[.int .i64 t424, .slice Ao10 t425.length co10, .int .i64 t428, .bool t429], .int .i64 t430] (by rfl) rfl rfl mp_ ?_
    with_reducible refine (impl_CountIn.calls k t424 _ _ t425 t428 t429 t430 t436 _ ?side1 ?side2 A13.out).mono ?_
    (case side1 => exact pc_ ((Kd.R_reads' HO427.out).2.2))
    (case side2 => exact (Kd.R_reads' HO427.out).2.1)
    rintro e w34 ⟨rfl, hb⟩
    refine ⟨_, rfl, ?_⟩
    have n0_ := Aside0.mk (Kd.R_below (pr_ HO427.out) hb)
    have n1_ := Aside0.mk (Kd.R_below (pr_ HO433.out) hb)
    have n2_ := Aside0.mk (bb_ BK434.out hb)
    have n3_ := Aside0.mk (below_step (pb1_ HB.out GE434.out) hb)
    clear HO427
    clear HO433
    clear BK434
    clear HB
    have HO427 := n0_
    have HO433 := n1_
    have BK434 := n2_
    have HB := n3_
    clear n0_ n1_ n2_ n3_
    (try clear hb)
    (try clear hb2)
    (try clear hk)
    (try clear hi)
    refine hK.out _ _ ⟨(blk_cell BK434.out 0).trans rfl, (blk_cell BK434.out 1).trans rfl, (blk_cell BK434.out 2).trans rfl, (blk_cell BK434.out 3).trans rfl⟩ (fun hHeld => ?_)
    clear hK K
    refine norm_ (a' := ?_) ?_ ?_
    rotate_left
    · show Act.put _ (some 31) _ = _
      simp only [Act.put, List.setIfInBounds_toArray, List.set_cons_zero, List.set_cons_succ, i64_w, i32_w]
      rfl
    refine one_ (i := 5) (N := some 34) #[true, true, true, true, true, true, false, false, false, false, false, false, false, false, false, false, false, false, false, false, false, false, false, false, false, false, false, false] rfl rfl (one_of HT_.out (by kernel_rfl)) (by decide) (fun K hK => ?_)
    refine goes_ Try.func22 (by kernel_rfl) rfl #[.agg #[.int .i64 t424, .slice Ao10 t425.length co10, .int .i64 t428, .bool t429], .int .i64 t430] (by rfl) rfl rfl mp_ ?_
    with_reducible refine (spec_CountIn.calls k t424 _ _ t425 t428 t429 t430 t437 _ ?side1 ?side2 A14.out).mono ?_
    (case side1 => exact pc_ ((Kd.R_reads' HO427.out).2.2))
    (case side2 => exact (Kd.R_reads' HO427.out).2.1)
    rintro e w35 ⟨rfl, hb⟩
    refine ⟨_, rfl, ?_⟩
    have n0_ := Aside0.mk (Kd.R_below (pr_ HO427.out) hb)
    have n1_ := Aside0.mk (Kd.R_below (pr_ HO433.out) hb)
    have n2_ := Aside0.mk (bb_ BK434.out hb)
    have n3_ := Aside0.mk (below_step (pb1_ HB.out GE434.out) hb)
    clear HO427
    clear HO433
    clear BK434
    clear HB
    have HO427 := n0_
    have HO433 := n1_
    have BK434 := n2_
    have HB := n3_
    clear n0_ n1_ n2_ n3_
    (try clear hb)
    (try clear hb2)
    (try clear hk)
    (try clear hi)
    refine hK.out _ _ ⟨(blk_cell BK434.out 0).trans rfl, (blk_cell BK434.out 1).trans rfl, (blk_cell BK434.out 2).trans rfl, (blk_cell BK434.out 3).trans rfl⟩ (fun hHeld => ?_)
    clear hK K
    refine norm_ (a' := ?_) ?_ ?_
    rotate_left
    · show Act.put _ (some 34) _ = _
      simp only [Act.put, List.setIfInBounds_toArray, List.set_cons_zero, List.set_cons_succ, i64_w, i32_w]
      rfl
    refine pure_ (i := 6) (N := some 35) (v := ?_) (a' := ?_) #[true, true, true, true, true, true, true, false, false, false, false, false, false, false, false, false, false, false, false, false, false, false, false, false, false, false, false, false] rfl rfl (any_of HT_.out (by kernel_rfl)) (fun _ _ _ h => h) (Or.inl ⟨by rfl, ?_⟩) ?_ ?_
    rotate_left
    · intro w'
      go_simp
      (try (simp only [Instr.field]; simp only [underlying, hu27]; go_simp; simp only [asAgg]; go_simp))
      with_reducible rfl
    rotate_left
    · simp only [Act.put, List.setIfInBounds_toArray, List.set_cons_zero, List.set_cons_succ, i64_w, i32_w]
      rfl
    refine pure_ (i := 7) (N := some 36) (v := ?_) (a' := ?_) #[true, true, true, true, true, true, true, true, false, false, false, false, false, false, false, false, false, false, false, false, false, false, false, false, false, false, false, false] rfl rfl (any_of HT_.out (by kernel_rfl)) (fun _ _ _ h => h) (Or.inl ⟨by rfl, ?_⟩) ?_ ?_
    rotate_left
    · intro w'
      go_simp
      (try (simp only [Instr.field]; simp only [underlying, hu27]; go_simp; simp only [asAgg]; go_simp))
      with_reducible rfl
    rotate_left
    · simp only [Act.put, List.setIfInBounds_toArray, List.set_cons_zero, List.set_cons_succ, i64_w, i32_w]
      rfl
    refine pure_ (i := 8) (N := some 37) (v := ?_) (a' := ?_) #[true, true, true, true, true, true, true, true, true, false, false, false, false, false, false, false, false, false, false, false, false, false, false, false, false, false, false, false] rfl rfl (any_of HT_.out (by kernel_rfl)) (fun _ _ _ h => h) (Or.inl ⟨by rfl, ?_⟩) ?_ ?_
    rotate_left
    · intro w'
      go_simp
      (try (simp only [Instr.field]; simp only [underlying, hu27]; go_simp; simp only [asAgg]; go_simp))
      with_reducible rfl
    rotate_left
    · simp only [Act.put, List.setIfInBounds_toArray, List.set_cons_zero, List.set_cons_succ, i64_w, i32_w]
      rfl
    refine pure_ (i := 10) (N := some 39) (v := ?_) (a' := ?_) #[true, true, true, true, true, true, true, true, true, false, true, false, false, false, false, false, false, false, false, false, false, false, false, false, false, false, false, false] rfl rfl (any_of HT_.out (by kernel_rfl)) (fun _ _ _ h => h) (Or.inl ⟨by rfl, ?_⟩) ?_ ?_
    rotate_left
    · intro w'
      go_simp
      (try (simp only [Instr.field]; simp only [underlying, hu27]; go_simp; simp only [asAgg]; go_simp))
      with_reducible rfl
    rotate_left
    · simp only [Act.put, List.setIfInBounds_toArray, List.set_cons_zero, List.set_cons_succ, i64_w, i32_w]
      rfl
    refine take_ (i := 9) (N := some 38) (v := ?_) (a' := ?_) #[true, true, true, true, true, true, true, true, true, true, true, false, false, false, false, false, false, false, false, false, false, false, false, false, false, false, false, false] rfl rfl (take_ofW HT_.out HW_.out (by kernel_rfl)) (fun _ _ _ h => h) (Or.inl ⟨by rfl, ?_⟩) hHeld ?_ ?_
    rotate_left
    · rintro w' ⟨s0, s1, s2, s3⟩
      go_simp
      (try (simp only [Instr.field]; simp only [underlying, hu27]; go_simp; simp only [asAgg]; go_simp))
      with_reducible rfl
    rotate_left
    · simp only [Act.put, List.setIfInBounds_toArray, List.set_cons_zero, List.set_cons_succ, i64_w, i32_w]
      rfl
    refine one_ (i := 11) (N := some 40) #[true, true, true, true, true, true, true, true, true, true, true, true, false, false, false, false, false, false, false, false, false, false, false, false, false, false, false, false] rfl rfl (one_of HT_.out (by kernel_rfl)) (by decide) (fun K hK => ?_)
    refine goes_ Try.func23 (by kernel_rfl) rfl #[.agg #[.int .i64 t424, .slice Ao10 t425.length co10, .int .i64 t428, .bool t429], .int .i64 t430] (by rfl) rfl rfl mp_ ?_
    with_reducible refine (impl_CountIn.calls k t424 _ _ t425 t428 t429 t430 t438 _ ?side1 ?side2 A19.out).mono ?_
    (case side1 => exact pc_ ((Kd.R_reads' HO427.out).2.2))
    (case side2 => exact (Kd.R_reads' HO427.out).2.1)
    rintro e w36 ⟨rfl, hb⟩
    refine ⟨_, rfl, ?_⟩
    have n0_ := Aside0.mk (Kd.R_below (pr_ HO427.out) hb)
    have n1_ := Aside0.mk (Kd.R_below (pr_ HO433.out) hb)
    have n2_ := Aside0.mk (bb_ BK434.out hb)
    have n3_ := Aside0.mk (below_step (pb1_ HB.out GE434.out) hb)
    clear HO427
    clear HO433
    clear BK434
    clear HB
    have HO427 := n0_
    have HO433 := n1_
    have BK434 := n2_
    have HB := n3_
    clear n0_ n1_ n2_ n3_
    (try clear hb)
    (try clear hb2)
    (try clear hk)
    (try clear hi)
    refine hK.out _ _ ⟨(blk_cell BK434.out 0).trans rfl, (blk_cell BK434.out 1).trans rfl, (blk_cell BK434.out 2).trans rfl, (blk_cell BK434.out 3).trans rfl⟩ (fun hHeld => ?_)
    clear hK K
    refine norm_ (a' := ?_) ?_ ?_
    rotate_left
    · show Act.put _ (some 40) _ = _
      simp only [Act.put, List.setIfInBounds_toArray, List.set_cons_zero, List.set_cons_succ, i64_w, i32_w]
      rfl
    refine pure_ (i := 12) (N := some 41) (v := ?_) (a' := ?_) #[true, true, true, true, true, true, true, true, true, true, true, true, true, false, false, false, false, false, false, false, false, false, false, false, false, false, false, false] rfl rfl (any_of HT_.out (by kernel_rfl)) (fun _ _ _ h => h) (Or.inl ⟨by rfl, ?_⟩) ?_ ?_
    rotate_left
    · intro w'
      go_simp
      (try (simp only [Instr.field]; simp only [underlying, hu27]; go_simp; simp only [asAgg]; go_simp))
      with_reducible rfl
    rotate_left
    · simp only [Act.put, List.setIfInBounds_toArray, List.set_cons_zero, List.set_cons_succ, i64_w, i32_w]
      rfl
    refine pure_ (i := 13) (N := some 42) (v := ?_) (a' := ?_) #[true, true, true, true, true, true, true, true, true, true, true, true, true, true, false, false, false, false, false, false, false, false, false, false, false, false, false, false] rfl rfl (any_of HT_.out (by kernel_rfl)) (fun _ _ _ h => h) (Or.inl ⟨by rfl, ?_⟩) ?_ ?_
    rotate_left
    · intro w'
      go_simp
      (try (simp only [Instr.field]; simp only [underlying, hu27]; go_simp; simp only [asAgg]; go_simp))
      with_reducible rfl
    rotate_left
    · simp only [Act.put, List.setIfInBounds_toArray, List.set_cons_zero, List.set_cons_succ, i64_w, i32_w]
      rfl
    refine pure_ (i := 14) (N := some 43) (v := ?_) (a' := ?_) #[true, true, true, true, true, true, true, true, true, true, true, true, true, true, true, false, false, false, false, false, false, false, false, false, false, false, false, false] rfl rfl (any_of HT_.out (by kernel_rfl)) (fun _ _ _ h => h) (Or.inl ⟨by rfl, ?_⟩) ?_ ?_
    rotate_left
    · intro w'
      go_simp
      (try (simp only [Instr.field]; simp only [underlying, hu27]; go_simp; simp only [asAgg]; go_simp))
      with_reducible rfl
    rotate_left
    · simp only [Act.put, List.setIfInBounds_toArray, List.set_cons_zero, List.set_cons_succ, i64_w, i32_w]
      rfl
    refine take_ (i := 15) (N := some 44) (v := ?_) (a' := ?_) #[true, true, true, true, true, true, true, true, true, true, true, true, true, true, true, true, false, false, false, false, false, false, false, false, false, false, false, false] rfl rfl (take_ofW HT_.out HW_.out (by kernel_rfl)) (fun _ _ _ h => h) (Or.inl ⟨by rfl, ?_⟩) hHeld ?_ ?_
    rotate_left
    · rintro w' ⟨s0, s1, s2, s3⟩
      go_simp
      (try (simp only [Instr.field]; simp only [underlying, hu27]; go_simp; simp only [asAgg]; go_simp))
      with_reducible rfl
    rotate_left
    · simp only [Act.put, List.setIfInBounds_toArray, List.set_cons_zero, List.set_cons_succ, i64_w, i32_w]
      rfl
    refine one_ (i := 16) (N := some 45) #[true, true, true, true, true, true, true, true, true, true, true, true, true, true, true, true, true, false, false, false, false, false, false, false, false, false, false, false] rfl rfl (one_of HT_.out (by kernel_rfl)) (by decide) (fun K hK => ?_)
    refine goes_ Try.func18 (by kernel_rfl) rfl #[.agg #[.int .i64 t424, .slice Ao10 t425.length co10, .int .i64 t428, .bool t429]] (by rfl) rfl rfl mp_ ?_
    with_reducible refine (impl_IsRollout.calls k t424 _ _ t425 t428 t429 true _ ?side1 ?side2 A25.out).mono ?_
    (case side1 => exact pc_ ((Kd.R_reads' HO427.out).2.2))
    (case side2 => exact (Kd.R_reads' HO427.out).2.1)
    rintro e w37 ⟨rfl, hb⟩
    refine ⟨_, rfl, ?_⟩
    have n0_ := Aside0.mk (Kd.R_below (pr_ HO427.out) hb)
    have n1_ := Aside0.mk (Kd.R_below (pr_ HO433.out) hb)
    have n2_ := Aside0.mk (bb_ BK434.out hb)
    have n3_ := Aside0.mk (below_step (pb1_ HB.out GE434.out) hb)
    clear HO427
    clear HO433
    clear BK434
    clear HB
    have HO427 := n0_
    have HO433 := n1_
    have BK434 := n2_
    have HB := n3_
    clear n0_ n1_ n2_ n3_
    (try clear hb)
    (try clear hb2)
    (try clear hk)
    (try clear hi)
    refine hK.out _ _ ⟨(blk_cell BK434.out 0).trans rfl, (blk_cell BK434.out 1).trans rfl, (blk_cell BK434.out 2).trans rfl, (blk_cell BK434.out 3).trans rfl⟩ (fun hHeld => ?_)
    clear hK K
    refine norm_ (a' := ?_) ?_ ?_
    rotate_left
    · show Act.put _ (some 45) _ = _
      simp only [Act.put, List.setIfInBounds_toArray, List.set_cons_zero, List.set_cons_succ, i64_w, i32_w]
      rfl
    refine pure_ (i := 17) (N := some 46) (v := ?_) (a' := ?_) #[true, true, true, true, true, true, true, true, true, true, true, true, true, true, true, true, true, true, false, false, false, false, false, false, false, false, false, false] rfl rfl (any_of HT_.out (by kernel_rfl)) (fun _ _ _ h => h) (Or.inl ⟨by rfl, ?_⟩) ?_ ?_
    rotate_left
    · intro w'
      go_simp
      (try (simp only [Instr.field]; simp only [underlying, hu27]; go_simp; simp only [asAgg]; go_simp))
      with_reducible rfl
    rotate_left
    · simp only [Act.put, List.setIfInBounds_toArray, List.set_cons_zero, List.set_cons_succ, i64_w, i32_w]
      rfl
    refine pure_ (i := 18) (N := some 47) (v := ?_) (a' := ?_) #[true, true, true, true, true, true, true, true, true, true, true, true, true, true, true, true, true, true, true, false, false, false, false, false, false, false, false, false] rfl rfl (any_of HT_.out (by kernel_rfl)) (fun _ _ _ h => h) (Or.inl ⟨by rfl, ?_⟩) ?_ ?_
    rotate_left
    · intro w'
      go_simp
      (try (simp only [Instr.field]; simp only [underlying, hu27]; go_simp; simp only [asAgg]; go_simp))
      with_reducible rfl
    rotate_left
    · simp only [Act.put, List.setIfInBounds_toArray, List.set_cons_zero, List.set_cons_succ, i64_w, i32_w]
      rfl
    refine pure_ (i := 20) (N := some 49) (v := ?_) (a' := ?_) #[true, true, true, true, true, true, true, true, true, true, true, true, true, true, true, true, true, true, true, false, true, false, false, false, false, false, false, false] rfl rfl (any_of HT_.out (by kernel_rfl)) (fun _ _ _ h => h) (Or.inl ⟨by rfl, ?_⟩) ?_ ?_
    rotate_left
    · intro w'
      go_simp
      (try (simp only [Instr.field]; simp only [underlying, hu27]; go_simp; simp only [asAgg]; go_simp))
      with_reducible rfl
    rotate_left
    · simp only [Act.put, List.setIfInBounds_toArray, List.set_cons_zero, List.set_cons_succ, i64_w, i32_w]
      rfl
    refine pure_ (i := 21) (N := some 50) (v := ?_) (a' := ?_) #[true, true, true, true, true, true, true, true, true, true, true, true, true, true, true, true, true, true, true, false, true, true, false, false, false, false, false, false] rfl rfl (any_of HT_.out (by kernel_rfl)) (fun _ _ _ h => h) (Or.inl ⟨by rfl, ?_⟩) ?_ ?_
    rotate_left
    · intro w'
      go_simp
      (try (simp only [Instr.field]; simp only [underlying, hu27]; go_simp; simp only [asAgg]; go_simp))
      with_reducible rfl
    rotate_left
    · simp only [Act.put, List.setIfInBounds_toArray, List.set_cons_zero, List.set_cons_succ, i64_w, i32_w]
      rfl
    refine take_ (i := 19) (N := some 48) (v := ?_) (a' := ?_) #[true, true, true, true, true, true, true, true, true, true, true, true, true, true, true, true, true, true, true, true, true, true, false, false, false, false, false, false] rfl rfl (take_ofW HT_.out HW_.out (by kernel_rfl)) (fun _ _ _ h => h) (Or.inl ⟨by rfl, ?_⟩) hHeld ?_ ?_
    rotate_left
    · rintro w' ⟨s0, s1, s2, s3⟩
      go_simp
      (try (simp only [Instr.field]; simp only [underlying, hu27]; go_simp; simp only [asAgg]; go_simp))
      with_reducible rfl
    rotate_left
    · simp only [Act.put, List.setIfInBounds_toArray, List.set_cons_zero, List.set_cons_succ, i64_w, i32_w]
      rfl
    refine take_ (i := 22) (N := some 51) (v := ?_) (a' := ?_) #[true, true, true, true, true, true, true, true, true, true, true, true, true, true, true, true, true, true, true, true, true, true, true, false, false, false, false, false] rfl rfl (take_ofW HT_.out HW_.out (by kernel_rfl)) (fun _ _ _ h => h) (Or.inl ⟨by rfl, ?_⟩) hHeld ?_ ?_
    rotate_left
    · rintro w' ⟨s0, s1, s2, s3⟩
      go_simp
      (try (simp only [Instr.field]; simp only [underlying, hu27]; go_simp; simp only [asAgg]; go_simp))
      with_reducible rfl
    rotate_left
    · simp only [Act.put, List.setIfInBounds_toArray, List.set_cons_zero, List.set_cons_succ, i64_w, i32_w]
      rfl
    refine pure_ (i := 23) (N := some 52) (v := ?_) (a' := ?_) #[true, true, true, true, true, true, true, true, true, true, true, true, true, true, true, true, true, true, true, true, true, true, true, true, false, false, false, false] rfl rfl (any_of HT_.out (by kernel_rfl)) (fun _ _ _ h => h) (Or.inl ⟨by rfl, ?_⟩) ?_ ?_
    rotate_left
    · intro w'
      go_simp
      (try (simp only [Instr.field]; simp only [underlying, hu27]; go_simp; simp only [asAgg]; go_simp))
      with_reducible rfl
    rotate_left
    · simp only [Act.put, List.setIfInBounds_toArray, List.set_cons_zero, List.set_cons_succ, i64_w, i32_w]
      rfl
    refine one_ (i := 24) (N := some 53) #[true, true, true, true, true, true, true, true, true, true, true, true, true, true, true, true, true, true, true, true, true, true, true, true, true, false, false, false] rfl rfl (one_of HT_.out (by kernel_rfl)) (by decide) (fun K hK => ?_)
    refine goes_ Try.func35 (by kernel_rfl) rfl #[.agg #[.int .i64 t424, .slice Ao10 t425.length co10, .int .i64 t428, .bool t429], .int .i64 t430, .int .i64 (wrap64 (t428 + 1))] (by rfl) rfl rfl mp_ ?_
    with_reducible refine (impl_MostHurt.calls k t424 _ _ t425 t428 t429 t430 (wrap64 (t428 + 1)) t440 _ ?side1 ?side2 A32.out).mono ?_
    (case side1 => exact pc_ ((Kd.R_reads' HO427.out).2.2))
    (case side2 => exact (Kd.R_reads' HO427.out).2.1)
    rintro e w38 ⟨rfl, hb⟩
    refine ⟨_, rfl, ?_⟩
    have n0_ := Aside0.mk (Kd.R_below (pr_ HO427.out) hb)
    have n1_ := Aside0.mk (Kd.R_below (pr_ HO433.out) hb)
    have n2_ := Aside0.mk (bb_ BK434.out hb)
    have n3_ := Aside0.mk (below_step (pb1_ HB.out GE434.out) hb)
    clear HO427
    clear HO433
    clear BK434
    clear HB
    have HO427 := n0_
    have HO433 := n1_
    have BK434 := n2_
    have HB := n3_
    clear n0_ n1_ n2_ n3_
    (try clear hb)
    (try clear hb2)
    (try clear hk)
    (try clear hi)
    refine hK.out _ _ ⟨(blk_cell BK434.out 0).trans rfl, (blk_cell BK434.out 1).trans rfl, (blk_cell BK434.out 2).trans rfl, (blk_cell BK434.out 3).trans rfl⟩ (fun hHeld => ?_)
    clear hK K
    refine norm_ (a' := ?_) ?_ ?_
    rotate_left
    · show Act.put _ (some 53) _ = _
      simp only [Act.put, List.setIfInBounds_toArray, List.set_cons_zero, List.set_cons_succ, i64_w, i32_w]
      rfl
    refine pure_ (i := 25) (N := some 54) (v := ?_) (a' := ?_) #[true, true, true, true, true, true, true, true, true, true, true, true, true, true, true, true, true, true, true, true, true, true, true, true, true, true, false, false] rfl rfl (any_of HT_.out (by kernel_rfl)) (fun _ _ _ h => h) (Or.inl ⟨by rfl, ?_⟩) ?_ ?_
    rotate_left
    · intro w'
      go_simp
      (try (simp only [Instr.field]; simp only [underlying, hu27]; go_simp; simp only [asAgg]; go_simp))
      with_reducible rfl
    rotate_left
    · simp only [Act.put, List.setIfInBounds_toArray, List.set_cons_zero, List.set_cons_succ, i64_w, i32_w]
      rfl
    refine pure_ (i := 26) (N := some 55) (v := ?_) (a' := ?_) #[true, true, true, true, true, true, true, true, true, true, true, true, true, true, true, true, true, true, true, true, true, true, true, true, true, true, true, false] rfl rfl (any_of HT_.out (by kernel_rfl)) (fun _ _ _ h => h) (Or.inl ⟨by rfl, ?_⟩) ?_ ?_
    rotate_left
    · intro w'
      go_simp
      (try (simp only [Instr.field]; simp only [underlying, hu27]; go_simp; simp only [asAgg]; go_simp))
      with_reducible rfl
    rotate_left
    · simp only [Act.put, List.setIfInBounds_toArray, List.set_cons_zero, List.set_cons_succ, i64_w, i32_w]
      rfl
    refine pure_ (i := 27) (N := some 56) (v := ?_) (a' := ?_) #[true, true, true, true, true, true, true, true, true, true, true, true, true, true, true, true, true, true, true, true, true, true, true, true, true, true, true, true] rfl rfl (any_of HT_.out (by kernel_rfl)) (fun _ _ _ h => h) (Or.inl ⟨by rfl, ?_⟩) ?_ ?_
    rotate_left
    · intro w'
      go_simp
      (try (simp only [Instr.field]; simp only [underlying, hu27]; go_simp; simp only [asAgg]; go_simp))
      with_reducible rfl
    rotate_left
    · simp only [Act.put, List.setIfInBounds_toArray, List.set_cons_zero, List.set_cons_succ, i64_w, i32_w]
      rfl
    refine done_ (done_of HT_.out (by kernel_rfl)) ?_
    try go_wp2
    go_meet
    case rel => exact ⟨_, (decide (t435 > t440)), el_, H', ⟨by first | omega | exact Nat.le_refl _⟩, ⟨pr_ HO427.out⟩, ⟨pk_ BK434.out⟩, ⟨pb1_ HB.out GE434.out⟩⟩
  clear HC6
  try clear c1
  try clear c2
  try clear p2
  try clear c3
  try clear p6
  try clear c18
  try clear c22
  try clear c23
  try clear c26
  try clear c35
  obtain ⟨kq, x56_5, rfl, HA, HJ5, HO_435001, BK434, HB⟩ := hcut
  rcases kq with _ | kj5
  · exact absurd HA.out (by simp [laws_FnDamage.j0])
  have H := HA.out
  clear HA
  simp only [laws_FnDamage.j0] at H
  by_cases c39 : x56_5 = true
  · subst c39
    rw [if_pos rfl] at H
    obtain rfl := Option.some.inj H
    go_wp2
    go_ret
    exact ⟨er_, pb1_ HB.out GE434.out⟩
  replace c39 := Bool.eq_false_iff.mpr c39
  subst c39
  rw [if_neg (show ¬ (false = true) by decide)] at H
  replace H := Option.bind_eq_some_iff.mp H
  obtain ⟨⟨t441, t442, t445, t446, t447⟩, A400, H⟩ := H
  replace H : (laws_FnDamage.l0 kj5 l0 t447 0 0 t441 t442 t445 t446) = some r := H
  have A40 := Aside0.mk A400
  clear A400
  have H' := Aside0.mk H
  clear H
  go_wp2_with (first | ((with_reducible refine gate_callee (f := 48) rfl ?_); refine goesL_ (some 59) rfl rfl Try.func48 (by kernel_rfl) rfl #[.slice A0 l0.length c0] rfl mp_ ?_; (with_reducible refine (spec_DrawStageAfter.calls kj5 _ _ l0 t441 t442 t445 t446 t447 _ ?side1 ?side2 A40.out).mono ?_); (case side1 => exact pc_ (Kd.C_below HR0.out HB.out)); (case side2 => exact HC0.out); rintro e w41 ⟨v443, v448, rfl, ho0, ho1, hb⟩; refine ⟨_, rfl, ?_⟩; have n0_ := Aside0.mk (Kd.R_mono (Kd.R_told (Kd.R_told (Kd.R_old (pr_ HO_435001.out) hb) (Kd.R_base ho0)) (Kd.R_base ho1)) (fun _ h_ => h_.1)); have n1_ := Aside0.mk (Kd.R_lower (Kd.R_new' ho0 (Kd.R_lt (pr_ HO_435001.out))) (below_size (pb1_ HB.out GE434.out))); have n2_ := Aside0.mk (Kd.R_lower (Kd.R_new' ho1 (Kd.R_lt (pr_ HO_435001.out))) (below_size (pb1_ HB.out GE434.out))); have n3_ := Aside0.mk (bb_ BK434.out hb); have n4_ := Aside0.mk (below_step (pb1_ HB.out GE434.out) hb); clear HO_435001; clear BK434; clear HB; have HO_435001 := n0_; have HO444 := n1_; have HO449 := n2_; have BK434 := n3_; have HB := n4_; clear n0_ n1_ n2_ n3_ n4_; (try clear hb); (try clear hb2); (try clear hk); (try clear hi); (try clear ho0); (try clear ho1)) | ((with_reducible refine gate_dst (N := 7) rfl ?_); refine box_event ?hg (N := 7) ?hd (cs := #[.int .i64 0, .slice none 0 0, .int .i64 0, .bool false]) (t := 27) ?hr ?_; (case hd => rfl); (case hg => rfl); (case hr => first | (go_simp; done) | (go_simp; rfl)); intro gb450 hg w42 hbox hb; have n0_ := Aside0.mk (Kd.R_below (pr_ HO_435001.out) hb); have n1_ := Aside0.mk (Kd.R_below (pr_ HO444.out) hb); have n2_ := Aside0.mk (Kd.R_below (pr_ HO449.out) hb); have n3_ := Aside0.mk (bb_ BK434.out hb); have n4_ := Aside0.mk (below_step (pb1_ HB.out GE434.out) hb); have n5_ := Aside0.mk (hbox); have n6_ := Aside0.mk ((by rw [hg]; exact (below_size (pb1_ HB.out GE434.out)) : w.heap.size ≤ gb450)); have n7_ := Aside0.mk ((by rw [hg]; exact (below_size (pb1_ HB.out GE434.out)) : w.heap.size ≤ gb450)); have n8_ := Aside0.mk ((by rw [hg]; exact Nat.ne_of_lt (blk_lt (pk_ BK434.out)) : gb434 ≠ gb450)); have n9_ := Aside0.mk ((by rw [hg]; exact Nat.ne_of_gt (blk_lt (pk_ BK434.out)) : gb450 ≠ gb434)); clear HO_435001; clear HO444; clear HO449; clear BK434; clear HB; have HO_435001 := n0_; have HO444 := n1_; have HO449 := n2_; have BK434 := n3_; have HB := n4_; have BK450 := n5_; have GW450 := n6_; have GE450 := n7_; have NB434_450 := n8_; have NB450_434 := n9_; clear n0_ n1_ n2_ n3_ n4_ n5_ n6_ n7_ n8_ n9_; clear hb hbox hg; have hnb43 := NB450_434.out; have hnc43 := NB434_450.out; have hcz44_0 : w42.cell? ⟨gb450, 0, none⟩ = some (.int .i64 0) := (blk_cell BK450.out 0).trans rfl; have hcz44_1 : w42.cell? ⟨gb450, 1, none⟩ = some (.slice none 0 0) := (blk_cell BK450.out 1).trans rfl; have hcz44_2 : w42.cell? ⟨gb450, 2, none⟩ = some (.int .i64 0) := (blk_cell BK450.out 2).trans rfl; have hcz44_3 : w42.cell? ⟨gb450, 3, none⟩ = some (.bool false) := (blk_cell BK450.out 3).trans rfl; have hfz44_0 := blk_frozen BK450.out 0; have hfz44_1 := blk_frozen BK450.out 1; have hfz44_2 := blk_frozen BK450.out 2; have hfz44_3 := blk_frozen BK450.out 3; obtain ⟨Ao45, co45, eo45⟩ := Kd.R_slice HO444.out; subst eo45))
  (try simp only [Act.put, List.setIfInBounds_toArray, List.set_cons_zero, List.set_cons_succ])
  go_loopg [9, 10] kj5 (fun kq v9 v10 w' => ∃ (x9_2 : Int) (x10_2 : Int), v9 = .int .i64 x9_2 ∧ v10 = .int .i64 x10_2 ∧ Aside0 (laws_FnDamage.l0 kq l0 t447 x9_2 x10_2 t441 t442 t445 t446 = some r) ∧ Aside0 (kq ≤ kj5) ∧ Aside0 (Kd.R (Kd.int .i64) 3 w' w.heap.size (fun k_ => some k_ ≠ ((.slice Ao10 t425.length co10) : Value).ownBlock ∧ some k_ ≠ ((.slice Ao45 t442.length co45) : Value).ownBlock) v448 t447) ∧ Aside0 (Kd.R (Kd.int .i64) 3 w' w.heap.size (fun k_ => some k_ ≠ (v448 : Value).ownBlock ∧ some k_ ≠ ((.slice Ao45 t442.length co45) : Value).ownBlock) (.slice Ao10 t425.length co10) t425) ∧ Aside0 (Kd.R (Kd.int .i64) 3 w' w.heap.size (fun k_ => some k_ ≠ (v448 : Value).ownBlock ∧ some k_ ≠ ((.slice Ao10 t425.length co10) : Value).ownBlock) (.slice Ao45 t442.length co45) t442) ∧ Aside0 (w'.heap[gb434]? = some (.cells #[.int .i64 t424, (.slice Ao10 t425.length co10), .int .i64 t428, .bool t429] 27 (0, 0))) ∧ Aside0 (w'.heap[gb450]? = some (.cells #[.int .i64 t441, (.slice Ao45 t442.length co45), .int .i64 t445, .bool t446] 27 (0, 0))) ∧ Aside0 (Below w.heap.size w w'))
  case atStart => exact ⟨(0), (0), el_, el_, H', ⟨Nat.le_refl _⟩, ⟨by (with_reducible repeat (first | apply Kd.R_alloc | apply Kd.R_drewN | apply Kd.R_drew)); exact Kd.R_mono (Kd.R_far (p := ⟨gb450, 3, none⟩) (Kd.R_far (p := ⟨gb450, 2, none⟩) (Kd.R_far (p := ⟨gb450, 1, none⟩) (Kd.R_far (p := ⟨gb450, 0, none⟩) (Kd.R_types HO449.out BK450.out (by decide)) (fun _ hk => hk.2) (.int .i64 t441)) (fun _ hk => hk.2) (.slice Ao45 t442.length co45)) (fun _ hk => hk.2) (.int .i64 t445)) (fun _ hk => hk.2) (.bool t446)) (fun _ hk => ⟨hk.1.2, hk.1.1⟩)⟩, ⟨by (with_reducible repeat (first | apply Kd.R_alloc | apply Kd.R_drewN | apply Kd.R_drew)); exact Kd.R_mono (Kd.R_far (p := ⟨gb450, 3, none⟩) (Kd.R_far (p := ⟨gb450, 2, none⟩) (Kd.R_far (p := ⟨gb450, 1, none⟩) (Kd.R_far (p := ⟨gb450, 0, none⟩) (Kd.R_types HO_435001.out BK450.out (by decide)) (fun _ hk => hk.2) (.int .i64 t441)) (fun _ hk => hk.2) (.slice Ao45 t442.length co45)) (fun _ hk => hk.2) (.int .i64 t445)) (fun _ hk => hk.2) (.bool t446)) (fun _ hk => ⟨hk.1.2, hk.1.1.2⟩)⟩, ⟨by (with_reducible repeat (first | apply Kd.R_alloc | apply Kd.R_drewN | apply Kd.R_drew)); exact Kd.R_mono (Kd.R_far (p := ⟨gb450, 3, none⟩) (Kd.R_far (p := ⟨gb450, 2, none⟩) (Kd.R_far (p := ⟨gb450, 1, none⟩) (Kd.R_far (p := ⟨gb450, 0, none⟩) (Kd.R_types HO444.out BK450.out (by decide)) (fun _ hk => hk.2) (.int .i64 t441)) (fun _ hk => hk.2) (.slice Ao45 t442.length co45)) (fun _ hk => hk.2) (.int .i64 t445)) (fun _ hk => hk.2) (.bool t446)) (fun _ hk => ⟨hk.1.1, hk.1.2⟩)⟩, ⟨pp_ BK434.out⟩, ⟨pp_ BK450.out⟩, ⟨pb2_ HB.out GE434.out GE450.out⟩⟩
  clear H'
  try clear c1
  try clear c2
  try clear p2
  try clear c3
  try clear c4
  try clear p6
  try clear c18
  try clear c22
  try clear c23
  try clear c26
  try clear c35
  try clear c39
  try clear c43
  try clear hcz44_0
  try clear hcz44_1
  try clear hcz44_2
  try clear hcz44_3
  try clear hfz44_0
  try clear hfz44_1
  try clear hfz44_2
  try clear hfz44_3
  try clear p2
  try clear p6
  obtain ⟨x9_2, x10_2, rfl, rfl, HA, HK2, HO_8, HO_435001, HO_451001, BK434, BK450, HB⟩ := hrel
  rcases gk with _ | k2
  · exact absurd HA.out (by simp [laws_FnDamage.l0])
  have H := HA.out
  clear HA
  simp only [laws_FnDamage.l0] at H
  by_cases c46 : x10_2 < (t447.length : Int)
  · rw [if_pos c46] at H
    have c46b0 : decide (x10_2 < (t447.length : Int)) = true := decide_eq_true c46
    clear c46
    by_cases c47 : 0 ≤ x10_2
    rotate_left
    · rw [if_neg c47] at H
      exact absurd H (by simp)
    rw [if_pos c47] at H
    have c47b0 : decide (0 ≤ x10_2) = true := decide_eq_true c47
    clear c47
    by_cases c48 : (rd t447 x10_2) = 1
    rotate_left
    · rw [if_neg c48] at H
      have c48b0 : ((rd t447 x10_2) == 1) = false := beq_eq_false_iff_ne.mpr c48
      have c48b1 : ((rd t447 x10_2) != 1) = true := bne_iff_ne.mpr c48
      have H' := Aside0.mk H
      clear H
      obtain ⟨Ao49, co49, eo49⟩ := Kd.R_slice HO_8.out
      subst eo49
      have p451 : 0 ≤ (x10_2 : Int) := dt_
      have q451 : x10_2 < (t447.length : Int) := dt_
      obtain ⟨ad451, e451, hx451_0⟩ := Kd.at_int (Kd.R_reads' HO_8.out).2.2 x10_2 p451 q451
      cases e451
      replace p451 := eq_true p451
      replace q451 := eq_true q451
      go_wp2
      go_roundg k2
      case measure => have := HJ5.out; have := HK2.out; omega
      case rel => exact ⟨(x9_2), (wrap64 (x10_2 + 1)), el_, el_, H', ⟨by have := HJ5.out; have := HK2.out; omega⟩, ⟨pr_ HO_8.out⟩, ⟨pr_ HO_435001.out⟩, ⟨pr_ HO_451001.out⟩, ⟨pk_ BK434.out⟩, ⟨pk_ BK450.out⟩, ⟨pb2_ HB.out GE434.out GE450.out⟩⟩
    rw [if_pos c48] at H
    have c48b0 : ((rd t447 x10_2) == 1) = true := beq_iff_eq.mpr c48
    have c48b1 : ((rd t447 x10_2) != 1) = false := bne_eq_false_iff_eq.mpr c48
    clear c48
    have H' := Aside0.mk H
    clear H
    obtain ⟨Ao50, co50, eo50⟩ := Kd.R_slice HO_8.out
    subst eo50
    have p451 : 0 ≤ (x10_2 : Int) := dt_
    have q451 : x10_2 < (t447.length : Int) := dt_
    obtain ⟨ad451, e451, hx451_0⟩ := Kd.at_int (Kd.R_reads' HO_8.out).2.2 x10_2 p451 q451
    cases e451
    replace p451 := eq_true p451
    replace q451 := eq_true q451
    go_wp2
    go_roundg k2
    case measure => have := HJ5.out; have := HK2.out; omega
    case rel => exact ⟨(wrap64 (x9_2 + 1)), (wrap64 (x10_2 + 1)), el_, el_, H', ⟨by have := HJ5.out; have := HK2.out; omega⟩, ⟨pr_ HO_8.out⟩, ⟨pr_ HO_435001.out⟩, ⟨pr_ HO_451001.out⟩, ⟨pk_ BK434.out⟩, ⟨pk_ BK450.out⟩, ⟨pb2_ HB.out GE434.out GE450.out⟩⟩
  rw [if_neg c46] at H
  have c46b0 : decide (x10_2 < (t447.length : Int)) = false := decide_eq_false c46
  clear c46
  replace H := Option.bind_eq_some_iff.mp H
  obtain ⟨⟨t452, t453, t456, t457⟩, A510, H⟩ := H
  (try dsimp only at H)
  have A51 := Aside0.mk A510
  clear A510
  replace H := Option.bind_eq_some_iff.mp H
  obtain ⟨t459, A520, H⟩ := H
  (try dsimp only at H)
  have A52 := Aside0.mk A520
  clear A520
  have HC53 := Aside0.mk H
  clear H
  obtain ⟨Ao54, co54, eo54⟩ := Kd.R_slice HO_8.out
  subst eo54
  have hnb55 := NB450_434.out
  have hnc55 := NB434_450.out
  obtain ⟨hcz56_0, hcz56_1, hcz56_2, hcz56_3, hfz56_0, hfz56_1, hfz56_2, hfz56_3⟩ := bc4_ BK450.out
  go_upto_region 16 with (first | ((with_reducible refine gate_callee (f := 45) rfl ?_); refine goesL_ (some 77) rfl rfl Try.func45 (by kernel_rfl) rfl #[.agg #[.int .i64 t441, .slice Ao45 t442.length co45, .int .i64 t445, .bool t446], .slice Ao54 t447.length co54] rfl mp_ ?_; (with_reducible refine (impl_StageAfter.calls k2 t441 _ _ t442 t445 t446 _ _ t447 t452 t453 t456 t457 _ ?side1 ?side2 ?side3 ?side4 A51.out).mono ?_); (case side1 => exact pc_ ((Kd.R_reads' HO_451001.out).2.2)); (case side2 => exact (Kd.R_reads' HO_451001.out).2.1); (case side3 => exact pc_ ((Kd.R_reads' HO_8.out).2.2)); (case side4 => exact (Kd.R_reads' HO_8.out).2.1); rintro e w57 ⟨v454, rfl, ho0, hb⟩; refine ⟨_, rfl, ?_⟩; have n0_ := Aside0.mk (Kd.R_below (pr_ HO_8.out) hb); have n1_ := Aside0.mk (Kd.R_below (pr_ HO_435001.out) hb); have n2_ := Aside0.mk (Kd.R_below (pr_ HO_451001.out) hb); have n3_ := Aside0.mk (Kd.V_lower (Kd.V_mono (ok' := fun k_ => some k_ ≠ (.slice Ao54 t447.length co54 : Value).ownBlock ∧ some k_ ≠ (.slice Ao10 t425.length co10 : Value).ownBlock ∧ some k_ ≠ (.slice Ao45 t442.length co45 : Value).ownBlock ∧ k_ ≠ gb434 ∧ k_ ≠ gb450) ho0 (fun k_ hk_ => ⟨(Kd.fresh' (Kd.R_lt (pr_ HO_8.out)) k_ hk_), (Kd.fresh' (Kd.R_lt (pr_ HO_435001.out)) k_ hk_), (Kd.fresh' (Kd.R_lt (pr_ HO_451001.out)) k_ hk_), (Kd.freshB (g := gb434) (o := .cells #[.int .i64 t424, .slice Ao10 t425.length co10, .int .i64 t428, .bool t429] 27 (0, 0)) (pk_ BK434.out) k_ hk_), (Kd.freshB (g := gb450) (o := .cells #[.int .i64 t441, .slice Ao45 t442.length co45, .int .i64 t445, .bool t446] 27 (0, 0)) (pk_ BK450.out) k_ hk_)⟩)) (below_size (pb2_ HB.out GE434.out GE450.out))); have n4_ := Aside0.mk (bb_ BK434.out hb); have n5_ := Aside0.mk (bb_ BK450.out hb); have n6_ := Aside0.mk (below_step (pb2_ HB.out GE434.out GE450.out) hb); clear HO_8; clear HO_435001; clear HO_451001; clear BK434; clear BK450; clear HB; have HO_8 := n0_; have HO_435001 := n1_; have HO_451001 := n2_; have HO455 := n3_; have BK434 := n4_; have BK450 := n5_; have HB := n6_; clear n0_ n1_ n2_ n3_ n4_ n5_ n6_; (try clear hb); (try clear hb2); (try clear hk); (try clear hi); (try clear ho0)) | ((with_reducible refine gate_dst (N := 11) rfl ?_); refine box_event ?hg (N := 11) ?hd (cs := #[.int .i64 0, .slice none 0 0, .int .i64 0, .bool false]) (t := 27) ?hr ?_; (case hd => rfl); (case hg => rfl); (case hr => first | (go_simp; done) | (go_simp; rfl)); intro gb458 hg w58 hbox hb; have n0_ := Aside0.mk (Kd.R_below (pr_ HO_8.out) hb); have n1_ := Aside0.mk (Kd.R_below (pr_ HO_435001.out) hb); have n2_ := Aside0.mk (Kd.R_below (pr_ HO_451001.out) hb); have n3_ := Aside0.mk (Kd.V_below (Kd.V_elderB (by (with_reducible repeat (first | apply Kd.V_alloc | apply Kd.V_drewN | apply Kd.V_drew)); exact HO455.out) gb458 (Nat.le_of_eq hg.symm)) hb); have n4_ := Aside0.mk (bb_ BK434.out hb); have n5_ := Aside0.mk (bb_ BK450.out hb); have n6_ := Aside0.mk (below_step (pb2_ HB.out GE434.out GE450.out) hb); have n7_ := Aside0.mk (hbox); have n8_ := Aside0.mk ((by rw [hg]; exact (below_size (pb2_ HB.out GE434.out GE450.out)) : w.heap.size ≤ gb458)); have n9_ := Aside0.mk ((by rw [hg]; exact (below_size (pb2_ HB.out GE434.out GE450.out)) : w.heap.size ≤ gb458)); have n10_ := Aside0.mk ((by rw [hg]; exact Nat.ne_of_lt (blk_lt (pk_ BK434.out)) : gb434 ≠ gb458)); have n11_ := Aside0.mk ((by rw [hg]; exact Nat.ne_of_gt (blk_lt (pk_ BK434.out)) : gb458 ≠ gb434)); have n12_ := Aside0.mk ((by rw [hg]; exact Nat.ne_of_lt (blk_lt (pk_ BK450.out)) : gb450 ≠ gb458)); have n13_ := Aside0.mk ((by rw [hg]; exact Nat.ne_of_gt (blk_lt (pk_ BK450.out)) : gb458 ≠ gb450)); clear HO_8; clear HO_435001; clear HO_451001; clear HO455; clear BK434; clear BK450; clear HB; have HO_8 := n0_; have HO_435001 := n1_; have HO_451001 := n2_; have HO455 := n3_; have BK434 := n4_; have BK450 := n5_; have HB := n6_; have BK458 := n7_; have GW458 := n8_; have GE458 := n9_; have NB434_458 := n10_; have NB458_434 := n11_; have NB450_458 := n12_; have NB458_450 := n13_; clear n0_ n1_ n2_ n3_ n4_ n5_ n6_ n7_ n8_ n9_ n10_ n11_ n12_ n13_; clear hb hbox hg; have hnb59 := NB458_434.out; have hnc59 := NB434_458.out; have hnb60 := NB458_450.out; have hnc60 := NB450_458.out; have hcz61_0 : w58.cell? ⟨gb458, 0, none⟩ = some (.int .i64 0) := (blk_cell BK458.out 0).trans rfl; have hcz61_1 : w58.cell? ⟨gb458, 1, none⟩ = some (.slice none 0 0) := (blk_cell BK458.out 1).trans rfl; have hcz61_2 : w58.cell? ⟨gb458, 2, none⟩ = some (.int .i64 0) := (blk_cell BK458.out 2).trans rfl; have hcz61_3 : w58.cell? ⟨gb458, 3, none⟩ = some (.bool false) := (blk_cell BK458.out 3).trans rfl; have hfz61_0 := blk_frozen BK458.out 0; have hfz61_1 := blk_frozen BK458.out 1; have hfz61_2 := blk_frozen BK458.out 2; have hfz61_3 := blk_frozen BK458.out 3; obtain ⟨Ao62, co62, eo62⟩ := Kd.V_slice HO455.out; subst eo62) | ((with_reducible refine gate_store (t := 27) (p := 11) rfl ?_); refine store_event (t := 27) (p := 11) (v := ?vo_w63) (w1 := ((((w58.setCell ⟨gb458, 0, none⟩ (.int .i64 t452)).setCell ⟨gb458, 1, none⟩ (.slice Ao62 t453.length co62)).setCell ⟨gb458, 2, none⟩ (.int .i64 t456)).setCell ⟨gb458, 3, none⟩ (.bool t457))) ?hg ?ho ?hn ?hr ?_; (case ho => rfl); (case hg => rfl); (case hn => rfl); (case hr => first | (go_simp; done) | (go_simp; rfl)); intro w63 hw; have n0_ : Aside0 (Kd.R (Kd.int .i64) 3 w63 w.heap.size (fun k_ => some k_ ≠ (.slice Ao10 t425.length co10 : Value).ownBlock ∧ some k_ ≠ (.slice Ao45 t442.length co45 : Value).ownBlock) (.slice Ao54 t447.length co54) t447) := ⟨(by rw [hw]; exact (by (with_reducible repeat (first | apply Kd.R_alloc | apply Kd.R_drewN | apply Kd.R_drew)); exact Kd.R_mono (Kd.R_far (p := ⟨gb458, 3, none⟩) (Kd.R_far (p := ⟨gb458, 2, none⟩) (Kd.R_far (p := ⟨gb458, 1, none⟩) (Kd.R_far (p := ⟨gb458, 0, none⟩) (Kd.R_types HO_8.out BK458.out (by decide)) (fun _ hk => hk.2) (.int .i64 t452)) (fun _ hk => hk.2) (.slice Ao62 t453.length co62)) (fun _ hk => hk.2) (.int .i64 t456)) (fun _ hk => hk.2) (.bool t457)) (fun _ hk => ⟨hk.1.1, hk.1.2⟩)))⟩; have n1_ : Aside0 (Kd.R (Kd.int .i64) 3 w63 w.heap.size (fun k_ => some k_ ≠ (.slice Ao54 t447.length co54 : Value).ownBlock ∧ some k_ ≠ (.slice Ao45 t442.length co45 : Value).ownBlock) (.slice Ao10 t425.length co10) t425) := ⟨(by rw [hw]; exact (by (with_reducible repeat (first | apply Kd.R_alloc | apply Kd.R_drewN | apply Kd.R_drew)); exact Kd.R_mono (Kd.R_far (p := ⟨gb458, 3, none⟩) (Kd.R_far (p := ⟨gb458, 2, none⟩) (Kd.R_far (p := ⟨gb458, 1, none⟩) (Kd.R_far (p := ⟨gb458, 0, none⟩) (Kd.R_types HO_435001.out BK458.out (by decide)) (fun _ hk => hk.2) (.int .i64 t452)) (fun _ hk => hk.2) (.slice Ao62 t453.length co62)) (fun _ hk => hk.2) (.int .i64 t456)) (fun _ hk => hk.2) (.bool t457)) (fun _ hk => ⟨hk.1.1, hk.1.2⟩)))⟩; have n2_ : Aside0 (Kd.R (Kd.int .i64) 3 w63 w.heap.size (fun k_ => some k_ ≠ (.slice Ao54 t447.length co54 : Value).ownBlock ∧ some k_ ≠ (.slice Ao10 t425.length co10 : Value).ownBlock) (.slice Ao45 t442.length co45) t442) := ⟨(by rw [hw]; exact (by (with_reducible repeat (first | apply Kd.R_alloc | apply Kd.R_drewN | apply Kd.R_drew)); exact Kd.R_mono (Kd.R_far (p := ⟨gb458, 3, none⟩) (Kd.R_far (p := ⟨gb458, 2, none⟩) (Kd.R_far (p := ⟨gb458, 1, none⟩) (Kd.R_far (p := ⟨gb458, 0, none⟩) (Kd.R_types HO_451001.out BK458.out (by decide)) (fun _ hk => hk.2) (.int .i64 t452)) (fun _ hk => hk.2) (.slice Ao62 t453.length co62)) (fun _ hk => hk.2) (.int .i64 t456)) (fun _ hk => hk.2) (.bool t457)) (fun _ hk => ⟨hk.1.1, hk.1.2⟩)))⟩; have n3_ : Aside0 (Kd.V (Kd.int .i64) 3 w63 w.heap.size (fun k_ => some k_ ≠ (.slice Ao54 t447.length co54 : Value).ownBlock ∧ some k_ ≠ (.slice Ao10 t425.length co10 : Value).ownBlock ∧ some k_ ≠ (.slice Ao45 t442.length co45 : Value).ownBlock ∧ k_ ≠ gb434 ∧ k_ ≠ gb450 ∧ k_ ≠ gb458) (.slice Ao62 t453.length co62) t453) := ⟨(by rw [hw]; exact (by (with_reducible repeat (first | apply Kd.V_alloc | apply Kd.V_drewN | apply Kd.V_drew)); exact Kd.V_mono (Kd.V_far (p := ⟨gb458, 3, none⟩) (Kd.V_far (p := ⟨gb458, 2, none⟩) (Kd.V_far (p := ⟨gb458, 1, none⟩) (Kd.V_far (p := ⟨gb458, 0, none⟩) (Kd.V_mono HO455.out (fun k_ hk => (⟨hk, hk.2⟩ : _ ∧ k_ ≠ gb458))) (fun _ hk => hk.2) (.int .i64 t452)) (fun _ hk => hk.2) (.slice Ao62 t453.length co62)) (fun _ hk => hk.2) (.int .i64 t456)) (fun _ hk => hk.2) (.bool t457)) (fun _ hk => ⟨hk.1.1.1, ⟨hk.1.1.2.1, ⟨hk.1.1.2.2.1, ⟨hk.1.1.2.2.2.1, ⟨hk.1.1.2.2.2.2, hk.1.2⟩⟩⟩⟩⟩)))⟩; have n4_ : Aside0 (w63.heap[gb434]? = some (.cells #[.int .i64 t424, .slice Ao10 t425.length co10, .int .i64 t428, .bool t429] 27 (0, 0))) := ⟨(by rw [hw]; exact (pp_ BK434.out))⟩; have n5_ : Aside0 (w63.heap[gb450]? = some (.cells #[.int .i64 t441, .slice Ao45 t442.length co45, .int .i64 t445, .bool t446] 27 (0, 0))) := ⟨(by rw [hw]; exact (pp_ BK450.out))⟩; have n6_ : Aside0 (w63.heap[gb458]? = some (.cells #[.int .i64 t452, .slice Ao62 t453.length co62, .int .i64 t456, .bool t457] 27 (0, 0))) := ⟨(by rw [hw]; exact (pp_ BK458.out))⟩; have n7_ : Aside0 (Below w.heap.size w w63) := ⟨(by rw [hw]; exact (pb3_ HB.out GE434.out GE450.out GE458.out))⟩; clear hw; clear HO_8; clear HO_435001; clear HO_451001; clear HO455; clear BK434; clear BK450; clear BK458; clear HB; have HO_8 := n0_; have HO_435001 := n1_; have HO_451001 := n2_; have HO455 := n3_; have BK434 := n4_; have BK450 := n5_; have BK458 := n6_; have HB := n7_; clear n0_ n1_ n2_ n3_ n4_ n5_ n6_ n7_; have hcz64_0 : w63.cell? ⟨gb450, 0, none⟩ = some (.int .i64 t441) := (blk_cell BK450.out 0).trans rfl; have hcz64_1 : w63.cell? ⟨gb450, 1, none⟩ = some (.slice Ao45 t442.length co45) := (blk_cell BK450.out 1).trans rfl; have hcz64_2 : w63.cell? ⟨gb450, 2, none⟩ = some (.int .i64 t445) := (blk_cell BK450.out 2).trans rfl; have hcz64_3 : w63.cell? ⟨gb450, 3, none⟩ = some (.bool t446) := (blk_cell BK450.out 3).trans rfl; have hfz64_0 := blk_frozen BK450.out 0; have hfz64_1 := blk_frozen BK450.out 1; have hfz64_2 := blk_frozen BK450.out 2; have hfz64_3 := blk_frozen BK450.out 3) | ((with_reducible refine gate_callee (f := 42) rfl ?_); refine goesL_ (some 80) rfl rfl Try.func42 (by kernel_rfl) rfl #[.agg #[.int .i64 t441, .slice Ao45 t442.length co45, .int .i64 t445, .bool t446], .slice Ao54 t447.length co54] rfl mp_ ?_; (with_reducible refine (impl_PassedStages.calls k2 t441 (fun k_ => some k_ = (.slice Ao45 t442.length co45 : Value).ownBlock) _ _ t442 t445 t446 _ _ t447 t459 _ ?side1 ?side2 ?side3 A52.out).mono ?_); (case side1 => exact Kd.R_V (Kd.R_tight rfl (Kd.R_types (Kd.R_types (Kd.R_types (HO_451001.out) BK434.out (by decide)) BK450.out (by decide)) BK458.out (by decide)))); (case side2 => exact pc_ ((Kd.R_reads' HO_8.out).2.2)); (case side3 => exact (Kd.R_reads' HO_8.out).2.1); rintro e w65 ⟨rfl, hb⟩; refine ⟨_, rfl, ?_⟩; have n0_ := Aside0.mk (Kd.R_below (pr_ HO_8.out) hb); have n1_ := Aside0.mk (Kd.R_below (pr_ HO_435001.out) hb); have n2_ := Aside0.mk (Kd.R_below (pr_ HO_451001.out) hb); have n3_ := Aside0.mk (Kd.V_below (by (with_reducible repeat (first | apply Kd.V_alloc | apply Kd.V_drewN | apply Kd.V_drew)); exact HO455.out) hb); have n4_ := Aside0.mk (bb_ BK434.out hb); have n5_ := Aside0.mk (bb_ BK450.out hb); have n6_ := Aside0.mk (bb_ BK458.out hb); have n7_ := Aside0.mk (below_step (pb3_ HB.out GE434.out GE450.out GE458.out) hb); clear HO_8; clear HO_435001; clear HO_451001; clear HO455; clear BK434; clear BK450; clear BK458; clear HB; have HO_8 := n0_; have HO_435001 := n1_; have HO_451001 := n2_; have HO455 := n3_; have BK434 := n4_; have BK450 := n5_; have BK458 := n6_; have HB := n7_; clear n0_ n1_ n2_ n3_ n4_ n5_ n6_ n7_; (try clear hb); (try clear hb2); (try clear hk); (try clear hi)))
  (try simp only [Act.put, List.setIfInBounds_toArray, List.set_cons_zero, List.set_cons_succ])
  go_cut [108] (fun v108 wc => ∃ (kq : Nat) (x108_52 : Bool), v108 = .bool x108_52 ∧ Aside0 (laws_FnDamage.j2 kq l0 x108_52 = some r) ∧ Aside0 (kq ≤ k2) ∧ Aside0 (Kd.R (Kd.int .i64) 3 wc w.heap.size (fun k_ => some k_ ≠ ((.slice Ao45 t442.length co45) : Value).ownBlock) (.slice Ao10 t425.length co10) t425) ∧ Aside0 (Kd.R (Kd.int .i64) 3 wc w.heap.size (fun k_ => some k_ ≠ ((.slice Ao10 t425.length co10) : Value).ownBlock) (.slice Ao45 t442.length co45) t442) ∧ Aside0 (Kd.V (Kd.int .i64) 3 wc w.heap.size (fun k_ => some k_ ≠ ((.slice Ao10 t425.length co10) : Value).ownBlock ∧ some k_ ≠ ((.slice Ao45 t442.length co45) : Value).ownBlock ∧ k_ ≠ gb434 ∧ k_ ≠ gb450 ∧ k_ ≠ gb458) (.slice Ao62 t453.length co62) t453) ∧ Aside0 (wc.heap[gb434]? = some (.cells #[.int .i64 t424, (.slice Ao10 t425.length co10), .int .i64 t428, .bool t429] 27 (0, 0))) ∧ Aside0 (wc.heap[gb450]? = some (.cells #[.int .i64 t441, (.slice Ao45 t442.length co45), .int .i64 t445, .bool t446] 27 (0, 0))) ∧ Aside0 (wc.heap[gb458]? = some (.cells #[.int .i64 t452, (.slice Ao62 t453.length co62), .int .i64 t456, .bool t457] 27 (0, 0))) ∧ Aside0 (Below w.heap.size w wc))
  case first =>
    have H := HC53.out
    clear HC53
    replace H := Option.bind_eq_some_iff.mp H
    obtain ⟨t460, A660, H⟩ := H
    (try dsimp only at H)
    have A66 := Aside0.mk A660
    clear A660
    by_cases c67 : t460 = true
    rotate_left
    · replace c67 := Bool.eq_false_iff.mpr c67
      subst c67
      rw [if_neg (show ¬ (false = true) by decide)] at H
      have H' := Aside0.mk H
      clear H
      try go_wp2
      have n0_ := Aside0.mk (Kd.R_drew HO_8.out)
      have n1_ := Aside0.mk (Kd.R_drew HO_435001.out)
      have n2_ := Aside0.mk (Kd.R_drew HO_451001.out)
      have n3_ := Aside0.mk (Kd.V_drew HO455.out)
      have n4_ := Aside0.mk (blk_drew BK434.out)
      have n5_ := Aside0.mk (blk_drew BK450.out)
      have n6_ := Aside0.mk (blk_drew BK458.out)
      have n7_ := Aside0.mk (below_drew1 HB.out)
      clear HO_8
      clear HO_435001
      clear HO_451001
      clear HO455
      clear BK434
      clear BK450
      clear BK458
      clear HB
      have HO_8 := n0_
      have HO_435001 := n1_
      have HO_451001 := n2_
      have HO455 := n3_
      have BK434 := n4_
      have BK450 := n5_
      have BK458 := n6_
      have HB := n7_
      clear n0_ n1_ n2_ n3_ n4_ n5_ n6_ n7_
      refine start_ (n := 28) (S := fun w' => w'.cell? ⟨gb450, 0, none⟩ = some (.int .i64 t441) ∧ w'.cell? ⟨gb450, 1, none⟩ = some (.slice Ao45 t442.length co45) ∧ w'.cell? ⟨gb450, 2, none⟩ = some (.int .i64 t445) ∧ w'.cell? ⟨gb450, 3, none⟩ = some (.bool t446)) (ds := []) #[false, false, false, false, false, false, false, false, false, false, false, false, false, false, false, false, false, false, false, false, false, false, false, false, false, false, false, false] (by kernel_rfl) rfl rfl ⟨(blk_cell BK450.out 0).trans rfl, (blk_cell BK450.out 1).trans rfl, (blk_cell BK450.out 2).trans rfl, (blk_cell BK450.out 3).trans rfl⟩ (fun hHeld => ?_); refine with_tabW laws_FnDamage.tab16 laws_FnDamage.bits16 (fun HT_ HW_ => ?_)
      generalize w65.drew = w68 at HO_8 HO_435001 HO_451001 HO455 BK434 BK450 BK458 HB hHeld ⊢
      refine take_ (i := 0) (N := some 81) (v := ?_) (a' := ?_) #[true, false, false, false, false, false, false, false, false, false, false, false, false, false, false, false, false, false, false, false, false, false, false, false, false, false, false, false] rfl rfl (take_ofW HT_.out HW_.out (by kernel_rfl)) (fun _ _ _ h => h) (Or.inl ⟨by rfl, ?_⟩) hHeld ?_ ?_
      rotate_left
      · rintro w' ⟨s0, s1, s2, s3⟩
        go_simp
        (try (simp only [Instr.field]; simp only [underlying, hu27]; go_simp; simp only [asAgg]; go_simp))
        with_reducible rfl
      rotate_left
      · simp only [Act.put, List.setIfInBounds_toArray, List.set_cons_zero, List.set_cons_succ, i64_w, i32_w]
        rfl
      refine one_ (i := 1) (N := some 82) #[true, true, false, false, false, false, false, false, false, false, false, false, false, false, false, false, false, false, false, false, false, false, false, false, false, false, false, false] rfl rfl (one_of HT_.out (by kernel_rfl)) (by decide) (fun K hK => ?_)
      refine goes_ Try.func18 (by kernel_rfl) rfl #[.agg #[.int .i64 t441, .slice Ao45 t442.length co45, .int .i64 t445, .bool t446]] (by rfl) rfl rfl mp_ ?_
      with_reducible refine (impl_IsRollout.calls k2 t441 _ _ t442 t445 t446 false _ ?side1 ?side2 A66.out).mono ?_
      (case side1 => exact pc_ ((Kd.R_reads' HO_451001.out).2.2))
      (case side2 => exact (Kd.R_reads' HO_451001.out).2.1)
      rintro e w69 ⟨rfl, hb⟩
      refine ⟨_, rfl, ?_⟩
      have n0_ := Aside0.mk (Kd.R_below (pr_ HO_8.out) hb)
      have n1_ := Aside0.mk (Kd.R_below (pr_ HO_435001.out) hb)
      have n2_ := Aside0.mk (Kd.R_below (pr_ HO_451001.out) hb)
      have n3_ := Aside0.mk (Kd.V_below (by (with_reducible repeat (first | apply Kd.V_alloc | apply Kd.V_drewN | apply Kd.V_drew)); exact HO455.out) hb)
      have n4_ := Aside0.mk (bb_ BK434.out hb)
      have n5_ := Aside0.mk (bb_ BK450.out hb)
      have n6_ := Aside0.mk (bb_ BK458.out hb)
      have n7_ := Aside0.mk (below_step (pb3_ HB.out GE434.out GE450.out GE458.out) hb)
      clear HO_8
      clear HO_435001
      clear HO_451001
      clear HO455
      clear BK434
      clear BK450
      clear BK458
      clear HB
      have HO_8 := n0_
      have HO_435001 := n1_
      have HO_451001 := n2_
      have HO455 := n3_
      have BK434 := n4_
      have BK450 := n5_
      have BK458 := n6_
      have HB := n7_
      clear n0_ n1_ n2_ n3_ n4_ n5_ n6_ n7_
      (try clear hb)
      (try clear hb2)
      (try clear hk)
      (try clear hi)
      refine hK.out _ _ ⟨(blk_cell BK450.out 0).trans rfl, (blk_cell BK450.out 1).trans rfl, (blk_cell BK450.out 2).trans rfl, (blk_cell BK450.out 3).trans rfl⟩ (fun hHeld => ?_)
      clear hK K
      refine norm_ (a' := ?_) ?_ ?_
      rotate_left
      · show Act.put _ (some 82) _ = _
        simp only [Act.put, List.setIfInBounds_toArray, List.set_cons_zero, List.set_cons_succ, i64_w, i32_w]
        rfl
      refine pure_ (i := 2) (N := some 83) (v := ?_) (a' := ?_) #[true, true, true, false, false, false, false, false, false, false, false, false, false, false, false, false, false, false, false, false, false, false, false, false, false, false, false, false] rfl rfl (any_of HT_.out (by kernel_rfl)) (fun _ _ _ h => h) (Or.inl ⟨by rfl, ?_⟩) ?_ ?_
      rotate_left
      · intro w'
        go_simp
        (try (simp only [Instr.field]; simp only [underlying, hu27]; go_simp; simp only [asAgg]; go_simp))
        with_reducible rfl
      rotate_left
      · simp only [Act.put, List.setIfInBounds_toArray, List.set_cons_zero, List.set_cons_succ, i64_w, i32_w]
        rfl
      refine pure_ (i := 3) (N := some 84) (v := undef) (a' := ?_) #[true, true, true, true, false, false, false, false, false, false, false, false, false, false, false, false, false, false, false, false, false, false, false, false, false, false, false, false] rfl rfl (any_of HT_.out (by kernel_rfl)) (fun _ _ _ h => h) (Or.inr ⟨by rfl, rfl⟩) ?_ ?_
      rotate_left
      · simp only [Act.put, List.setIfInBounds_toArray, List.set_cons_zero, List.set_cons_succ, i64_w, i32_w]
        rfl
      refine pure_ (i := 4) (N := some 85) (v := undef) (a' := ?_) #[true, true, true, true, true, false, false, false, false, false, false, false, false, false, false, false, false, false, false, false, false, false, false, false, false, false, false, false] rfl rfl (any_of HT_.out (by kernel_rfl)) (fun _ _ _ h => h) (Or.inr ⟨by rfl, rfl⟩) ?_ ?_
      rotate_left
      · simp only [Act.put, List.setIfInBounds_toArray, List.set_cons_zero, List.set_cons_succ, i64_w, i32_w]
        rfl
      refine pure_ (i := 5) (N := some 86) (v := undef) (a' := ?_) #[true, true, true, true, true, true, false, false, false, false, false, false, false, false, false, false, false, false, false, false, false, false, false, false, false, false, false, false] rfl rfl (any_of HT_.out (by kernel_rfl)) (fun _ _ _ h => h) (Or.inr ⟨by rfl, rfl⟩) ?_ ?_
      rotate_left
      · simp only [Act.put, List.setIfInBounds_toArray, List.set_cons_zero, List.set_cons_succ, i64_w, i32_w]
        rfl
      refine pure_ (i := 6) (N := some 87) (v := undef) (a' := ?_) #[true, true, true, true, true, true, true, false, false, false, false, false, false, false, false, false, false, false, false, false, false, false, false, false, false, false, false, false] rfl rfl (any_of HT_.out (by kernel_rfl)) (fun _ _ _ h => h) (Or.inr ⟨by rfl, rfl⟩) ?_ ?_
      rotate_left
      · simp only [Act.put, List.setIfInBounds_toArray, List.set_cons_zero, List.set_cons_succ, i64_w, i32_w]
        rfl
      refine pure_ (i := 7) (N := some 88) (v := undef) (a' := ?_) #[true, true, true, true, true, true, true, true, false, false, false, false, false, false, false, false, false, false, false, false, false, false, false, false, false, false, false, false] rfl rfl (any_of HT_.out (by kernel_rfl)) (fun _ _ _ h => h) (Or.inr ⟨by rfl, rfl⟩) ?_ ?_
      rotate_left
      · simp only [Act.put, List.setIfInBounds_toArray, List.set_cons_zero, List.set_cons_succ, i64_w, i32_w]
        rfl
      refine pure_ (i := 8) (N := some 89) (v := undef) (a' := ?_) #[true, true, true, true, true, true, true, true, true, false, false, false, false, false, false, false, false, false, false, false, false, false, false, false, false, false, false, false] rfl rfl (any_of HT_.out (by kernel_rfl)) (fun _ _ _ h => h) (Or.inr ⟨by rfl, rfl⟩) ?_ ?_
      rotate_left
      · simp only [Act.put, List.setIfInBounds_toArray, List.set_cons_zero, List.set_cons_succ, i64_w, i32_w]
        rfl
      refine pure_ (i := 9) (N := some 90) (v := undef) (a' := ?_) #[true, true, true, true, true, true, true, true, true, true, false, false, false, false, false, false, false, false, false, false, false, false, false, false, false, false, false, false] rfl rfl (any_of HT_.out (by kernel_rfl)) (fun _ _ _ h => h) (Or.inr ⟨by rfl, rfl⟩) ?_ ?_
      rotate_left
      · simp only [Act.put, List.setIfInBounds_toArray, List.set_cons_zero, List.set_cons_succ, i64_w, i32_w]
        rfl
      refine pure_ (i := 10) (N := some 91) (v := undef) (a' := ?_) #[true, true, true, true, true, true, true, true, true, true, true, false, false, false, false, false, false, false, false, false, false, false, false, false, false, false, false, false] rfl rfl (any_of HT_.out (by kernel_rfl)) (fun _ _ _ h => h) (Or.inr ⟨by rfl, rfl⟩) ?_ ?_
      rotate_left
      · simp only [Act.put, List.setIfInBounds_toArray, List.set_cons_zero, List.set_cons_succ, i64_w, i32_w]
        rfl
      refine pure_ (i := 11) (N := some 92) (v := undef) (a' := ?_) #[true, true, true, true, true, true, true, true, true, true, true, true, false, false, false, false, false, false, false, false, false, false, false, false, false, false, false, false] rfl rfl (any_of HT_.out (by kernel_rfl)) (fun _ _ _ h => h) (Or.inr ⟨by rfl, rfl⟩) ?_ ?_
      rotate_left
      · simp only [Act.put, List.setIfInBounds_toArray, List.set_cons_zero, List.set_cons_succ, i64_w, i32_w]
        rfl
      refine pure_ (i := 12) (N := some 93) (v := undef) (a' := ?_) #[true, true, true, true, true, true, true, true, true, true, true, true, true, false, false, false, false, false, false, false, false, false, false, false, false, false, false, false] rfl rfl (any_of HT_.out (by kernel_rfl)) (fun _ _ _ h => h) (Or.inr ⟨by rfl, rfl⟩) ?_ ?_
      rotate_left
      · simp only [Act.put, List.setIfInBounds_toArray, List.set_cons_zero, List.set_cons_succ, i64_w, i32_w]
        rfl
      refine pure_ (i := 13) (N := some 94) (v := undef) (a' := ?_) #[true, true, true, true, true, true, true, true, true, true, true, true, true, true, false, false, false, false, false, false, false, false, false, false, false, false, false, false] rfl rfl (any_of HT_.out (by kernel_rfl)) (fun _ _ _ h => h) (Or.inr ⟨by rfl, rfl⟩) ?_ ?_
      rotate_left
      · simp only [Act.put, List.setIfInBounds_toArray, List.set_cons_zero, List.set_cons_succ, i64_w, i32_w]
        rfl
      refine pure_ (i := 14) (N := some 95) (v := undef) (a' := ?_) #[true, true, true, true, true, true, true, true, true, true, true, true, true, true, true, false, false, false, false, false, false, false, false, false, false, false, false, false] rfl rfl (any_of HT_.out (by kernel_rfl)) (fun _ _ _ h => h) (Or.inr ⟨by rfl, rfl⟩) ?_ ?_
      rotate_left
      · simp only [Act.put, List.setIfInBounds_toArray, List.set_cons_zero, List.set_cons_succ, i64_w, i32_w]
        rfl
      refine pure_ (i := 15) (N := some 96) (v := undef) (a' := ?_) #[true, true, true, true, true, true, true, true, true, true, true, true, true, true, true, true, false, false, false, false, false, false, false, false, false, false, false, false] rfl rfl (any_of HT_.out (by kernel_rfl)) (fun _ _ _ h => h) (Or.inr ⟨by rfl, rfl⟩) ?_ ?_
      rotate_left
      · simp only [Act.put, List.setIfInBounds_toArray, List.set_cons_zero, List.set_cons_succ, i64_w, i32_w]
        rfl
      refine pure_ (i := 16) (N := some 97) (v := undef) (a' := ?_) #[true, true, true, true, true, true, true, true, true, true, true, true, true, true, true, true, true, false, false, false, false, false, false, false, false, false, false, false] rfl rfl (any_of HT_.out (by kernel_rfl)) (fun _ _ _ h => h) (Or.inr ⟨by rfl, rfl⟩) ?_ ?_
      rotate_left
      · simp only [Act.put, List.setIfInBounds_toArray, List.set_cons_zero, List.set_cons_succ, i64_w, i32_w]
        rfl
      refine pure_ (i := 17) (N := some 98) (v := undef) (a' := ?_) #[true, true, true, true, true, true, true, true, true, true, true, true, true, true, true, true, true, true, false, false, false, false, false, false, false, false, false, false] rfl rfl (any_of HT_.out (by kernel_rfl)) (fun _ _ _ h => h) (Or.inr ⟨by rfl, rfl⟩) ?_ ?_
      rotate_left
      · simp only [Act.put, List.setIfInBounds_toArray, List.set_cons_zero, List.set_cons_succ, i64_w, i32_w]
        rfl
      refine pure_ (i := 18) (N := some 99) (v := undef) (a' := ?_) #[true, true, true, true, true, true, true, true, true, true, true, true, true, true, true, true, true, true, true, false, false, false, false, false, false, false, false, false] rfl rfl (any_of HT_.out (by kernel_rfl)) (fun _ _ _ h => h) (Or.inr ⟨by rfl, rfl⟩) ?_ ?_
      rotate_left
      · simp only [Act.put, List.setIfInBounds_toArray, List.set_cons_zero, List.set_cons_succ, i64_w, i32_w]
        rfl
      refine pure_ (i := 19) (N := some 100) (v := undef) (a' := ?_) #[true, true, true, true, true, true, true, true, true, true, true, true, true, true, true, true, true, true, true, true, false, false, false, false, false, false, false, false] rfl rfl (any_of HT_.out (by kernel_rfl)) (fun _ _ _ h => h) (Or.inr ⟨by rfl, rfl⟩) ?_ ?_
      rotate_left
      · simp only [Act.put, List.setIfInBounds_toArray, List.set_cons_zero, List.set_cons_succ, i64_w, i32_w]
        rfl
      refine pure_ (i := 20) (N := some 101) (v := undef) (a' := ?_) #[true, true, true, true, true, true, true, true, true, true, true, true, true, true, true, true, true, true, true, true, true, false, false, false, false, false, false, false] rfl rfl (any_of HT_.out (by kernel_rfl)) (fun _ _ _ h => h) (Or.inr ⟨by rfl, rfl⟩) ?_ ?_
      rotate_left
      · simp only [Act.put, List.setIfInBounds_toArray, List.set_cons_zero, List.set_cons_succ, i64_w, i32_w]
        rfl
      refine pure_ (i := 21) (N := some 102) (v := undef) (a' := ?_) #[true, true, true, true, true, true, true, true, true, true, true, true, true, true, true, true, true, true, true, true, true, true, false, false, false, false, false, false] rfl rfl (any_of HT_.out (by kernel_rfl)) (fun _ _ _ h => h) (Or.inr ⟨by rfl, rfl⟩) ?_ ?_
      rotate_left
      · simp only [Act.put, List.setIfInBounds_toArray, List.set_cons_zero, List.set_cons_succ, i64_w, i32_w]
        rfl
      refine pure_ (i := 22) (N := some 103) (v := undef) (a' := ?_) #[true, true, true, true, true, true, true, true, true, true, true, true, true, true, true, true, true, true, true, true, true, true, true, false, false, false, false, false] rfl rfl (any_of HT_.out (by kernel_rfl)) (fun _ _ _ h => h) (Or.inr ⟨by rfl, rfl⟩) ?_ ?_
      rotate_left
      · simp only [Act.put, List.setIfInBounds_toArray, List.set_cons_zero, List.set_cons_succ, i64_w, i32_w]
        rfl
      refine pure_ (i := 23) (N := some 104) (v := undef) (a' := ?_) #[true, true, true, true, true, true, true, true, true, true, true, true, true, true, true, true, true, true, true, true, true, true, true, true, false, false, false, false] rfl rfl (any_of HT_.out (by kernel_rfl)) (fun _ _ _ h => h) (Or.inr ⟨by rfl, rfl⟩) ?_ ?_
      rotate_left
      · simp only [Act.put, List.setIfInBounds_toArray, List.set_cons_zero, List.set_cons_succ, i64_w, i32_w]
        rfl
      refine pure_ (i := 24) (N := some 105) (v := undef) (a' := ?_) #[true, true, true, true, true, true, true, true, true, true, true, true, true, true, true, true, true, true, true, true, true, true, true, true, true, false, false, false] rfl rfl (any_of HT_.out (by kernel_rfl)) (fun _ _ _ h => h) (Or.inr ⟨by rfl, rfl⟩) ?_ ?_
      rotate_left
      · simp only [Act.put, List.setIfInBounds_toArray, List.set_cons_zero, List.set_cons_succ, i64_w, i32_w]
        rfl
      refine pure_ (i := 25) (N := some 106) (v := undef) (a' := ?_) #[true, true, true, true, true, true, true, true, true, true, true, true, true, true, true, true, true, true, true, true, true, true, true, true, true, true, false, false] rfl rfl (any_of HT_.out (by kernel_rfl)) (fun _ _ _ h => h) (Or.inr ⟨by rfl, rfl⟩) ?_ ?_
      rotate_left
      · simp only [Act.put, List.setIfInBounds_toArray, List.set_cons_zero, List.set_cons_succ, i64_w, i32_w]
        rfl
      refine pure_ (i := 26) (N := some 107) (v := undef) (a' := ?_) #[true, true, true, true, true, true, true, true, true, true, true, true, true, true, true, true, true, true, true, true, true, true, true, true, true, true, true, false] rfl rfl (any_of HT_.out (by kernel_rfl)) (fun _ _ _ h => h) (Or.inr ⟨by rfl, rfl⟩) ?_ ?_
      rotate_left
      · simp only [Act.put, List.setIfInBounds_toArray, List.set_cons_zero, List.set_cons_succ, i64_w, i32_w]
        rfl
      refine pure_ (i := 27) (N := some 108) (v := ?_) (a' := ?_) #[true, true, true, true, true, true, true, true, true, true, true, true, true, true, true, true, true, true, true, true, true, true, true, true, true, true, true, true] rfl rfl (any_of HT_.out (by kernel_rfl)) (fun _ _ _ h => h) (Or.inl ⟨by rfl, ?_⟩) ?_ ?_
      rotate_left
      · intro w'
        go_simp
        (try (simp only [Instr.field]; simp only [underlying, hu27]; go_simp; simp only [asAgg]; go_simp))
        with_reducible rfl
      rotate_left
      · simp only [Act.put, List.setIfInBounds_toArray, List.set_cons_zero, List.set_cons_succ, i64_w, i32_w]
        rfl
      refine done_ (done_of HT_.out (by kernel_rfl)) ?_
      try go_wp2
      go_meet
      case rel => exact ⟨_, (false), el_, H', ⟨by have := HJ5.out; have := HK2.out; first | omega | exact Nat.le_refl _⟩, ⟨pr_ (Kd.R_mono HO_435001.out (fun _ hk => hk.2))⟩, ⟨pr_ (Kd.R_mono HO_451001.out (fun _ hk => hk.2))⟩, ⟨by (with_reducible repeat (first | apply Kd.V_alloc | apply Kd.V_drewN | apply Kd.V_drew)); exact Kd.V_mono HO455.out (fun _ hk => ⟨hk.2.1, ⟨hk.2.2.1, ⟨hk.2.2.2.1, ⟨hk.2.2.2.2.1, hk.2.2.2.2.2⟩⟩⟩⟩)⟩, ⟨pk_ BK434.out⟩, ⟨pk_ BK450.out⟩, ⟨pk_ BK458.out⟩, ⟨pb3_ HB.out GE434.out GE450.out GE458.out⟩⟩
    subst c67
    rw [if_pos rfl] at H
    replace H := Option.bind_eq_some_iff.mp H
    obtain ⟨t461, A700, H⟩ := H
    (try dsimp only at H)
    have A70 := Aside0.mk A700
    clear A700
    by_cases c71 : t461 = true
    rotate_left
    · replace c71 := Bool.eq_false_iff.mpr c71
      subst c71
      rw [if_neg (show ¬ (false = true) by decide)] at H
      have H' := Aside0.mk H
      clear H
      try go_wp2
      have n0_ := Aside0.mk (Kd.R_drew HO_8.out)
      have n1_ := Aside0.mk (Kd.R_drew HO_435001.out)
      have n2_ := Aside0.mk (Kd.R_drew HO_451001.out)
      have n3_ := Aside0.mk (Kd.V_drew HO455.out)
      have n4_ := Aside0.mk (blk_drew BK434.out)
      have n5_ := Aside0.mk (blk_drew BK450.out)
      have n6_ := Aside0.mk (blk_drew BK458.out)
      have n7_ := Aside0.mk (below_drew1 HB.out)
      clear HO_8
      clear HO_435001
      clear HO_451001
      clear HO455
      clear BK434
      clear BK450
      clear BK458
      clear HB
      have HO_8 := n0_
      have HO_435001 := n1_
      have HO_451001 := n2_
      have HO455 := n3_
      have BK434 := n4_
      have BK450 := n5_
      have BK458 := n6_
      have HB := n7_
      clear n0_ n1_ n2_ n3_ n4_ n5_ n6_ n7_
      refine start_ (n := 28) (S := fun w' => w'.cell? ⟨gb450, 0, none⟩ = some (.int .i64 t441) ∧ w'.cell? ⟨gb450, 1, none⟩ = some (.slice Ao45 t442.length co45) ∧ w'.cell? ⟨gb450, 2, none⟩ = some (.int .i64 t445) ∧ w'.cell? ⟨gb450, 3, none⟩ = some (.bool t446) ∧ w'.cell? ⟨gb458, 0, none⟩ = some (.int .i64 t452) ∧ w'.cell? ⟨gb458, 1, none⟩ = some (.slice Ao62 t453.length co62) ∧ w'.cell? ⟨gb458, 2, none⟩ = some (.int .i64 t456) ∧ w'.cell? ⟨gb458, 3, none⟩ = some (.bool t457)) (ds := []) #[false, false, false, false, false, false, false, false, false, false, false, false, false, false, false, false, false, false, false, false, false, false, false, false, false, false, false, false] (by kernel_rfl) rfl rfl ⟨(blk_cell BK450.out 0).trans rfl, (blk_cell BK450.out 1).trans rfl, (blk_cell BK450.out 2).trans rfl, (blk_cell BK450.out 3).trans rfl, (blk_cell BK458.out 0).trans rfl, (blk_cell BK458.out 1).trans rfl, (blk_cell BK458.out 2).trans rfl, (blk_cell BK458.out 3).trans rfl⟩ (fun hHeld => ?_); refine with_tabW laws_FnDamage.tab16 laws_FnDamage.bits16 (fun HT_ HW_ => ?_)
      generalize w65.drew = w72 at HO_8 HO_435001 HO_451001 HO455 BK434 BK450 BK458 HB hHeld ⊢
      refine take_ (i := 0) (N := some 81) (v := ?_) (a' := ?_) #[true, false, false, false, false, false, false, false, false, false, false, false, false, false, false, false, false, false, false, false, false, false, false, false, false, false, false, false] rfl rfl (take_ofW HT_.out HW_.out (by kernel_rfl)) (fun _ _ _ h => h) (Or.inl ⟨by rfl, ?_⟩) hHeld ?_ ?_
      rotate_left
      · rintro w' ⟨s0, s1, s2, s3, s4, s5, s6, s7⟩
        go_simp
        (try (simp only [Instr.field]; simp only [underlying, hu27]; go_simp; simp only [asAgg]; go_simp))
        with_reducible rfl
      rotate_left
      · simp only [Act.put, List.setIfInBounds_toArray, List.set_cons_zero, List.set_cons_succ, i64_w, i32_w]
        rfl
      refine one_ (i := 1) (N := some 82) #[true, true, false, false, false, false, false, false, false, false, false, false, false, false, false, false, false, false, false, false, false, false, false, false, false, false, false, false] rfl rfl (one_of HT_.out (by kernel_rfl)) (by decide) (fun K hK => ?_)
      refine goes_ Try.func18 (by kernel_rfl) rfl #[.agg #[.int .i64 t441, .slice Ao45 t442.length co45, .int .i64 t445, .bool t446]] (by rfl) rfl rfl mp_ ?_
      with_reducible refine (impl_IsRollout.calls k2 t441 _ _ t442 t445 t446 true _ ?side1 ?side2 A66.out).mono ?_
      (case side1 => exact pc_ ((Kd.R_reads' HO_451001.out).2.2))
      (case side2 => exact (Kd.R_reads' HO_451001.out).2.1)
      rintro e w73 ⟨rfl, hb⟩
      refine ⟨_, rfl, ?_⟩
      have n0_ := Aside0.mk (Kd.R_below (pr_ HO_8.out) hb)
      have n1_ := Aside0.mk (Kd.R_below (pr_ HO_435001.out) hb)
      have n2_ := Aside0.mk (Kd.R_below (pr_ HO_451001.out) hb)
      have n3_ := Aside0.mk (Kd.V_below (by (with_reducible repeat (first | apply Kd.V_alloc | apply Kd.V_drewN | apply Kd.V_drew)); exact HO455.out) hb)
      have n4_ := Aside0.mk (bb_ BK434.out hb)
      have n5_ := Aside0.mk (bb_ BK450.out hb)
      have n6_ := Aside0.mk (bb_ BK458.out hb)
      have n7_ := Aside0.mk (below_step (pb3_ HB.out GE434.out GE450.out GE458.out) hb)
      clear HO_8
      clear HO_435001
      clear HO_451001
      clear HO455
      clear BK434
      clear BK450
      clear BK458
      clear HB
      have HO_8 := n0_
      have HO_435001 := n1_
      have HO_451001 := n2_
      have HO455 := n3_
      have BK434 := n4_
      have BK450 := n5_
      have BK458 := n6_
      have HB := n7_
      clear n0_ n1_ n2_ n3_ n4_ n5_ n6_ n7_
      (try clear hb)
      (try clear hb2)
      (try clear hk)
      (try clear hi)
      refine hK.out _ _ ⟨(blk_cell BK450.out 0).trans rfl, (blk_cell BK450.out 1).trans rfl, (blk_cell BK450.out 2).trans rfl, (blk_cell BK450.out 3).trans rfl, (blk_cell BK458.out 0).trans rfl, (blk_cell BK458.out 1).trans rfl, (blk_cell BK458.out 2).trans rfl, (blk_cell BK458.out 3).trans rfl⟩ (fun hHeld => ?_)
      clear hK K
      refine norm_ (a' := ?_) ?_ ?_
      rotate_left
      · show Act.put _ (some 82) _ = _
        simp only [Act.put, List.setIfInBounds_toArray, List.set_cons_zero, List.set_cons_succ, i64_w, i32_w]
        rfl
      refine pure_ (i := 2) (N := some 83) (v := ?_) (a' := ?_) #[true, true, true, false, false, false, false, false, false, false, false, false, false, false, false, false, false, false, false, false, false, false, false, false, false, false, false, false] rfl rfl (any_of HT_.out (by kernel_rfl)) (fun _ _ _ h => h) (Or.inl ⟨by rfl, ?_⟩) ?_ ?_
      rotate_left
      · intro w'
        go_simp
        (try (simp only [Instr.field]; simp only [underlying, hu27]; go_simp; simp only [asAgg]; go_simp))
        with_reducible rfl
      rotate_left
      · simp only [Act.put, List.setIfInBounds_toArray, List.set_cons_zero, List.set_cons_succ, i64_w, i32_w]
        rfl
      refine take_ (i := 3) (N := some 84) (v := ?_) (a' := ?_) #[true, true, true, true, false, false, false, false, false, false, false, false, false, false, false, false, false, false, false, false, false, false, false, false, false, false, false, false] rfl rfl (take_ofW HT_.out HW_.out (by kernel_rfl)) (fun _ _ _ h => h) (Or.inl ⟨by rfl, ?_⟩) hHeld ?_ ?_
      rotate_left
      · rintro w' ⟨s0, s1, s2, s3, s4, s5, s6, s7⟩
        go_simp
        (try (simp only [Instr.field]; simp only [underlying, hu27]; go_simp; simp only [asAgg]; go_simp))
        with_reducible rfl
      rotate_left
      · simp only [Act.put, List.setIfInBounds_toArray, List.set_cons_zero, List.set_cons_succ, i64_w, i32_w]
        rfl
      refine one_ (i := 4) (N := some 85) #[true, true, true, true, true, false, false, false, false, false, false, false, false, false, false, false, false, false, false, false, false, false, false, false, false, false, false, false] rfl rfl (one_of HT_.out (by kernel_rfl)) (by decide) (fun K hK => ?_)
      refine goes_ Try.func18 (by kernel_rfl) rfl #[.agg #[.int .i64 t452, .slice Ao62 t453.length co62, .int .i64 t456, .bool t457]] (by rfl) rfl rfl mp_ ?_
      with_reducible refine (impl_IsRollout.calls k2 t452 _ _ t453 t456 t457 false _ ?side1 ?side2 A70.out).mono ?_
      (case side1 => exact pc_ ((Kd.V_reads' HO455.out).2.2))
      (case side2 => exact (Kd.V_reads' HO455.out).2.1)
      rintro e w74 ⟨rfl, hb⟩
      refine ⟨_, rfl, ?_⟩
      have n0_ := Aside0.mk (Kd.R_below (pr_ HO_8.out) hb)
      have n1_ := Aside0.mk (Kd.R_below (pr_ HO_435001.out) hb)
      have n2_ := Aside0.mk (Kd.R_below (pr_ HO_451001.out) hb)
      have n3_ := Aside0.mk (Kd.V_below (by (with_reducible repeat (first | apply Kd.V_alloc | apply Kd.V_drewN | apply Kd.V_drew)); exact HO455.out) hb)
      have n4_ := Aside0.mk (bb_ BK434.out hb)
      have n5_ := Aside0.mk (bb_ BK450.out hb)
      have n6_ := Aside0.mk (bb_ BK458.out hb)
      have n7_ := Aside0.mk (below_step (pb3_ HB.out GE434.out GE450.out GE458.out) hb)
      clear HO_8
      clear HO_435001
      clear HO_451001
      clear HO455
      clear BK434
      clear BK450
      clear BK458
      clear HB
      have HO_8 := n0_
      have HO_435001 := n1_
      have HO_451001 := n2_
      have HO455 := n3_
      have BK434 := n4_
      have BK450 := n5_
      have BK458 := n6_
      have HB := n7_
      clear n0_ n1_ n2_ n3_ n4_ n5_ n6_ n7_
      (try clear hb)
      (try clear hb2)
      (try clear hk)
      (try clear hi)
      refine hK.out _ _ ⟨(blk_cell BK450.out 0).trans rfl, (blk_cell BK450.out 1).trans rfl, (blk_cell BK450.out 2).trans rfl, (blk_cell BK450.out 3).trans rfl, (blk_cell BK458.out 0).trans rfl, (blk_cell BK458.out 1).trans rfl, (blk_cell BK458.out 2).trans rfl, (blk_cell BK458.out 3).trans rfl⟩ (fun hHeld => ?_)
      clear hK K
      refine norm_ (a' := ?_) ?_ ?_
      rotate_left
      · show Act.put _ (some 85) _ = _
        simp only [Act.put, List.setIfInBounds_toArray, List.set_cons_zero, List.set_cons_succ, i64_w, i32_w]
        rfl
      refine pure_ (i := 5) (N := some 86) (v := ?_) (a' := ?_) #[true, true, true, true, true, true, false, false, false, false, false, false, false, false, false, false, false, false, false, false, false, false, false, false, false, false, false, false] rfl rfl (any_of HT_.out (by kernel_rfl)) (fun _ _ _ h => h) (Or.inl ⟨by rfl, ?_⟩) ?_ ?_
      rotate_left
      · intro w'
        go_simp
        (try (simp only [Instr.field]; simp only [underlying, hu27]; go_simp; simp only [asAgg]; go_simp))
        with_reducible rfl
      rotate_left
      · simp only [Act.put, List.setIfInBounds_toArray, List.set_cons_zero, List.set_cons_succ, i64_w, i32_w]
        rfl
      refine pure_ (i := 6) (N := some 87) (v := ?_) (a' := ?_) #[true, true, true, true, true, true, true, false, false, false, false, false, false, false, false, false, false, false, false, false, false, false, false, false, false, false, false, false] rfl rfl (any_of HT_.out (by kernel_rfl)) (fun _ _ _ h => h) (Or.inl ⟨by rfl, ?_⟩) ?_ ?_
      rotate_left
      · intro w'
        go_simp
        (try (simp only [Instr.field]; simp only [underlying, hu27]; go_simp; simp only [asAgg]; go_simp))
        with_reducible rfl
      rotate_left
      · simp only [Act.put, List.setIfInBounds_toArray, List.set_cons_zero, List.set_cons_succ, i64_w, i32_w]
        rfl
      refine pure_ (i := 7) (N := some 88) (v := undef) (a' := ?_) #[true, true, true, true, true, true, true, true, false, false, false, false, false, false, false, false, false, false, false, false, false, false, false, false, false, false, false, false] rfl rfl (any_of HT_.out (by kernel_rfl)) (fun _ _ _ h => h) (Or.inr ⟨by rfl, rfl⟩) ?_ ?_
      rotate_left
      · simp only [Act.put, List.setIfInBounds_toArray, List.set_cons_zero, List.set_cons_succ, i64_w, i32_w]
        rfl
      refine pure_ (i := 8) (N := some 89) (v := undef) (a' := ?_) #[true, true, true, true, true, true, true, true, true, false, false, false, false, false, false, false, false, false, false, false, false, false, false, false, false, false, false, false] rfl rfl (any_of HT_.out (by kernel_rfl)) (fun _ _ _ h => h) (Or.inr ⟨by rfl, rfl⟩) ?_ ?_
      rotate_left
      · simp only [Act.put, List.setIfInBounds_toArray, List.set_cons_zero, List.set_cons_succ, i64_w, i32_w]
        rfl
      refine pure_ (i := 9) (N := some 90) (v := ?_) (a' := ?_) #[true, true, true, true, true, true, true, true, true, true, false, false, false, false, false, false, false, false, false, false, false, false, false, false, false, false, false, false] rfl rfl (any_of HT_.out (by kernel_rfl)) (fun _ _ _ h => h) (Or.inl ⟨by rfl, ?_⟩) ?_ ?_
      rotate_left
      · intro w'
        go_simp
        (try (simp only [Instr.field]; simp only [underlying, hu27]; go_simp; simp only [asAgg]; go_simp))
        with_reducible rfl
      rotate_left
      · simp only [Act.put, List.setIfInBounds_toArray, List.set_cons_zero, List.set_cons_succ, i64_w, i32_w]
        rfl
      refine pure_ (i := 10) (N := some 91) (v := ?_) (a' := ?_) #[true, true, true, true, true, true, true, true, true, true, true, false, false, false, false, false, false, false, false, false, false, false, false, false, false, false, false, false] rfl rfl (any_of HT_.out (by kernel_rfl)) (fun _ _ _ h => h) (Or.inl ⟨by rfl, ?_⟩) ?_ ?_
      rotate_left
      · intro w'
        go_simp
        (try (simp only [Instr.field]; simp only [underlying, hu27]; go_simp; simp only [asAgg]; go_simp))
        with_reducible rfl
      rotate_left
      · simp only [Act.put, List.setIfInBounds_toArray, List.set_cons_zero, List.set_cons_succ, i64_w, i32_w]
        rfl
      refine pure_ (i := 11) (N := some 92) (v := undef) (a' := ?_) #[true, true, true, true, true, true, true, true, true, true, true, true, false, false, false, false, false, false, false, false, false, false, false, false, false, false, false, false] rfl rfl (any_of HT_.out (by kernel_rfl)) (fun _ _ _ h => h) (Or.inr ⟨by rfl, rfl⟩) ?_ ?_
      rotate_left
      · simp only [Act.put, List.setIfInBounds_toArray, List.set_cons_zero, List.set_cons_succ, i64_w, i32_w]
        rfl
      refine pure_ (i := 12) (N := some 93) (v := undef) (a' := ?_) #[true, true, true, true, true, true, true, true, true, true, true, true, true, false, false, false, false, false, false, false, false, false, false, false, false, false, false, false] rfl rfl (any_of HT_.out (by kernel_rfl)) (fun _ _ _ h => h) (Or.inr ⟨by rfl, rfl⟩) ?_ ?_
      rotate_left
      · simp only [Act.put, List.setIfInBounds_toArray, List.set_cons_zero, List.set_cons_succ, i64_w, i32_w]
        rfl
      refine pure_ (i := 13) (N := some 94) (v := undef) (a' := ?_) #[true, true, true, true, true, true, true, true, true, true, true, true, true, true, false, false, false, false, false, false, false, false, false, false, false, false, false, false] rfl rfl (any_of HT_.out (by kernel_rfl)) (fun _ _ _ h => h) (Or.inr ⟨by rfl, rfl⟩) ?_ ?_
      rotate_left
      · simp only [Act.put, List.setIfInBounds_toArray, List.set_cons_zero, List.set_cons_succ, i64_w, i32_w]
        rfl
      refine pure_ (i := 14) (N := some 95) (v := undef) (a' := ?_) #[true, true, true, true, true, true, true, true, true, true, true, true, true, true, true, false, false, false, false, false, false, false, false, false, false, false, false, false] rfl rfl (any_of HT_.out (by kernel_rfl)) (fun _ _ _ h => h) (Or.inr ⟨by rfl, rfl⟩) ?_ ?_
      rotate_left
      · simp only [Act.put, List.setIfInBounds_toArray, List.set_cons_zero, List.set_cons_succ, i64_w, i32_w]
        rfl
      refine pure_ (i := 15) (N := some 96) (v := undef) (a' := ?_) #[true, true, true, true, true, true, true, true, true, true, true, true, true, true, true, true, false, false, false, false, false, false, false, false, false, false, false, false] rfl rfl (any_of HT_.out (by kernel_rfl)) (fun _ _ _ h => h) (Or.inr ⟨by rfl, rfl⟩) ?_ ?_
      rotate_left
      · simp only [Act.put, List.setIfInBounds_toArray, List.set_cons_zero, List.set_cons_succ, i64_w, i32_w]
        rfl
      refine pure_ (i := 16) (N := some 97) (v := undef) (a' := ?_) #[true, true, true, true, true, true, true, true, true, true, true, true, true, true, true, true, true, false, false, false, false, false, false, false, false, false, false, false] rfl rfl (any_of HT_.out (by kernel_rfl)) (fun _ _ _ h => h) (Or.inr ⟨by rfl, rfl⟩) ?_ ?_
      rotate_left
      · simp only [Act.put, List.setIfInBounds_toArray, List.set_cons_zero, List.set_cons_succ, i64_w, i32_w]
        rfl
      refine pure_ (i := 17) (N := some 98) (v := undef) (a' := ?_) #[true, true, true, true, true, true, true, true, true, true, true, true, true, true, true, true, true, true, false, false, false, false, false, false, false, false, false, false] rfl rfl (any_of HT_.out (by kernel_rfl)) (fun _ _ _ h => h) (Or.inr ⟨by rfl, rfl⟩) ?_ ?_
      rotate_left
      · simp only [Act.put, List.setIfInBounds_toArray, List.set_cons_zero, List.set_cons_succ, i64_w, i32_w]
        rfl
      refine pure_ (i := 18) (N := some 99) (v := ?_) (a' := ?_) #[true, true, true, true, true, true, true, true, true, true, true, true, true, true, true, true, true, true, true, false, false, false, false, false, false, false, false, false] rfl rfl (any_of HT_.out (by kernel_rfl)) (fun _ _ _ h => h) (Or.inl ⟨by rfl, ?_⟩) ?_ ?_
      rotate_left
      · intro w'
        go_simp
        (try (simp only [Instr.field]; simp only [underlying, hu27]; go_simp; simp only [asAgg]; go_simp))
        with_reducible rfl
      rotate_left
      · simp only [Act.put, List.setIfInBounds_toArray, List.set_cons_zero, List.set_cons_succ, i64_w, i32_w]
        rfl
      refine pure_ (i := 19) (N := some 100) (v := ?_) (a' := ?_) #[true, true, true, true, true, true, true, true, true, true, true, true, true, true, true, true, true, true, true, true, false, false, false, false, false, false, false, false] rfl rfl (any_of HT_.out (by kernel_rfl)) (fun _ _ _ h => h) (Or.inl ⟨by rfl, ?_⟩) ?_ ?_
      rotate_left
      · intro w'
        go_simp
        (try (simp only [Instr.field]; simp only [underlying, hu27]; go_simp; simp only [asAgg]; go_simp))
        with_reducible rfl
      rotate_left
      · simp only [Act.put, List.setIfInBounds_toArray, List.set_cons_zero, List.set_cons_succ, i64_w, i32_w]
        rfl
      refine pure_ (i := 20) (N := some 101) (v := undef) (a' := ?_) #[true, true, true, true, true, true, true, true, true, true, true, true, true, true, true, true, true, true, true, true, true, false, false, false, false, false, false, false] rfl rfl (any_of HT_.out (by kernel_rfl)) (fun _ _ _ h => h) (Or.inr ⟨by rfl, rfl⟩) ?_ ?_
      rotate_left
      · simp only [Act.put, List.setIfInBounds_toArray, List.set_cons_zero, List.set_cons_succ, i64_w, i32_w]
        rfl
      refine pure_ (i := 21) (N := some 102) (v := undef) (a' := ?_) #[true, true, true, true, true, true, true, true, true, true, true, true, true, true, true, true, true, true, true, true, true, true, false, false, false, false, false, false] rfl rfl (any_of HT_.out (by kernel_rfl)) (fun _ _ _ h => h) (Or.inr ⟨by rfl, rfl⟩) ?_ ?_
      rotate_left
      · simp only [Act.put, List.setIfInBounds_toArray, List.set_cons_zero, List.set_cons_succ, i64_w, i32_w]
        rfl
      refine pure_ (i := 22) (N := some 103) (v := undef) (a' := ?_) #[true, true, true, true, true, true, true, true, true, true, true, true, true, true, true, true, true, true, true, true, true, true, true, false, false, false, false, false] rfl rfl (any_of HT_.out (by kernel_rfl)) (fun _ _ _ h => h) (Or.inr ⟨by rfl, rfl⟩) ?_ ?_
      rotate_left
      · simp only [Act.put, List.setIfInBounds_toArray, List.set_cons_zero, List.set_cons_succ, i64_w, i32_w]
        rfl
      refine pure_ (i := 23) (N := some 104) (v := undef) (a' := ?_) #[true, true, true, true, true, true, true, true, true, true, true, true, true, true, true, true, true, true, true, true, true, true, true, true, false, false, false, false] rfl rfl (any_of HT_.out (by kernel_rfl)) (fun _ _ _ h => h) (Or.inr ⟨by rfl, rfl⟩) ?_ ?_
      rotate_left
      · simp only [Act.put, List.setIfInBounds_toArray, List.set_cons_zero, List.set_cons_succ, i64_w, i32_w]
        rfl
      refine pure_ (i := 24) (N := some 105) (v := undef) (a' := ?_) #[true, true, true, true, true, true, true, true, true, true, true, true, true, true, true, true, true, true, true, true, true, true, true, true, true, false, false, false] rfl rfl (any_of HT_.out (by kernel_rfl)) (fun _ _ _ h => h) (Or.inr ⟨by rfl, rfl⟩) ?_ ?_
      rotate_left
      · simp only [Act.put, List.setIfInBounds_toArray, List.set_cons_zero, List.set_cons_succ, i64_w, i32_w]
        rfl
      refine pure_ (i := 25) (N := some 106) (v := undef) (a' := ?_) #[true, true, true, true, true, true, true, true, true, true, true, true, true, true, true, true, true, true, true, true, true, true, true, true, true, true, false, false] rfl rfl (any_of HT_.out (by kernel_rfl)) (fun _ _ _ h => h) (Or.inr ⟨by rfl, rfl⟩) ?_ ?_
      rotate_left
      · simp only [Act.put, List.setIfInBounds_toArray, List.set_cons_zero, List.set_cons_succ, i64_w, i32_w]
        rfl
      refine pure_ (i := 26) (N := some 107) (v := ?_) (a' := ?_) #[true, true, true, true, true, true, true, true, true, true, true, true, true, true, true, true, true, true, true, true, true, true, true, true, true, true, true, false] rfl rfl (any_of HT_.out (by kernel_rfl)) (fun _ _ _ h => h) (Or.inl ⟨by rfl, ?_⟩) ?_ ?_
      rotate_left
      · intro w'
        go_simp
        (try (simp only [Instr.field]; simp only [underlying, hu27]; go_simp; simp only [asAgg]; go_simp))
        with_reducible rfl
      rotate_left
      · simp only [Act.put, List.setIfInBounds_toArray, List.set_cons_zero, List.set_cons_succ, i64_w, i32_w]
        rfl
      refine pure_ (i := 27) (N := some 108) (v := ?_) (a' := ?_) #[true, true, true, true, true, true, true, true, true, true, true, true, true, true, true, true, true, true, true, true, true, true, true, true, true, true, true, true] rfl rfl (any_of HT_.out (by kernel_rfl)) (fun _ _ _ h => h) (Or.inl ⟨by rfl, ?_⟩) ?_ ?_
      rotate_left
      · intro w'
        go_simp
        (try (simp only [Instr.field]; simp only [underlying, hu27]; go_simp; simp only [asAgg]; go_simp))
        with_reducible rfl
      rotate_left
      · simp only [Act.put, List.setIfInBounds_toArray, List.set_cons_zero, List.set_cons_succ, i64_w, i32_w]
        rfl
      refine done_ (done_of HT_.out (by kernel_rfl)) ?_
      try go_wp2
      go_meet
      case rel => exact ⟨_, (true), el_, H', ⟨by have := HJ5.out; have := HK2.out; first | omega | exact Nat.le_refl _⟩, ⟨pr_ (Kd.R_mono HO_435001.out (fun _ hk => hk.2))⟩, ⟨pr_ (Kd.R_mono HO_451001.out (fun _ hk => hk.2))⟩, ⟨by (with_reducible repeat (first | apply Kd.V_alloc | apply Kd.V_drewN | apply Kd.V_drew)); exact Kd.V_mono HO455.out (fun _ hk => ⟨hk.2.1, ⟨hk.2.2.1, ⟨hk.2.2.2.1, ⟨hk.2.2.2.2.1, hk.2.2.2.2.2⟩⟩⟩⟩)⟩, ⟨pk_ BK434.out⟩, ⟨pk_ BK450.out⟩, ⟨pk_ BK458.out⟩, ⟨pb3_ HB.out GE434.out GE450.out GE458.out⟩⟩
    subst c71
    rw [if_pos rfl] at H
    by_cases c75 : t459 < 1
    · rw [if_pos c75] at H
      have c75b0 : decide (t459 < 1) = true := decide_eq_true c75
      clear c75
      (first | rw [c75b0] | (simp only [i64_w, i32_w]; rw [c75b0]) | skip)
      have H' := Aside0.mk H
      clear H
      try go_wp2
      have n0_ := Aside0.mk (Kd.R_drew HO_8.out)
      have n1_ := Aside0.mk (Kd.R_drew HO_435001.out)
      have n2_ := Aside0.mk (Kd.R_drew HO_451001.out)
      have n3_ := Aside0.mk (Kd.V_drew HO455.out)
      have n4_ := Aside0.mk (blk_drew BK434.out)
      have n5_ := Aside0.mk (blk_drew BK450.out)
      have n6_ := Aside0.mk (blk_drew BK458.out)
      have n7_ := Aside0.mk (below_drew1 HB.out)
      clear HO_8
      clear HO_435001
      clear HO_451001
      clear HO455
      clear BK434
      clear BK450
      clear BK458
      clear HB
      have HO_8 := n0_
      have HO_435001 := n1_
      have HO_451001 := n2_
      have HO455 := n3_
      have BK434 := n4_
      have BK450 := n5_
      have BK458 := n6_
      have HB := n7_
      clear n0_ n1_ n2_ n3_ n4_ n5_ n6_ n7_
      refine start_ (n := 28) (S := fun w' => w'.cell? ⟨gb450, 0, none⟩ = some (.int .i64 t441) ∧ w'.cell? ⟨gb450, 1, none⟩ = some (.slice Ao45 t442.length co45) ∧ w'.cell? ⟨gb450, 2, none⟩ = some (.int .i64 t445) ∧ w'.cell? ⟨gb450, 3, none⟩ = some (.bool t446) ∧ w'.cell? ⟨gb458, 0, none⟩ = some (.int .i64 t452) ∧ w'.cell? ⟨gb458, 1, none⟩ = some (.slice Ao62 t453.length co62) ∧ w'.cell? ⟨gb458, 2, none⟩ = some (.int .i64 t456) ∧ w'.cell? ⟨gb458, 3, none⟩ = some (.bool t457)) (ds := []) #[false, false, false, false, false, false, false, false, false, false, false, false, false, false, false, false, false, false, false, false, false, false, false, false, false, false, false, false] (by kernel_rfl) rfl rfl ⟨(blk_cell BK450.out 0).trans rfl, (blk_cell BK450.out 1).trans rfl, (blk_cell BK450.out 2).trans rfl, (blk_cell BK450.out 3).trans rfl, (blk_cell BK458.out 0).trans rfl, (blk_cell BK458.out 1).trans rfl, (blk_cell BK458.out 2).trans rfl, (blk_cell BK458.out 3).trans rfl⟩ (fun hHeld => ?_); refine with_tabW laws_FnDamage.tab16 laws_FnDamage.bits16 (fun HT_ HW_ => ?_)
      generalize w65.drew = w76 at HO_8 HO_435001 HO_451001 HO455 BK434 BK450 BK458 HB hHeld ⊢
      refine take_ (i := 0) (N := some 81) (v := ?_) (a' := ?_) #[true, false, false, false, false, false, false, false, false, false, false, false, false, false, false, false, false, false, false, false, false, false, false, false, false, false, false, false] rfl rfl (take_ofW HT_.out HW_.out (by kernel_rfl)) (fun _ _ _ h => h) (Or.inl ⟨by rfl, ?_⟩) hHeld ?_ ?_
      rotate_left
      · rintro w' ⟨s0, s1, s2, s3, s4, s5, s6, s7⟩
        go_simp
        (try (simp only [Instr.field]; simp only [underlying, hu27]; go_simp; simp only [asAgg]; go_simp))
        with_reducible rfl
      rotate_left
      · simp only [Act.put, List.setIfInBounds_toArray, List.set_cons_zero, List.set_cons_succ, i64_w, i32_w]
        rfl
      refine one_ (i := 1) (N := some 82) #[true, true, false, false, false, false, false, false, false, false, false, false, false, false, false, false, false, false, false, false, false, false, false, false, false, false, false, false] rfl rfl (one_of HT_.out (by kernel_rfl)) (by decide) (fun K hK => ?_)
      refine goes_ Try.func18 (by kernel_rfl) rfl #[.agg #[.int .i64 t441, .slice Ao45 t442.length co45, .int .i64 t445, .bool t446]] (by rfl) rfl rfl mp_ ?_
      with_reducible refine (impl_IsRollout.calls k2 t441 _ _ t442 t445 t446 true _ ?side1 ?side2 A66.out).mono ?_
      (case side1 => exact pc_ ((Kd.R_reads' HO_451001.out).2.2))
      (case side2 => exact (Kd.R_reads' HO_451001.out).2.1)
      rintro e w77 ⟨rfl, hb⟩
      refine ⟨_, rfl, ?_⟩
      have n0_ := Aside0.mk (Kd.R_below (pr_ HO_8.out) hb)
      have n1_ := Aside0.mk (Kd.R_below (pr_ HO_435001.out) hb)
      have n2_ := Aside0.mk (Kd.R_below (pr_ HO_451001.out) hb)
      have n3_ := Aside0.mk (Kd.V_below (by (with_reducible repeat (first | apply Kd.V_alloc | apply Kd.V_drewN | apply Kd.V_drew)); exact HO455.out) hb)
      have n4_ := Aside0.mk (bb_ BK434.out hb)
      have n5_ := Aside0.mk (bb_ BK450.out hb)
      have n6_ := Aside0.mk (bb_ BK458.out hb)
      have n7_ := Aside0.mk (below_step (pb3_ HB.out GE434.out GE450.out GE458.out) hb)
      clear HO_8
      clear HO_435001
      clear HO_451001
      clear HO455
      clear BK434
      clear BK450
      clear BK458
      clear HB
      have HO_8 := n0_
      have HO_435001 := n1_
      have HO_451001 := n2_
      have HO455 := n3_
      have BK434 := n4_
      have BK450 := n5_
      have BK458 := n6_
      have HB := n7_
      clear n0_ n1_ n2_ n3_ n4_ n5_ n6_ n7_
      (try clear hb)
      (try clear hb2)
      (try clear hk)
      (try clear hi)
      refine hK.out _ _ ⟨(blk_cell BK450.out 0).trans rfl, (blk_cell BK450.out 1).trans rfl, (blk_cell BK450.out 2).trans rfl, (blk_cell BK450.out 3).trans rfl, (blk_cell BK458.out 0).trans rfl, (blk_cell BK458.out 1).trans rfl, (blk_cell BK458.out 2).trans rfl, (blk_cell BK458.out 3).trans rfl⟩ (fun hHeld => ?_)
      clear hK K
      refine norm_ (a' := ?_) ?_ ?_
      rotate_left
      · show Act.put _ (some 82) _ = _
        simp only [Act.put, List.setIfInBounds_toArray, List.set_cons_zero, List.set_cons_succ, i64_w, i32_w]
        rfl
      refine pure_ (i := 2) (N := some 83) (v := ?_) (a' := ?_) #[true, true, true, false, false, false, false, false, false, false, false, false, false, false, false, false, false, false, false, false, false, false, false, false, false, false, false, false] rfl rfl (any_of HT_.out (by kernel_rfl)) (fun _ _ _ h => h) (Or.inl ⟨by rfl, ?_⟩) ?_ ?_
      rotate_left
      · intro w'
        go_simp
        (try (simp only [Instr.field]; simp only [underlying, hu27]; go_simp; simp only [asAgg]; go_simp))
        with_reducible rfl
      rotate_left
      · simp only [Act.put, List.setIfInBounds_toArray, List.set_cons_zero, List.set_cons_succ, i64_w, i32_w]
        rfl
      refine take_ (i := 3) (N := some 84) (v := ?_) (a' := ?_) #[true, true, true, true, false, false, false, false, false, false, false, false, false, false, false, false, false, false, false, false, false, false, false, false, false, false, false, false] rfl rfl (take_ofW HT_.out HW_.out (by kernel_rfl)) (fun _ _ _ h => h) (Or.inl ⟨by rfl, ?_⟩) hHeld ?_ ?_
      rotate_left
      · rintro w' ⟨s0, s1, s2, s3, s4, s5, s6, s7⟩
        go_simp
        (try (simp only [Instr.field]; simp only [underlying, hu27]; go_simp; simp only [asAgg]; go_simp))
        with_reducible rfl
      rotate_left
      · simp only [Act.put, List.setIfInBounds_toArray, List.set_cons_zero, List.set_cons_succ, i64_w, i32_w]
        rfl
      refine one_ (i := 4) (N := some 85) #[true, true, true, true, true, false, false, false, false, false, false, false, false, false, false, false, false, false, false, false, false, false, false, false, false, false, false, false] rfl rfl (one_of HT_.out (by kernel_rfl)) (by decide) (fun K hK => ?_)
      refine goes_ Try.func18 (by kernel_rfl) rfl #[.agg #[.int .i64 t452, .slice Ao62 t453.length co62, .int .i64 t456, .bool t457]] (by rfl) rfl rfl mp_ ?_
      with_reducible refine (impl_IsRollout.calls k2 t452 _ _ t453 t456 t457 true _ ?side1 ?side2 A70.out).mono ?_
      (case side1 => exact pc_ ((Kd.V_reads' HO455.out).2.2))
      (case side2 => exact (Kd.V_reads' HO455.out).2.1)
      rintro e w78 ⟨rfl, hb⟩
      refine ⟨_, rfl, ?_⟩
      have n0_ := Aside0.mk (Kd.R_below (pr_ HO_8.out) hb)
      have n1_ := Aside0.mk (Kd.R_below (pr_ HO_435001.out) hb)
      have n2_ := Aside0.mk (Kd.R_below (pr_ HO_451001.out) hb)
      have n3_ := Aside0.mk (Kd.V_below (by (with_reducible repeat (first | apply Kd.V_alloc | apply Kd.V_drewN | apply Kd.V_drew)); exact HO455.out) hb)
      have n4_ := Aside0.mk (bb_ BK434.out hb)
      have n5_ := Aside0.mk (bb_ BK450.out hb)
      have n6_ := Aside0.mk (bb_ BK458.out hb)
      have n7_ := Aside0.mk (below_step (pb3_ HB.out GE434.out GE450.out GE458.out) hb)
      clear HO_8
      clear HO_435001
      clear HO_451001
      clear HO455
      clear BK434
      clear BK450
      clear BK458
      clear HB
      have HO_8 := n0_
      have HO_435001 := n1_
      have HO_451001 := n2_
      have HO455 := n3_
      have BK434 := n4_
      have BK450 := n5_
      have BK458 := n6_
      have HB := n7_
      clear n0_ n1_ n2_ n3_ n4_ n5_ n6_ n7_
      (try clear hb)
      (try clear hb2)
      (try clear hk)
      (try clear hi)
      refine hK.out _ _ ⟨(blk_cell BK450.out 0).trans rfl, (blk_cell BK450.out 1).trans rfl, (blk_cell BK450.out 2).trans rfl, (blk_cell BK450.out 3).trans rfl, (blk_cell BK458.out 0).trans rfl, (blk_cell BK458.out 1).trans rfl, (blk_cell BK458.out 2).trans rfl, (blk_cell BK458.out 3).trans rfl⟩ (fun hHeld => ?_)
      clear hK K
      refine norm_ (a' := ?_) ?_ ?_
      rotate_left
      · show Act.put _ (some 85) _ = _
        simp only [Act.put, List.setIfInBounds_toArray, List.set_cons_zero, List.set_cons_succ, i64_w, i32_w]
        rfl
      refine pure_ (i := 5) (N := some 86) (v := ?_) (a' := ?_) #[true, true, true, true, true, true, false, false, false, false, false, false, false, false, false, false, false, false, false, false, false, false, false, false, false, false, false, false] rfl rfl (any_of HT_.out (by kernel_rfl)) (fun _ _ _ h => h) (Or.inl ⟨by rfl, ?_⟩) ?_ ?_
      rotate_left
      · intro w'
        go_simp
        (try (simp only [Instr.field]; simp only [underlying, hu27]; go_simp; simp only [asAgg]; go_simp))
        with_reducible rfl
      rotate_left
      · simp only [Act.put, List.setIfInBounds_toArray, List.set_cons_zero, List.set_cons_succ, i64_w, i32_w]
        rfl
      refine pure_ (i := 6) (N := some 87) (v := ?_) (a' := ?_) #[true, true, true, true, true, true, true, false, false, false, false, false, false, false, false, false, false, false, false, false, false, false, false, false, false, false, false, false] rfl rfl (any_of HT_.out (by kernel_rfl)) (fun _ _ _ h => h) (Or.inl ⟨by rfl, ?_⟩) ?_ ?_
      rotate_left
      · intro w'
        go_simp
        (try (simp only [Instr.field]; simp only [underlying, hu27]; go_simp; simp only [asAgg]; go_simp))
        with_reducible rfl
      rotate_left
      · simp only [Act.put, List.setIfInBounds_toArray, List.set_cons_zero, List.set_cons_succ, i64_w, i32_w]
        rfl
      refine pure_ (i := 7) (N := some 88) (v := ?_) (a' := ?_) #[true, true, true, true, true, true, true, true, false, false, false, false, false, false, false, false, false, false, false, false, false, false, false, false, false, false, false, false] rfl rfl (any_of HT_.out (by kernel_rfl)) (fun _ _ _ h => h) (Or.inl ⟨by rfl, ?_⟩) ?_ ?_
      rotate_left
      · intro w'
        go_simp
        (try (simp only [Instr.field]; simp only [underlying, hu27]; go_simp; simp only [asAgg]; go_simp))
        with_reducible rfl
      rotate_left
      · simp only [Act.put, List.setIfInBounds_toArray, List.set_cons_zero, List.set_cons_succ, i64_w, i32_w]
        rfl
      refine pure_ (i := 8) (N := some 89) (v := ?_) (a' := ?_) #[true, true, true, true, true, true, true, true, true, false, false, false, false, false, false, false, false, false, false, false, false, false, false, false, false, false, false, false] rfl rfl (any_of HT_.out (by kernel_rfl)) (fun _ _ _ h => h) (Or.inl ⟨by rfl, ?_⟩) ?_ ?_
      rotate_left
      · intro w'
        go_simp
        (try (simp only [Instr.field]; simp only [underlying, hu27]; go_simp; simp only [asAgg]; go_simp))
        with_reducible rfl
      rotate_left
      · simp only [Act.put, List.setIfInBounds_toArray, List.set_cons_zero, List.set_cons_succ, i64_w, i32_w]
        rfl
      refine pure_ (i := 9) (N := some 90) (v := ?_) (a' := ?_) #[true, true, true, true, true, true, true, true, true, true, false, false, false, false, false, false, false, false, false, false, false, false, false, false, false, false, false, false] rfl rfl (any_of HT_.out (by kernel_rfl)) (fun _ _ _ h => h) (Or.inl ⟨by rfl, ?_⟩) ?_ ?_
      rotate_left
      · intro w'
        go_simp
        (try (simp only [Instr.field]; simp only [underlying, hu27]; go_simp; simp only [asAgg]; go_simp))
        with_reducible rfl
      rotate_left
      · simp only [Act.put, List.setIfInBounds_toArray, List.set_cons_zero, List.set_cons_succ, i64_w, i32_w]
        rfl
      refine pure_ (i := 10) (N := some 91) (v := ?_) (a' := ?_) #[true, true, true, true, true, true, true, true, true, true, true, false, false, false, false, false, false, false, false, false, false, false, false, false, false, false, false, false] rfl rfl (any_of HT_.out (by kernel_rfl)) (fun _ _ _ h => h) (Or.inl ⟨by rfl, ?_⟩) ?_ ?_
      rotate_left
      · intro w'
        go_simp
        (try (simp only [Instr.field]; simp only [underlying, hu27]; go_simp; simp only [asAgg]; go_simp))
        with_reducible rfl
      rotate_left
      · simp only [Act.put, List.setIfInBounds_toArray, List.set_cons_zero, List.set_cons_succ, i64_w, i32_w]
        rfl
      refine pure_ (i := 11) (N := some 92) (v := undef) (a' := ?_) #[true, true, true, true, true, true, true, true, true, true, true, true, false, false, false, false, false, false, false, false, false, false, false, false, false, false, false, false] rfl rfl (any_of HT_.out (by kernel_rfl)) (fun _ _ _ h => h) (Or.inr ⟨by rfl, rfl⟩) ?_ ?_
      rotate_left
      · simp only [Act.put, List.setIfInBounds_toArray, List.set_cons_zero, List.set_cons_succ, i64_w, i32_w]
        rfl
      refine pure_ (i := 12) (N := some 93) (v := undef) (a' := ?_) #[true, true, true, true, true, true, true, true, true, true, true, true, true, false, false, false, false, false, false, false, false, false, false, false, false, false, false, false] rfl rfl (any_of HT_.out (by kernel_rfl)) (fun _ _ _ h => h) (Or.inr ⟨by rfl, rfl⟩) ?_ ?_
      rotate_left
      · simp only [Act.put, List.setIfInBounds_toArray, List.set_cons_zero, List.set_cons_succ, i64_w, i32_w]
        rfl
      refine pure_ (i := 13) (N := some 94) (v := undef) (a' := ?_) #[true, true, true, true, true, true, true, true, true, true, true, true, true, true, false, false, false, false, false, false, false, false, false, false, false, false, false, false] rfl rfl (any_of HT_.out (by kernel_rfl)) (fun _ _ _ h => h) (Or.inr ⟨by rfl, rfl⟩) ?_ ?_
      rotate_left
      · simp only [Act.put, List.setIfInBounds_toArray, List.set_cons_zero, List.set_cons_succ, i64_w, i32_w]
        rfl
      refine pure_ (i := 14) (N := some 95) (v := undef) (a' := ?_) #[true, true, true, true, true, true, true, true, true, true, true, true, true, true, true, false, false, false, false, false, false, false, false, false, false, false, false, false] rfl rfl (any_of HT_.out (by kernel_rfl)) (fun _ _ _ h => h) (Or.inr ⟨by rfl, rfl⟩) ?_ ?_
      rotate_left
      · simp only [Act.put, List.setIfInBounds_toArray, List.set_cons_zero, List.set_cons_succ, i64_w, i32_w]
        rfl
      refine pure_ (i := 15) (N := some 96) (v := undef) (a' := ?_) #[true, true, true, true, true, true, true, true, true, true, true, true, true, true, true, true, false, false, false, false, false, false, false, false, false, false, false, false] rfl rfl (any_of HT_.out (by kernel_rfl)) (fun _ _ _ h => h) (Or.inr ⟨by rfl, rfl⟩) ?_ ?_
      rotate_left
      · simp only [Act.put, List.setIfInBounds_toArray, List.set_cons_zero, List.set_cons_succ, i64_w, i32_w]
        rfl
      refine pure_ (i := 16) (N := some 97) (v := undef) (a' := ?_) #[true, true, true, true, true, true, true, true, true, true, true, true, true, true, true, true, true, false, false, false, false, false, false, false, false, false, false, false] rfl rfl (any_of HT_.out (by kernel_rfl)) (fun _ _ _ h => h) (Or.inr ⟨by rfl, rfl⟩) ?_ ?_
      rotate_left
      · simp only [Act.put, List.setIfInBounds_toArray, List.set_cons_zero, List.set_cons_succ, i64_w, i32_w]
        rfl
      refine pure_ (i := 17) (N := some 98) (v := undef) (a' := ?_) #[true, true, true, true, true, true, true, true, true, true, true, true, true, true, true, true, true, true, false, false, false, false, false, false, false, false, false, false] rfl rfl (any_of HT_.out (by kernel_rfl)) (fun _ _ _ h => h) (Or.inr ⟨by rfl, rfl⟩) ?_ ?_
      rotate_left
      · simp only [Act.put, List.setIfInBounds_toArray, List.set_cons_zero, List.set_cons_succ, i64_w, i32_w]
        rfl
      refine pure_ (i := 18) (N := some 99) (v := ?_) (a' := ?_) #[true, true, true, true, true, true, true, true, true, true, true, true, true, true, true, true, true, true, true, false, false, false, false, false, false, false, false, false] rfl rfl (any_of HT_.out (by kernel_rfl)) (fun _ _ _ h => h) (Or.inl ⟨by rfl, ?_⟩) ?_ ?_
      rotate_left
      · intro w'
        go_simp
        (try (simp only [Instr.field]; simp only [underlying, hu27]; go_simp; simp only [asAgg]; go_simp))
        with_reducible rfl
      rotate_left
      · simp only [Act.put, List.setIfInBounds_toArray, List.set_cons_zero, List.set_cons_succ, i64_w, i32_w]
        rfl
      refine pure_ (i := 19) (N := some 100) (v := ?_) (a' := ?_) #[true, true, true, true, true, true, true, true, true, true, true, true, true, true, true, true, true, true, true, true, false, false, false, false, false, false, false, false] rfl rfl (any_of HT_.out (by kernel_rfl)) (fun _ _ _ h => h) (Or.inl ⟨by rfl, ?_⟩) ?_ ?_
      rotate_left
      · intro w'
        go_simp
        (try (simp only [Instr.field]; simp only [underlying, hu27]; go_simp; simp only [asAgg]; go_simp))
        with_reducible rfl
      rotate_left
      · simp only [Act.put, List.setIfInBounds_toArray, List.set_cons_zero, List.set_cons_succ, i64_w, i32_w]
        rfl
      refine pure_ (i := 20) (N := some 101) (v := undef) (a' := ?_) #[true, true, true, true, true, true, true, true, true, true, true, true, true, true, true, true, true, true, true, true, true, false, false, false, false, false, false, false] rfl rfl (any_of HT_.out (by kernel_rfl)) (fun _ _ _ h => h) (Or.inr ⟨by rfl, rfl⟩) ?_ ?_
      rotate_left
      · simp only [Act.put, List.setIfInBounds_toArray, List.set_cons_zero, List.set_cons_succ, i64_w, i32_w]
        rfl
      refine pure_ (i := 21) (N := some 102) (v := undef) (a' := ?_) #[true, true, true, true, true, true, true, true, true, true, true, true, true, true, true, true, true, true, true, true, true, true, false, false, false, false, false, false] rfl rfl (any_of HT_.out (by kernel_rfl)) (fun _ _ _ h => h) (Or.inr ⟨by rfl, rfl⟩) ?_ ?_
      rotate_left
      · simp only [Act.put, List.setIfInBounds_toArray, List.set_cons_zero, List.set_cons_succ, i64_w, i32_w]
        rfl
      refine pure_ (i := 22) (N := some 103) (v := undef) (a' := ?_) #[true, true, true, true, true, true, true, true, true, true, true, true, true, true, true, true, true, true, true, true, true, true, true, false, false, false, false, false] rfl rfl (any_of HT_.out (by kernel_rfl)) (fun _ _ _ h => h) (Or.inr ⟨by rfl, rfl⟩) ?_ ?_
      rotate_left
      · simp only [Act.put, List.setIfInBounds_toArray, List.set_cons_zero, List.set_cons_succ, i64_w, i32_w]
        rfl
      refine pure_ (i := 23) (N := some 104) (v := undef) (a' := ?_) #[true, true, true, true, true, true, true, true, true, true, true, true, true, true, true, true, true, true, true, true, true, true, true, true, false, false, false, false] rfl rfl (any_of HT_.out (by kernel_rfl)) (fun _ _ _ h => h) (Or.inr ⟨by rfl, rfl⟩) ?_ ?_
      rotate_left
      · simp only [Act.put, List.setIfInBounds_toArray, List.set_cons_zero, List.set_cons_succ, i64_w, i32_w]
        rfl
      refine pure_ (i := 24) (N := some 105) (v := undef) (a' := ?_) #[true, true, true, true, true, true, true, true, true, true, true, true, true, true, true, true, true, true, true, true, true, true, true, true, true, false, false, false] rfl rfl (any_of HT_.out (by kernel_rfl)) (fun _ _ _ h => h) (Or.inr ⟨by rfl, rfl⟩) ?_ ?_
      rotate_left
      · simp only [Act.put, List.setIfInBounds_toArray, List.set_cons_zero, List.set_cons_succ, i64_w, i32_w]
        rfl
      refine pure_ (i := 25) (N := some 106) (v := undef) (a' := ?_) #[true, true, true, true, true, true, true, true, true, true, true, true, true, true, true, true, true, true, true, true, true, true, true, true, true, true, false, false] rfl rfl (any_of HT_.out (by kernel_rfl)) (fun _ _ _ h => h) (Or.inr ⟨by rfl, rfl⟩) ?_ ?_
      rotate_left
      · simp only [Act.put, List.setIfInBounds_toArray, List.set_cons_zero, List.set_cons_succ, i64_w, i32_w]
        rfl
      refine pure_ (i := 26) (N := some 107) (v := ?_) (a' := ?_) #[true, true, true, true, true, true, true, true, true, true, true, true, true, true, true, true, true, true, true, true, true, true, true, true, true, true, true, false] rfl rfl (any_of HT_.out (by kernel_rfl)) (fun _ _ _ h => h) (Or.inl ⟨by rfl, ?_⟩) ?_ ?_
      rotate_left
      · intro w'
        go_simp
        (try (simp only [Instr.field]; simp only [underlying, hu27]; go_simp; simp only [asAgg]; go_simp))
        with_reducible rfl
      rotate_left
      · simp only [Act.put, List.setIfInBounds_toArray, List.set_cons_zero, List.set_cons_succ, i64_w, i32_w]
        rfl
      refine pure_ (i := 27) (N := some 108) (v := ?_) (a' := ?_) #[true, true, true, true, true, true, true, true, true, true, true, true, true, true, true, true, true, true, true, true, true, true, true, true, true, true, true, true] rfl rfl (any_of HT_.out (by kernel_rfl)) (fun _ _ _ h => h) (Or.inl ⟨by rfl, ?_⟩) ?_ ?_
      rotate_left
      · intro w'
        go_simp
        (try (simp only [Instr.field]; simp only [underlying, hu27]; go_simp; simp only [asAgg]; go_simp))
        with_reducible rfl
      rotate_left
      · simp only [Act.put, List.setIfInBounds_toArray, List.set_cons_zero, List.set_cons_succ, i64_w, i32_w]
        rfl
      refine done_ (done_of HT_.out (by kernel_rfl)) ?_
      try go_wp2
      go_meet
      case rel => exact ⟨_, (true), el_, H', ⟨by have := HJ5.out; have := HK2.out; first | omega | exact Nat.le_refl _⟩, ⟨pr_ (Kd.R_mono HO_435001.out (fun _ hk => hk.2))⟩, ⟨pr_ (Kd.R_mono HO_451001.out (fun _ hk => hk.2))⟩, ⟨by (with_reducible repeat (first | apply Kd.V_alloc | apply Kd.V_drewN | apply Kd.V_drew)); exact Kd.V_mono HO455.out (fun _ hk => ⟨hk.2.1, ⟨hk.2.2.1, ⟨hk.2.2.2.1, ⟨hk.2.2.2.2.1, hk.2.2.2.2.2⟩⟩⟩⟩)⟩, ⟨pk_ BK434.out⟩, ⟨pk_ BK450.out⟩, ⟨pk_ BK458.out⟩, ⟨pb3_ HB.out GE434.out GE450.out GE458.out⟩⟩
    rw [if_neg c75] at H
    have c75b0 : decide (t459 < 1) = false := decide_eq_false c75
    clear c75
    (first | rw [c75b0] | (simp only [i64_w, i32_w]; rw [c75b0]) | skip)
    by_cases c79 : t459 > (wrap64 ((wrap64 (t445 + 1)) + x9_2))
    · rw [if_pos c79] at H
      have c79b0 : decide ((wrap64 ((wrap64 (t445 + 1)) + x9_2)) < t459) = true := decide_eq_true c79
      clear c79
      have H' := Aside0.mk H
      clear H
      try go_wp2
      have n0_ := Aside0.mk (Kd.R_drew HO_8.out)
      have n1_ := Aside0.mk (Kd.R_drew HO_435001.out)
      have n2_ := Aside0.mk (Kd.R_drew HO_451001.out)
      have n3_ := Aside0.mk (Kd.V_drew HO455.out)
      have n4_ := Aside0.mk (blk_drew BK434.out)
      have n5_ := Aside0.mk (blk_drew BK450.out)
      have n6_ := Aside0.mk (blk_drew BK458.out)
      have n7_ := Aside0.mk (below_drew1 HB.out)
      clear HO_8
      clear HO_435001
      clear HO_451001
      clear HO455
      clear BK434
      clear BK450
      clear BK458
      clear HB
      have HO_8 := n0_
      have HO_435001 := n1_
      have HO_451001 := n2_
      have HO455 := n3_
      have BK434 := n4_
      have BK450 := n5_
      have BK458 := n6_
      have HB := n7_
      clear n0_ n1_ n2_ n3_ n4_ n5_ n6_ n7_
      refine start_ (n := 28) (S := fun w' => w'.cell? ⟨gb450, 0, none⟩ = some (.int .i64 t441) ∧ w'.cell? ⟨gb450, 1, none⟩ = some (.slice Ao45 t442.length co45) ∧ w'.cell? ⟨gb450, 2, none⟩ = some (.int .i64 t445) ∧ w'.cell? ⟨gb450, 3, none⟩ = some (.bool t446) ∧ w'.cell? ⟨gb458, 0, none⟩ = some (.int .i64 t452) ∧ w'.cell? ⟨gb458, 1, none⟩ = some (.slice Ao62 t453.length co62) ∧ w'.cell? ⟨gb458, 2, none⟩ = some (.int .i64 t456) ∧ w'.cell? ⟨gb458, 3, none⟩ = some (.bool t457)) (ds := []) #[false, false, false, false, false, false, false, false, false, false, false, false, false, false, false, false, false, false, false, false, false, false, false, false, false, false, false, false] (by kernel_rfl) rfl rfl ⟨(blk_cell BK450.out 0).trans rfl, (blk_cell BK450.out 1).trans rfl, (blk_cell BK450.out 2).trans rfl, (blk_cell BK450.out 3).trans rfl, (blk_cell BK458.out 0).trans rfl, (blk_cell BK458.out 1).trans rfl, (blk_cell BK458.out 2).trans rfl, (blk_cell BK458.out 3).trans rfl⟩ (fun hHeld => ?_); refine with_tabW laws_FnDamage.tab16 laws_FnDamage.bits16 (fun HT_ HW_ => ?_)
      generalize w65.drew = w80 at HO_8 HO_435001 HO_451001 HO455 BK434 BK450 BK458 HB hHeld ⊢
      refine take_ (i := 0) (N := some 81) (v := ?_) (a' := ?_) #[true, false, false, false, false, false, false, false, false, false, false, false, false, false, false, false, false, false, false, false, false, false, false, false, false, false, false, false] rfl rfl (take_ofW HT_.out HW_.out (by kernel_rfl)) (fun _ _ _ h => h) (Or.inl ⟨by rfl, ?_⟩) hHeld ?_ ?_
      rotate_left
      · rintro w' ⟨s0, s1, s2, s3, s4, s5, s6, s7⟩
        go_simp
        (try (simp only [Instr.field]; simp only [underlying, hu27]; go_simp; simp only [asAgg]; go_simp))
        with_reducible rfl
      rotate_left
      · simp only [Act.put, List.setIfInBounds_toArray, List.set_cons_zero, List.set_cons_succ, i64_w, i32_w]
        rfl
      refine one_ (i := 1) (N := some 82) #[true, true, false, false, false, false, false, false, false, false, false, false, false, false, false, false, false, false, false, false, false, false, false, false, false, false, false, false] rfl rfl (one_of HT_.out (by kernel_rfl)) (by decide) (fun K hK => ?_)
      refine goes_ Try.func18 (by kernel_rfl) rfl #[.agg #[.int .i64 t441, .slice Ao45 t442.length co45, .int .i64 t445, .bool t446]] (by rfl) rfl rfl mp_ ?_
      with_reducible refine (impl_IsRollout.calls k2 t441 _ _ t442 t445 t446 true _ ?side1 ?side2 A66.out).mono ?_
      (case side1 => exact pc_ ((Kd.R_reads' HO_451001.out).2.2))
      (case side2 => exact (Kd.R_reads' HO_451001.out).2.1)
      rintro e w81 ⟨rfl, hb⟩
      refine ⟨_, rfl, ?_⟩
      have n0_ := Aside0.mk (Kd.R_below (pr_ HO_8.out) hb)
      have n1_ := Aside0.mk (Kd.R_below (pr_ HO_435001.out) hb)
      have n2_ := Aside0.mk (Kd.R_below (pr_ HO_451001.out) hb)
      have n3_ := Aside0.mk (Kd.V_below (by (with_reducible repeat (first | apply Kd.V_alloc | apply Kd.V_drewN | apply Kd.V_drew)); exact HO455.out) hb)
      have n4_ := Aside0.mk (bb_ BK434.out hb)
      have n5_ := Aside0.mk (bb_ BK450.out hb)
      have n6_ := Aside0.mk (bb_ BK458.out hb)
      have n7_ := Aside0.mk (below_step (pb3_ HB.out GE434.out GE450.out GE458.out) hb)
      clear HO_8
      clear HO_435001
      clear HO_451001
      clear HO455
      clear BK434
      clear BK450
      clear BK458
      clear HB
      have HO_8 := n0_
      have HO_435001 := n1_
      have HO_451001 := n2_
      have HO455 := n3_
      have BK434 := n4_
      have BK450 := n5_
      have BK458 := n6_
      have HB := n7_
      clear n0_ n1_ n2_ n3_ n4_ n5_ n6_ n7_
      (try clear hb)
      (try clear hb2)
      (try clear hk)
      (try clear hi)
      refine hK.out _ _ ⟨(blk_cell BK450.out 0).trans rfl, (blk_cell BK450.out 1).trans rfl, (blk_cell BK450.out 2).trans rfl, (blk_cell BK450.out 3).trans rfl, (blk_cell BK458.out 0).trans rfl, (blk_cell BK458.out 1).trans rfl, (blk_cell BK458.out 2).trans rfl, (blk_cell BK458.out 3).trans rfl⟩ (fun hHeld => ?_)
      clear hK K
      refine norm_ (a' := ?_) ?_ ?_
      rotate_left
      · show Act.put _ (some 82) _ = _
        simp only [Act.put, List.setIfInBounds_toArray, List.set_cons_zero, List.set_cons_succ, i64_w, i32_w]
        rfl
      refine pure_ (i := 2) (N := some 83) (v := ?_) (a' := ?_) #[true, true, true, false, false, false, false, false, false, false, false, false, false, false, false, false, false, false, false, false, false, false, false, false, false, false, false, false] rfl rfl (any_of HT_.out (by kernel_rfl)) (fun _ _ _ h => h) (Or.inl ⟨by rfl, ?_⟩) ?_ ?_
      rotate_left
      · intro w'
        go_simp
        (try (simp only [Instr.field]; simp only [underlying, hu27]; go_simp; simp only [asAgg]; go_simp))
        with_reducible rfl
      rotate_left
      · simp only [Act.put, List.setIfInBounds_toArray, List.set_cons_zero, List.set_cons_succ, i64_w, i32_w]
        rfl
      refine take_ (i := 3) (N := some 84) (v := ?_) (a' := ?_) #[true, true, true, true, false, false, false, false, false, false, false, false, false, false, false, false, false, false, false, false, false, false, false, false, false, false, false, false] rfl rfl (take_ofW HT_.out HW_.out (by kernel_rfl)) (fun _ _ _ h => h) (Or.inl ⟨by rfl, ?_⟩) hHeld ?_ ?_
      rotate_left
      · rintro w' ⟨s0, s1, s2, s3, s4, s5, s6, s7⟩
        go_simp
        (try (simp only [Instr.field]; simp only [underlying, hu27]; go_simp; simp only [asAgg]; go_simp))
        with_reducible rfl
      rotate_left
      · simp only [Act.put, List.setIfInBounds_toArray, List.set_cons_zero, List.set_cons_succ, i64_w, i32_w]
        rfl
      refine one_ (i := 4) (N := some 85) #[true, true, true, true, true, false, false, false, false, false, false, false, false, false, false, false, false, false, false, false, false, false, false, false, false, false, false, false] rfl rfl (one_of HT_.out (by kernel_rfl)) (by decide) (fun K hK => ?_)
      refine goes_ Try.func18 (by kernel_rfl) rfl #[.agg #[.int .i64 t452, .slice Ao62 t453.length co62, .int .i64 t456, .bool t457]] (by rfl) rfl rfl mp_ ?_
      with_reducible refine (impl_IsRollout.calls k2 t452 _ _ t453 t456 t457 true _ ?side1 ?side2 A70.out).mono ?_
      (case side1 => exact pc_ ((Kd.V_reads' HO455.out).2.2))
      (case side2 => exact (Kd.V_reads' HO455.out).2.1)
      rintro e w82 ⟨rfl, hb⟩
      refine ⟨_, rfl, ?_⟩
      have n0_ := Aside0.mk (Kd.R_below (pr_ HO_8.out) hb)
      have n1_ := Aside0.mk (Kd.R_below (pr_ HO_435001.out) hb)
      have n2_ := Aside0.mk (Kd.R_below (pr_ HO_451001.out) hb)
      have n3_ := Aside0.mk (Kd.V_below (by (with_reducible repeat (first | apply Kd.V_alloc | apply Kd.V_drewN | apply Kd.V_drew)); exact HO455.out) hb)
      have n4_ := Aside0.mk (bb_ BK434.out hb)
      have n5_ := Aside0.mk (bb_ BK450.out hb)
      have n6_ := Aside0.mk (bb_ BK458.out hb)
      have n7_ := Aside0.mk (below_step (pb3_ HB.out GE434.out GE450.out GE458.out) hb)
      clear HO_8
      clear HO_435001
      clear HO_451001
      clear HO455
      clear BK434
      clear BK450
      clear BK458
      clear HB
      have HO_8 := n0_
      have HO_435001 := n1_
      have HO_451001 := n2_
      have HO455 := n3_
      have BK434 := n4_
      have BK450 := n5_
      have BK458 := n6_
      have HB := n7_
      clear n0_ n1_ n2_ n3_ n4_ n5_ n6_ n7_
      (try clear hb)
      (try clear hb2)
      (try clear hk)
      (try clear hi)
      refine hK.out _ _ ⟨(blk_cell BK450.out 0).trans rfl, (blk_cell BK450.out 1).trans rfl, (blk_cell BK450.out 2).trans rfl, (blk_cell BK450.out 3).trans rfl, (blk_cell BK458.out 0).trans rfl, (blk_cell BK458.out 1).trans rfl, (blk_cell BK458.out 2).trans rfl, (blk_cell BK458.out 3).trans rfl⟩ (fun hHeld => ?_)
      clear hK K
      refine norm_ (a' := ?_) ?_ ?_
      rotate_left
      · show Act.put _ (some 85) _ = _
        simp only [Act.put, List.setIfInBounds_toArray, List.set_cons_zero, List.set_cons_succ, i64_w, i32_w]
        rfl
      refine pure_ (i := 5) (N := some 86) (v := ?_) (a' := ?_) #[true, true, true, true, true, true, false, false, false, false, false, false, false, false, false, false, false, false, false, false, false, false, false, false, false, false, false, false] rfl rfl (any_of HT_.out (by kernel_rfl)) (fun _ _ _ h => h) (Or.inl ⟨by rfl, ?_⟩) ?_ ?_
      rotate_left
      · intro w'
        go_simp
        (try (simp only [Instr.field]; simp only [underlying, hu27]; go_simp; simp only [asAgg]; go_simp))
        with_reducible rfl
      rotate_left
      · simp only [Act.put, List.setIfInBounds_toArray, List.set_cons_zero, List.set_cons_succ, i64_w, i32_w]
        rfl
      refine pure_ (i := 6) (N := some 87) (v := ?_) (a' := ?_) #[true, true, true, true, true, true, true, false, false, false, false, false, false, false, false, false, false, false, false, false, false, false, false, false, false, false, false, false] rfl rfl (any_of HT_.out (by kernel_rfl)) (fun _ _ _ h => h) (Or.inl ⟨by rfl, ?_⟩) ?_ ?_
      rotate_left
      · intro w'
        go_simp
        (try (simp only [Instr.field]; simp only [underlying, hu27]; go_simp; simp only [asAgg]; go_simp))
        with_reducible rfl
      rotate_left
      · simp only [Act.put, List.setIfInBounds_toArray, List.set_cons_zero, List.set_cons_succ, i64_w, i32_w]
        rfl
      refine pure_ (i := 7) (N := some 88) (v := ?_) (a' := ?_) #[true, true, true, true, true, true, true, true, false, false, false, false, false, false, false, false, false, false, false, false, false, false, false, false, false, false, false, false] rfl rfl (any_of HT_.out (by kernel_rfl)) (fun _ _ _ h => h) (Or.inl ⟨by rfl, ?_⟩) ?_ ?_
      rotate_left
      · intro w'
        go_simp
        (try (simp only [Instr.field]; simp only [underlying, hu27]; go_simp; simp only [asAgg]; go_simp))
        with_reducible rfl
      rotate_left
      · simp only [Act.put, List.setIfInBounds_toArray, List.set_cons_zero, List.set_cons_succ, i64_w, i32_w]
        rfl
      refine pure_ (i := 8) (N := some 89) (v := ?_) (a' := ?_) #[true, true, true, true, true, true, true, true, true, false, false, false, false, false, false, false, false, false, false, false, false, false, false, false, false, false, false, false] rfl rfl (any_of HT_.out (by kernel_rfl)) (fun _ _ _ h => h) (Or.inl ⟨by rfl, ?_⟩) ?_ ?_
      rotate_left
      · intro w'
        go_simp
        (try (simp only [Instr.field]; simp only [underlying, hu27]; go_simp; simp only [asAgg]; go_simp))
        with_reducible rfl
      rotate_left
      · simp only [Act.put, List.setIfInBounds_toArray, List.set_cons_zero, List.set_cons_succ, i64_w, i32_w]
        rfl
      refine pure_ (i := 9) (N := some 90) (v := ?_) (a' := ?_) #[true, true, true, true, true, true, true, true, true, true, false, false, false, false, false, false, false, false, false, false, false, false, false, false, false, false, false, false] rfl rfl (any_of HT_.out (by kernel_rfl)) (fun _ _ _ h => h) (Or.inl ⟨by rfl, ?_⟩) ?_ ?_
      rotate_left
      · intro w'
        go_simp
        (try (simp only [Instr.field]; simp only [underlying, hu27]; go_simp; simp only [asAgg]; go_simp))
        with_reducible rfl
      rotate_left
      · simp only [Act.put, List.setIfInBounds_toArray, List.set_cons_zero, List.set_cons_succ, i64_w, i32_w]
        rfl
      refine pure_ (i := 10) (N := some 91) (v := ?_) (a' := ?_) #[true, true, true, true, true, true, true, true, true, true, true, false, false, false, false, false, false, false, false, false, false, false, false, false, false, false, false, false] rfl rfl (any_of HT_.out (by kernel_rfl)) (fun _ _ _ h => h) (Or.inl ⟨by rfl, ?_⟩) ?_ ?_
      rotate_left
      · intro w'
        go_simp
        (try (simp only [Instr.field]; simp only [underlying, hu27]; go_simp; simp only [asAgg]; go_simp))
        with_reducible rfl
      rotate_left
      · simp only [Act.put, List.setIfInBounds_toArray, List.set_cons_zero, List.set_cons_succ, i64_w, i32_w]
        rfl
      refine pure_ (i := 11) (N := some 92) (v := ?_) (a' := ?_) #[true, true, true, true, true, true, true, true, true, true, true, true, false, false, false, false, false, false, false, false, false, false, false, false, false, false, false, false] rfl rfl (any_of HT_.out (by kernel_rfl)) (fun _ _ _ h => h) (Or.inl ⟨by rfl, ?_⟩) ?_ ?_
      rotate_left
      · intro w'
        go_simp
        (try (simp only [Instr.field]; simp only [underlying, hu27]; go_simp; simp only [asAgg]; go_simp))
        with_reducible rfl
      rotate_left
      · simp only [Act.put, List.setIfInBounds_toArray, List.set_cons_zero, List.set_cons_succ, i64_w, i32_w]
        rfl
      refine pure_ (i := 12) (N := some 93) (v := ?_) (a' := ?_) #[true, true, true, true, true, true, true, true, true, true, true, true, true, false, false, false, false, false, false, false, false, false, false, false, false, false, false, false] rfl rfl (any_of HT_.out (by kernel_rfl)) (fun _ _ _ h => h) (Or.inl ⟨by rfl, ?_⟩) ?_ ?_
      rotate_left
      · intro w'
        go_simp
        (try (simp only [Instr.field]; simp only [underlying, hu27]; go_simp; simp only [asAgg]; go_simp))
        with_reducible rfl
      rotate_left
      · simp only [Act.put, List.setIfInBounds_toArray, List.set_cons_zero, List.set_cons_succ, i64_w, i32_w]
        rfl
      refine pure_ (i := 15) (N := some 96) (v := ?_) (a' := ?_) #[true, true, true, true, true, true, true, true, true, true, true, true, true, false, false, true, false, false, false, false, false, false, false, false, false, false, false, false] rfl rfl (any_of HT_.out (by kernel_rfl)) (fun _ _ _ h => h) (Or.inl ⟨by rfl, ?_⟩) ?_ ?_
      rotate_left
      · intro w'
        go_simp
        (try (simp only [Instr.field]; simp only [underlying, hu27]; go_simp; simp only [asAgg]; go_simp))
        with_reducible rfl
      rotate_left
      · simp only [Act.put, List.setIfInBounds_toArray, List.set_cons_zero, List.set_cons_succ, i64_w, i32_w]
        rfl
      refine take_ (i := 13) (N := some 94) (v := ?_) (a' := ?_) #[true, true, true, true, true, true, true, true, true, true, true, true, true, true, false, true, false, false, false, false, false, false, false, false, false, false, false, false] rfl rfl (take_ofW HT_.out HW_.out (by kernel_rfl)) (fun _ _ _ h => h) (Or.inl ⟨by rfl, ?_⟩) hHeld ?_ ?_
      rotate_left
      · rintro w' ⟨s0, s1, s2, s3, s4, s5, s6, s7⟩
        go_simp
        (try (simp only [Instr.field]; simp only [underlying, hu27]; go_simp; simp only [asAgg]; go_simp))
        with_reducible rfl
      rotate_left
      · simp only [Act.put, List.setIfInBounds_toArray, List.set_cons_zero, List.set_cons_succ, i64_w, i32_w]
        rfl
      refine pure_ (i := 14) (N := some 95) (v := ?_) (a' := ?_) #[true, true, true, true, true, true, true, true, true, true, true, true, true, true, true, true, false, false, false, false, false, false, false, false, false, false, false, false] rfl rfl (any_of HT_.out (by kernel_rfl)) (fun _ _ _ h => h) (Or.inl ⟨by rfl, ?_⟩) ?_ ?_
      rotate_left
      · intro w'
        go_simp
        (try (simp only [Instr.field]; simp only [underlying, hu27]; go_simp; simp only [asAgg]; go_simp))
        with_reducible rfl
      rotate_left
      · simp only [Act.put, List.setIfInBounds_toArray, List.set_cons_zero, List.set_cons_succ, i64_w, i32_w]
        rfl
      refine pure_ (i := 16) (N := some 97) (v := ?_) (a' := ?_) #[true, true, true, true, true, true, true, true, true, true, true, true, true, true, true, true, true, false, false, false, false, false, false, false, false, false, false, false] rfl rfl (any_of HT_.out (by kernel_rfl)) (fun _ _ _ h => h) (Or.inl ⟨by rfl, ?_⟩) ?_ ?_
      rotate_left
      · intro w'
        go_simp
        (try (simp only [Instr.field]; simp only [underlying, hu27]; go_simp; simp only [asAgg]; go_simp))
        with_reducible rfl
      rotate_left
      · simp only [Act.put, List.setIfInBounds_toArray, List.set_cons_zero, List.set_cons_succ, i64_w, i32_w]
        rfl
      refine pure_ (i := 17) (N := some 98) (v := ?_) (a' := ?_) #[true, true, true, true, true, true, true, true, true, true, true, true, true, true, true, true, true, true, false, false, false, false, false, false, false, false, false, false] rfl rfl (any_of HT_.out (by kernel_rfl)) (fun _ _ _ h => h) (Or.inl ⟨by rfl, ?_⟩) ?_ ?_
      rotate_left
      · intro w'
        go_simp
        (try (simp only [Instr.field]; simp only [underlying, hu27]; go_simp; simp only [asAgg]; go_simp))
        with_reducible rfl
      rotate_left
      · simp only [Act.put, List.setIfInBounds_toArray, List.set_cons_zero, List.set_cons_succ, i64_w, i32_w]
        rfl
      refine pure_ (i := 18) (N := some 99) (v := ?_) (a' := ?_) #[true, true, true, true, true, true, true, true, true, true, true, true, true, true, true, true, true, true, true, false, false, false, false, false, false, false, false, false] rfl rfl (any_of HT_.out (by kernel_rfl)) (fun _ _ _ h => h) (Or.inl ⟨by rfl, ?_⟩) ?_ ?_
      rotate_left
      · intro w'
        go_simp
        (try (simp only [Instr.field]; simp only [underlying, hu27]; go_simp; simp only [asAgg]; go_simp))
        with_reducible rfl
      rotate_left
      · simp only [Act.put, List.setIfInBounds_toArray, List.set_cons_zero, List.set_cons_succ, i64_w, i32_w]
        rfl
      refine pure_ (i := 19) (N := some 100) (v := ?_) (a' := ?_) #[true, true, true, true, true, true, true, true, true, true, true, true, true, true, true, true, true, true, true, true, false, false, false, false, false, false, false, false] rfl rfl (any_of HT_.out (by kernel_rfl)) (fun _ _ _ h => h) (Or.inl ⟨by rfl, ?_⟩) ?_ ?_
      rotate_left
      · intro w'
        go_simp
        (try (simp only [Instr.field]; simp only [underlying, hu27]; go_simp; simp only [asAgg]; go_simp))
        with_reducible rfl
      rotate_left
      · simp only [Act.put, List.setIfInBounds_toArray, List.set_cons_zero, List.set_cons_succ, i64_w, i32_w]
        rfl
      refine pure_ (i := 20) (N := some 101) (v := undef) (a' := ?_) #[true, true, true, true, true, true, true, true, true, true, true, true, true, true, true, true, true, true, true, true, true, false, false, false, false, false, false, false] rfl rfl (any_of HT_.out (by kernel_rfl)) (fun _ _ _ h => h) (Or.inr ⟨by rfl, rfl⟩) ?_ ?_
      rotate_left
      · simp only [Act.put, List.setIfInBounds_toArray, List.set_cons_zero, List.set_cons_succ, i64_w, i32_w]
        rfl
      refine pure_ (i := 21) (N := some 102) (v := undef) (a' := ?_) #[true, true, true, true, true, true, true, true, true, true, true, true, true, true, true, true, true, true, true, true, true, true, false, false, false, false, false, false] rfl rfl (any_of HT_.out (by kernel_rfl)) (fun _ _ _ h => h) (Or.inr ⟨by rfl, rfl⟩) ?_ ?_
      rotate_left
      · simp only [Act.put, List.setIfInBounds_toArray, List.set_cons_zero, List.set_cons_succ, i64_w, i32_w]
        rfl
      refine pure_ (i := 22) (N := some 103) (v := undef) (a' := ?_) #[true, true, true, true, true, true, true, true, true, true, true, true, true, true, true, true, true, true, true, true, true, true, true, false, false, false, false, false] rfl rfl (any_of HT_.out (by kernel_rfl)) (fun _ _ _ h => h) (Or.inr ⟨by rfl, rfl⟩) ?_ ?_
      rotate_left
      · simp only [Act.put, List.setIfInBounds_toArray, List.set_cons_zero, List.set_cons_succ, i64_w, i32_w]
        rfl
      refine pure_ (i := 23) (N := some 104) (v := undef) (a' := ?_) #[true, true, true, true, true, true, true, true, true, true, true, true, true, true, true, true, true, true, true, true, true, true, true, true, false, false, false, false] rfl rfl (any_of HT_.out (by kernel_rfl)) (fun _ _ _ h => h) (Or.inr ⟨by rfl, rfl⟩) ?_ ?_
      rotate_left
      · simp only [Act.put, List.setIfInBounds_toArray, List.set_cons_zero, List.set_cons_succ, i64_w, i32_w]
        rfl
      refine pure_ (i := 24) (N := some 105) (v := undef) (a' := ?_) #[true, true, true, true, true, true, true, true, true, true, true, true, true, true, true, true, true, true, true, true, true, true, true, true, true, false, false, false] rfl rfl (any_of HT_.out (by kernel_rfl)) (fun _ _ _ h => h) (Or.inr ⟨by rfl, rfl⟩) ?_ ?_
      rotate_left
      · simp only [Act.put, List.setIfInBounds_toArray, List.set_cons_zero, List.set_cons_succ, i64_w, i32_w]
        rfl
      refine pure_ (i := 25) (N := some 106) (v := undef) (a' := ?_) #[true, true, true, true, true, true, true, true, true, true, true, true, true, true, true, true, true, true, true, true, true, true, true, true, true, true, false, false] rfl rfl (any_of HT_.out (by kernel_rfl)) (fun _ _ _ h => h) (Or.inr ⟨by rfl, rfl⟩) ?_ ?_
      rotate_left
      · simp only [Act.put, List.setIfInBounds_toArray, List.set_cons_zero, List.set_cons_succ, i64_w, i32_w]
        rfl
      refine pure_ (i := 26) (N := some 107) (v := ?_) (a' := ?_) #[true, true, true, true, true, true, true, true, true, true, true, true, true, true, true, true, true, true, true, true, true, true, true, true, true, true, true, false] rfl rfl (any_of HT_.out (by kernel_rfl)) (fun _ _ _ h => h) (Or.inl ⟨by rfl, ?_⟩) ?_ ?_
      rotate_left
      · intro w'
        go_simp
        (try (simp only [Instr.field]; simp only [underlying, hu27]; go_simp; simp only [asAgg]; go_simp))
        with_reducible rfl
      rotate_left
      · simp only [Act.put, List.setIfInBounds_toArray, List.set_cons_zero, List.set_cons_succ, i64_w, i32_w]
        rfl
      refine pure_ (i := 27) (N := some 108) (v := ?_) (a' := ?_) #[true, true, true, true, true, true, true, true, true, true, true, true, true, true, true, true, true, true, true, true, true, true, true, true, true, true, true, true] rfl rfl (any_of HT_.out (by kernel_rfl)) (fun _ _ _ h => h) (Or.inl ⟨by rfl, ?_⟩) ?_ ?_
      rotate_left
      · intro w'
        go_simp
        (try (simp only [Instr.field]; simp only [underlying, hu27]; go_simp; simp only [asAgg]; go_simp))
        with_reducible rfl
      rotate_left
      · simp only [Act.put, List.setIfInBounds_toArray, List.set_cons_zero, List.set_cons_succ, i64_w, i32_w]
        rfl
      refine done_ (done_of HT_.out (by kernel_rfl)) ?_
      try go_wp2
      go_meet
      case rel => exact ⟨_, (true), el_, H', ⟨by have := HJ5.out; have := HK2.out; first | omega | exact Nat.le_refl _⟩, ⟨pr_ (Kd.R_mono HO_435001.out (fun _ hk => hk.2))⟩, ⟨pr_ (Kd.R_mono HO_451001.out (fun _ hk => hk.2))⟩, ⟨by (with_reducible repeat (first | apply Kd.V_alloc | apply Kd.V_drewN | apply Kd.V_drew)); exact Kd.V_mono HO455.out (fun _ hk => ⟨hk.2.1, ⟨hk.2.2.1, ⟨hk.2.2.2.1, ⟨hk.2.2.2.2.1, hk.2.2.2.2.2⟩⟩⟩⟩)⟩, ⟨pk_ BK434.out⟩, ⟨pk_ BK450.out⟩, ⟨pk_ BK458.out⟩, ⟨pb3_ HB.out GE434.out GE450.out GE458.out⟩⟩
    rw [if_neg c79] at H
    have c79b0 : decide ((wrap64 ((wrap64 (t445 + 1)) + x9_2)) < t459) = false := decide_eq_false c79
    clear c79
    replace H := Option.bind_eq_some_iff.mp H
    obtain ⟨t462, A830, H⟩ := H
    (try dsimp only at H)
    have A83 := Aside0.mk A830
    clear A830
    replace H := Option.bind_eq_some_iff.mp H
    obtain ⟨t463, A840, H⟩ := H
    replace H : (laws_FnDamage.j2 k2 l0 (decide (t462 > t463))) = some r := H
    have A84 := Aside0.mk A840
    clear A840
    have H' := Aside0.mk H
    clear H
    try go_wp2
    have n0_ := Aside0.mk (Kd.R_drew HO_8.out)
    have n1_ := Aside0.mk (Kd.R_drew HO_435001.out)
    have n2_ := Aside0.mk (Kd.R_drew HO_451001.out)
    have n3_ := Aside0.mk (Kd.V_drew HO455.out)
    have n4_ := Aside0.mk (blk_drew BK434.out)
    have n5_ := Aside0.mk (blk_drew BK450.out)
    have n6_ := Aside0.mk (blk_drew BK458.out)
    have n7_ := Aside0.mk (below_drew1 HB.out)
    clear HO_8
    clear HO_435001
    clear HO_451001
    clear HO455
    clear BK434
    clear BK450
    clear BK458
    clear HB
    have HO_8 := n0_
    have HO_435001 := n1_
    have HO_451001 := n2_
    have HO455 := n3_
    have BK434 := n4_
    have BK450 := n5_
    have BK458 := n6_
    have HB := n7_
    clear n0_ n1_ n2_ n3_ n4_ n5_ n6_ n7_
    refine start_ (n := 28) (S := fun w' => w'.cell? ⟨gb450, 0, none⟩ = some (.int .i64 t441) ∧ w'.cell? ⟨gb450, 1, none⟩ = some (.slice Ao45 t442.length co45) ∧ w'.cell? ⟨gb450, 2, none⟩ = some (.int .i64 t445) ∧ w'.cell? ⟨gb450, 3, none⟩ = some (.bool t446) ∧ w'.cell? ⟨gb458, 0, none⟩ = some (.int .i64 t452) ∧ w'.cell? ⟨gb458, 1, none⟩ = some (.slice Ao62 t453.length co62) ∧ w'.cell? ⟨gb458, 2, none⟩ = some (.int .i64 t456) ∧ w'.cell? ⟨gb458, 3, none⟩ = some (.bool t457)) (ds := []) #[false, false, false, false, false, false, false, false, false, false, false, false, false, false, false, false, false, false, false, false, false, false, false, false, false, false, false, false] (by kernel_rfl) rfl rfl ⟨(blk_cell BK450.out 0).trans rfl, (blk_cell BK450.out 1).trans rfl, (blk_cell BK450.out 2).trans rfl, (blk_cell BK450.out 3).trans rfl, (blk_cell BK458.out 0).trans rfl, (blk_cell BK458.out 1).trans rfl, (blk_cell BK458.out 2).trans rfl, (blk_cell BK458.out 3).trans rfl⟩ (fun hHeld => ?_); refine with_tabW laws_FnDamage.tab16 laws_FnDamage.bits16 (fun HT_ HW_ => ?_)
    generalize w65.drew = w85 at HO_8 HO_435001 HO_451001 HO455 BK434 BK450 BK458 HB hHeld ⊢
    refine take_ (i := 0) (N := some 81) (v := ?_) (a' := ?_) #[true, false, false, false, false, false, false, false, false, false, false, false, false, false, false, false, false, false, false, false, false, false, false, false, false, false, false, false] rfl rfl (take_ofW HT_.out HW_.out (by kernel_rfl)) (fun _ _ _ h => h) (Or.inl ⟨by rfl, ?_⟩) hHeld ?_ ?_
    rotate_left
    · rintro w' ⟨s0, s1, s2, s3, s4, s5, s6, s7⟩
      go_simp
      (try (simp only [Instr.field]; simp only [underlying, hu27]; go_simp; simp only [asAgg]; go_simp))
      with_reducible rfl
    rotate_left
    · simp only [Act.put, List.setIfInBounds_toArray, List.set_cons_zero, List.set_cons_succ, i64_w, i32_w]
      rfl
    refine one_ (i := 1) (N := some 82) #[true, true, false, false, false, false, false, false, false, false, false, false, false, false, false, false, false, false, false, false, false, false, false, false, false, false, false, false] rfl rfl (one_of HT_.out (by kernel_rfl)) (by decide) (fun K hK => ?_)
    refine goes_ Try.func18 (by kernel_rfl) rfl #[.agg #[.int .i64 t441, .slice Ao45 t442.length co45, .int .i64 t445, .bool t446]] (by rfl) rfl rfl mp_ ?_
    with_reducible refine (impl_IsRollout.calls k2 t441 _ _ t442 t445 t446 true _ ?side1 ?side2 A66.out).mono ?_
    (case side1 => exact pc_ ((Kd.R_reads' HO_451001.out).2.2))
    (case side2 => exact (Kd.R_reads' HO_451001.out).2.1)
    rintro e w86 ⟨rfl, hb⟩
    refine ⟨_, rfl, ?_⟩
    have n0_ := Aside0.mk (Kd.R_below (pr_ HO_8.out) hb)
    have n1_ := Aside0.mk (Kd.R_below (pr_ HO_435001.out) hb)
    have n2_ := Aside0.mk (Kd.R_below (pr_ HO_451001.out) hb)
    have n3_ := Aside0.mk (Kd.V_below (by (with_reducible repeat (first | apply Kd.V_alloc | apply Kd.V_drewN | apply Kd.V_drew)); exact HO455.out) hb)
    have n4_ := Aside0.mk (bb_ BK434.out hb)
    have n5_ := Aside0.mk (bb_ BK450.out hb)
    have n6_ := Aside0.mk (bb_ BK458.out hb)
    have n7_ := Aside0.mk (below_step (pb3_ HB.out GE434.out GE450.out GE458.out) hb)
    clear HO_8
    clear HO_435001
    clear HO_451001
    clear HO455
    clear BK434
    clear BK450
    clear BK458
    clear HB
    have HO_8 := n0_
    have HO_435001 := n1_
    have HO_451001 := n2_
    have HO455 := n3_
    have BK434 := n4_
    have BK450 := n5_
    have BK458 := n6_
    have HB := n7_
    clear n0_ n1_ n2_ n3_ n4_ n5_ n6_ n7_
    (try clear hb)
    (try clear hb2)
    (try clear hk)
    (try clear hi)
    refine hK.out _ _ ⟨(blk_cell BK450.out 0).trans rfl, (blk_cell BK450.out 1).trans rfl, (blk_cell BK450.out 2).trans rfl, (blk_cell BK450.out 3).trans rfl, (blk_cell BK458.out 0).trans rfl, (blk_cell BK458.out 1).trans rfl, (blk_cell BK458.out 2).trans rfl, (blk_cell BK458.out 3).trans rfl⟩ (fun hHeld => ?_)
    clear hK K
    refine norm_ (a' := ?_) ?_ ?_
    rotate_left
    · show Act.put _ (some 82) _ = _
      simp only [Act.put, List.setIfInBounds_toArray, List.set_cons_zero, List.set_cons_succ, i64_w, i32_w]
      rfl
    refine pure_ (i := 2) (N := some 83) (v := ?_) (a' := ?_) #[true, true, true, false, false, false, false, false, false, false, false, false, false, false, false, false, false, false, false, false, false, false, false, false, false, false, false, false] rfl rfl (any_of HT_.out (by kernel_rfl)) (fun _ _ _ h => h) (Or.inl ⟨by rfl, ?_⟩) ?_ ?_
    rotate_left
    · intro w'
      go_simp
      (try (simp only [Instr.field]; simp only [underlying, hu27]; go_simp; simp only [asAgg]; go_simp))
      with_reducible rfl
    rotate_left
    · simp only [Act.put, List.setIfInBounds_toArray, List.set_cons_zero, List.set_cons_succ, i64_w, i32_w]
      rfl
    refine take_ (i := 3) (N := some 84) (v := ?_) (a' := ?_) #[true, true, true, true, false, false, false, false, false, false, false, false, false, false, false, false, false, false, false, false, false, false, false, false, false, false, false, false] rfl rfl (take_ofW HT_.out HW_.out (by kernel_rfl)) (fun _ _ _ h => h) (Or.inl ⟨by rfl, ?_⟩) hHeld ?_ ?_
    rotate_left
    · rintro w' ⟨s0, s1, s2, s3, s4, s5, s6, s7⟩
      go_simp
      (try (simp only [Instr.field]; simp only [underlying, hu27]; go_simp; simp only [asAgg]; go_simp))
      with_reducible rfl
    rotate_left
    · simp only [Act.put, List.setIfInBounds_toArray, List.set_cons_zero, List.set_cons_succ, i64_w, i32_w]
      rfl
    refine one_ (i := 4) (N := some 85) #[true, true, true, true, true, false, false, false, false, false, false, false, false, false, false, false, false, false, false, false, false, false, false, false, false, false, false, false] rfl rfl (one_of HT_.out (by kernel_rfl)) (by decide) (fun K hK => ?_)
    refine goes_ Try.func18 (by kernel_rfl) rfl #[.agg #[.int .i64 t452, .slice Ao62 t453.length co62, .int .i64 t456, .bool t457]] (by rfl) rfl rfl mp_ ?_
    with_reducible refine (impl_IsRollout.calls k2 t452 _ _ t453 t456 t457 true _ ?side1 ?side2 A70.out).mono ?_
    (case side1 => exact pc_ ((Kd.V_reads' HO455.out).2.2))
    (case side2 => exact (Kd.V_reads' HO455.out).2.1)
    rintro e w87 ⟨rfl, hb⟩
    refine ⟨_, rfl, ?_⟩
    have n0_ := Aside0.mk (Kd.R_below (pr_ HO_8.out) hb)
    have n1_ := Aside0.mk (Kd.R_below (pr_ HO_435001.out) hb)
    have n2_ := Aside0.mk (Kd.R_below (pr_ HO_451001.out) hb)
    have n3_ := Aside0.mk (Kd.V_below (by (with_reducible repeat (first | apply Kd.V_alloc | apply Kd.V_drewN | apply Kd.V_drew)); exact HO455.out) hb)
    have n4_ := Aside0.mk (bb_ BK434.out hb)
    have n5_ := Aside0.mk (bb_ BK450.out hb)
    have n6_ := Aside0.mk (bb_ BK458.out hb)
    have n7_ := Aside0.mk (below_step (pb3_ HB.out GE434.out GE450.out GE458.out) hb)
    clear HO_8
    clear HO_435001
    clear HO_451001
    clear HO455
    clear BK434
    clear BK450
    clear BK458
    clear HB
    have HO_8 := n0_
    have HO_435001 := n1_
    have HO_451001 := n2_
    have HO455 := n3_
    have BK434 := n4_
    have BK450 := n5_
    have BK458 := n6_
    have HB := n7_
    clear n0_ n1_ n2_ n3_ n4_ n5_ n6_ n7_
    (try clear hb)
    (try clear hb2)
    (try clear hk)
    (try clear hi)
    refine hK.out _ _ ⟨(blk_cell BK450.out 0).trans rfl, (blk_cell BK450.out 1).trans rfl, (blk_cell BK450.out 2).trans rfl, (blk_cell BK450.out 3).trans rfl, (blk_cell BK458.out 0).trans rfl, (blk_cell BK458.out 1).trans rfl, (blk_cell BK458.out 2).trans rfl, (blk_cell BK458.out 3).trans rfl⟩ (fun hHeld => ?_)
    clear hK K
    refine norm_ (a' := ?_) ?_ ?_
    rotate_left
    · show Act.put _ (some 85) _ = _
      simp only [Act.put, List.setIfInBounds_toArray, List.set_cons_zero, List.set_cons_succ, i64_w, i32_w]
      rfl
    refine pure_ (i := 5) (N := some 86) (v := ?_) (a' := ?_) #[true, true, true, true, true, true, false, false, false, false, false, false, false, false, false, false, false, false, false, false, false, false, false, false, false, false, false, false] rfl rfl (any_of HT_.out (by kernel_rfl)) (fun _ _ _ h => h) (Or.inl ⟨by rfl, ?_⟩) ?_ ?_
    rotate_left
    · intro w'
      go_simp
      (try (simp only [Instr.field]; simp only [underlying, hu27]; go_simp; simp only [asAgg]; go_simp))
      with_reducible rfl
    rotate_left
    · simp only [Act.put, List.setIfInBounds_toArray, List.set_cons_zero, List.set_cons_succ, i64_w, i32_w]
      rfl
    refine pure_ (i := 6) (N := some 87) (v := ?_) (a' := ?_) #[true, true, true, true, true, true, true, false, false, false, false, false, false, false, false, false, false, false, false, false, false, false, false, false, false, false, false, false] rfl rfl (any_of HT_.out (by kernel_rfl)) (fun _ _ _ h => h) (Or.inl ⟨by rfl, ?_⟩) ?_ ?_
    rotate_left
    · intro w'
      go_simp
      (try (simp only [Instr.field]; simp only [underlying, hu27]; go_simp; simp only [asAgg]; go_simp))
      with_reducible rfl
    rotate_left
    · simp only [Act.put, List.setIfInBounds_toArray, List.set_cons_zero, List.set_cons_succ, i64_w, i32_w]
      rfl
    refine pure_ (i := 7) (N := some 88) (v := ?_) (a' := ?_) #[true, true, true, true, true, true, true, true, false, false, false, false, false, false, false, false, false, false, false, false, false, false, false, false, false, false, false, false] rfl rfl (any_of HT_.out (by kernel_rfl)) (fun _ _ _ h => h) (Or.inl ⟨by rfl, ?_⟩) ?_ ?_
    rotate_left
    · intro w'
      go_simp
      (try (simp only [Instr.field]; simp only [underlying, hu27]; go_simp; simp only [asAgg]; go_simp))
      with_reducible rfl
    rotate_left
    · simp only [Act.put, List.setIfInBounds_toArray, List.set_cons_zero, List.set_cons_succ, i64_w, i32_w]
      rfl
    refine pure_ (i := 8) (N := some 89) (v := ?_) (a' := ?_) #[true, true, true, true, true, true, true, true, true, false, false, false, false, false, false, false, false, false, false, false, false, false, false, false, false, false, false, false] rfl rfl (any_of HT_.out (by kernel_rfl)) (fun _ _ _ h => h) (Or.inl ⟨by rfl, ?_⟩) ?_ ?_
    rotate_left
    · intro w'
      go_simp
      (try (simp only [Instr.field]; simp only [underlying, hu27]; go_simp; simp only [asAgg]; go_simp))
      with_reducible rfl
    rotate_left
    · simp only [Act.put, List.setIfInBounds_toArray, List.set_cons_zero, List.set_cons_succ, i64_w, i32_w]
      rfl
    refine pure_ (i := 9) (N := some 90) (v := ?_) (a' := ?_) #[true, true, true, true, true, true, true, true, true, true, false, false, false, false, false, false, false, false, false, false, false, false, false, false, false, false, false, false] rfl rfl (any_of HT_.out (by kernel_rfl)) (fun _ _ _ h => h) (Or.inl ⟨by rfl, ?_⟩) ?_ ?_
    rotate_left
    · intro w'
      go_simp
      (try (simp only [Instr.field]; simp only [underlying, hu27]; go_simp; simp only [asAgg]; go_simp))
      with_reducible rfl
    rotate_left
    · simp only [Act.put, List.setIfInBounds_toArray, List.set_cons_zero, List.set_cons_succ, i64_w, i32_w]
      rfl
    refine pure_ (i := 10) (N := some 91) (v := ?_) (a' := ?_) #[true, true, true, true, true, true, true, true, true, true, true, false, false, false, false, false, false, false, false, false, false, false, false, false, false, false, false, false] rfl rfl (any_of HT_.out (by kernel_rfl)) (fun _ _ _ h => h) (Or.inl ⟨by rfl, ?_⟩) ?_ ?_
    rotate_left
    · intro w'
      go_simp
      (try (simp only [Instr.field]; simp only [underlying, hu27]; go_simp; simp only [asAgg]; go_simp))
      with_reducible rfl
    rotate_left
    · simp only [Act.put, List.setIfInBounds_toArray, List.set_cons_zero, List.set_cons_succ, i64_w, i32_w]
      rfl
    refine pure_ (i := 11) (N := some 92) (v := ?_) (a' := ?_) #[true, true, true, true, true, true, true, true, true, true, true, true, false, false, false, false, false, false, false, false, false, false, false, false, false, false, false, false] rfl rfl (any_of HT_.out (by kernel_rfl)) (fun _ _ _ h => h) (Or.inl ⟨by rfl, ?_⟩) ?_ ?_
    rotate_left
    · intro w'
      go_simp
      (try (simp only [Instr.field]; simp only [underlying, hu27]; go_simp; simp only [asAgg]; go_simp))
      with_reducible rfl
    rotate_left
    · simp only [Act.put, List.setIfInBounds_toArray, List.set_cons_zero, List.set_cons_succ, i64_w, i32_w]
      rfl
    refine pure_ (i := 12) (N := some 93) (v := ?_) (a' := ?_) #[true, true, true, true, true, true, true, true, true, true, true, true, true, false, false, false, false, false, false, false, false, false, false, false, false, false, false, false] rfl rfl (any_of HT_.out (by kernel_rfl)) (fun _ _ _ h => h) (Or.inl ⟨by rfl, ?_⟩) ?_ ?_
    rotate_left
    · intro w'
      go_simp
      (try (simp only [Instr.field]; simp only [underlying, hu27]; go_simp; simp only [asAgg]; go_simp))
      with_reducible rfl
    rotate_left
    · simp only [Act.put, List.setIfInBounds_toArray, List.set_cons_zero, List.set_cons_succ, i64_w, i32_w]
      rfl
    refine pure_ (i := 15) (N := some 96) (v := ?_) (a' := ?_) #[true, true, true, true, true, true, true, true, true, true, true, true, true, false, false, true, false, false, false, false, false, false, false, false, false, false, false, false] rfl rfl (any_of HT_.out (by kernel_rfl)) (fun _ _ _ h => h) (Or.inl ⟨by rfl, ?_⟩) ?_ ?_
    rotate_left
    · intro w'
      go_simp
      (try (simp only [Instr.field]; simp only [underlying, hu27]; go_simp; simp only [asAgg]; go_simp))
      with_reducible rfl
    rotate_left
    · simp only [Act.put, List.setIfInBounds_toArray, List.set_cons_zero, List.set_cons_succ, i64_w, i32_w]
      rfl
    refine take_ (i := 13) (N := some 94) (v := ?_) (a' := ?_) #[true, true, true, true, true, true, true, true, true, true, true, true, true, true, false, true, false, false, false, false, false, false, false, false, false, false, false, false] rfl rfl (take_ofW HT_.out HW_.out (by kernel_rfl)) (fun _ _ _ h => h) (Or.inl ⟨by rfl, ?_⟩) hHeld ?_ ?_
    rotate_left
    · rintro w' ⟨s0, s1, s2, s3, s4, s5, s6, s7⟩
      go_simp
      (try (simp only [Instr.field]; simp only [underlying, hu27]; go_simp; simp only [asAgg]; go_simp))
      with_reducible rfl
    rotate_left
    · simp only [Act.put, List.setIfInBounds_toArray, List.set_cons_zero, List.set_cons_succ, i64_w, i32_w]
      rfl
    refine pure_ (i := 14) (N := some 95) (v := ?_) (a' := ?_) #[true, true, true, true, true, true, true, true, true, true, true, true, true, true, true, true, false, false, false, false, false, false, false, false, false, false, false, false] rfl rfl (any_of HT_.out (by kernel_rfl)) (fun _ _ _ h => h) (Or.inl ⟨by rfl, ?_⟩) ?_ ?_
    rotate_left
    · intro w'
      go_simp
      (try (simp only [Instr.field]; simp only [underlying, hu27]; go_simp; simp only [asAgg]; go_simp))
      with_reducible rfl
    rotate_left
    · simp only [Act.put, List.setIfInBounds_toArray, List.set_cons_zero, List.set_cons_succ, i64_w, i32_w]
      rfl
    refine pure_ (i := 16) (N := some 97) (v := ?_) (a' := ?_) #[true, true, true, true, true, true, true, true, true, true, true, true, true, true, true, true, true, false, false, false, false, false, false, false, false, false, false, false] rfl rfl (any_of HT_.out (by kernel_rfl)) (fun _ _ _ h => h) (Or.inl ⟨by rfl, ?_⟩) ?_ ?_
    rotate_left
    · intro w'
      go_simp
      (try (simp only [Instr.field]; simp only [underlying, hu27]; go_simp; simp only [asAgg]; go_simp))
      with_reducible rfl
    rotate_left
    · simp only [Act.put, List.setIfInBounds_toArray, List.set_cons_zero, List.set_cons_succ, i64_w, i32_w]
      rfl
    refine pure_ (i := 17) (N := some 98) (v := ?_) (a' := ?_) #[true, true, true, true, true, true, true, true, true, true, true, true, true, true, true, true, true, true, false, false, false, false, false, false, false, false, false, false] rfl rfl (any_of HT_.out (by kernel_rfl)) (fun _ _ _ h => h) (Or.inl ⟨by rfl, ?_⟩) ?_ ?_
    rotate_left
    · intro w'
      go_simp
      (try (simp only [Instr.field]; simp only [underlying, hu27]; go_simp; simp only [asAgg]; go_simp))
      with_reducible rfl
    rotate_left
    · simp only [Act.put, List.setIfInBounds_toArray, List.set_cons_zero, List.set_cons_succ, i64_w, i32_w]
      rfl
    refine pure_ (i := 18) (N := some 99) (v := ?_) (a' := ?_) #[true, true, true, true, true, true, true, true, true, true, true, true, true, true, true, true, true, true, true, false, false, false, false, false, false, false, false, false] rfl rfl (any_of HT_.out (by kernel_rfl)) (fun _ _ _ h => h) (Or.inl ⟨by rfl, ?_⟩) ?_ ?_
    rotate_left
    · intro w'
      go_simp
      (try (simp only [Instr.field]; simp only [underlying, hu27]; go_simp; simp only [asAgg]; go_simp))
      with_reducible rfl
    rotate_left
    · simp only [Act.put, List.setIfInBounds_toArray, List.set_cons_zero, List.set_cons_succ, i64_w, i32_w]
      rfl
    refine pure_ (i := 19) (N := some 100) (v := ?_) (a' := ?_) #[true, true, true, true, true, true, true, true, true, true, true, true, true, true, true, true, true, true, true, true, false, false, false, false, false, false, false, false] rfl rfl (any_of HT_.out (by kernel_rfl)) (fun _ _ _ h => h) (Or.inl ⟨by rfl, ?_⟩) ?_ ?_
    rotate_left
    · intro w'
      go_simp
      (try (simp only [Instr.field]; simp only [underlying, hu27]; go_simp; simp only [asAgg]; go_simp))
      with_reducible rfl
    rotate_left
    · simp only [Act.put, List.setIfInBounds_toArray, List.set_cons_zero, List.set_cons_succ, i64_w, i32_w]
      rfl
    refine pure_ (i := 23) (N := some 104) (v := ?_) (a' := ?_) #[true, true, true, true, true, true, true, true, true, true, true, true, true, true, true, true, true, true, true, true, false, false, false, true, false, false, false, false] rfl rfl (any_of HT_.out (by kernel_rfl)) (fun _ _ _ h => h) (Or.inl ⟨by rfl, ?_⟩) ?_ ?_
    rotate_left
    · intro w'
      go_simp
      (try (simp only [Instr.field]; simp only [underlying, hu27]; go_simp; simp only [asAgg]; go_simp))
      with_reducible rfl
    rotate_left
    · simp only [Act.put, List.setIfInBounds_toArray, List.set_cons_zero, List.set_cons_succ, i64_w, i32_w]
      rfl
    refine take_ (i := 20) (N := some 101) (v := ?_) (a' := ?_) #[true, true, true, true, true, true, true, true, true, true, true, true, true, true, true, true, true, true, true, true, true, false, false, true, false, false, false, false] rfl rfl (take_ofW HT_.out HW_.out (by kernel_rfl)) (fun _ _ _ h => h) (Or.inl ⟨by rfl, ?_⟩) hHeld ?_ ?_
    rotate_left
    · rintro w' ⟨s0, s1, s2, s3, s4, s5, s6, s7⟩
      go_simp
      (try (simp only [Instr.field]; simp only [underlying, hu27]; go_simp; simp only [asAgg]; go_simp))
      with_reducible rfl
    rotate_left
    · simp only [Act.put, List.setIfInBounds_toArray, List.set_cons_zero, List.set_cons_succ, i64_w, i32_w]
      rfl
    refine take_ (i := 22) (N := some 103) (v := ?_) (a' := ?_) #[true, true, true, true, true, true, true, true, true, true, true, true, true, true, true, true, true, true, true, true, true, false, true, true, false, false, false, false] rfl rfl (take_ofW HT_.out HW_.out (by kernel_rfl)) (fun _ _ _ h => h) (Or.inl ⟨by rfl, ?_⟩) hHeld ?_ ?_
    rotate_left
    · rintro w' ⟨s0, s1, s2, s3, s4, s5, s6, s7⟩
      go_simp
      (try (simp only [Instr.field]; simp only [underlying, hu27]; go_simp; simp only [asAgg]; go_simp))
      with_reducible rfl
    rotate_left
    · simp only [Act.put, List.setIfInBounds_toArray, List.set_cons_zero, List.set_cons_succ, i64_w, i32_w]
      rfl
    refine one_ (i := 21) (N := some 102) #[true, true, true, true, true, true, true, true, true, true, true, true, true, true, true, true, true, true, true, true, true, true, true, true, false, false, false, false] rfl rfl (one_of HT_.out (by kernel_rfl)) (by decide) (fun K hK => ?_)
    refine goes_ Try.func23 (by kernel_rfl) rfl #[.agg #[.int .i64 t452, .slice Ao62 t453.length co62, .int .i64 t456, .bool t457], .int .i64 50] (by rfl) rfl rfl mp_ ?_
    with_reducible refine (impl_CountIn.calls k2 t452 _ _ t453 t456 t457 50 t462 _ ?side1 ?side2 A83.out).mono ?_
    (case side1 => exact pc_ ((Kd.V_reads' HO455.out).2.2))
    (case side2 => exact (Kd.V_reads' HO455.out).2.1)
    rintro e w88 ⟨rfl, hb⟩
    refine ⟨_, rfl, ?_⟩
    have n0_ := Aside0.mk (Kd.R_below (pr_ HO_8.out) hb)
    have n1_ := Aside0.mk (Kd.R_below (pr_ HO_435001.out) hb)
    have n2_ := Aside0.mk (Kd.R_below (pr_ HO_451001.out) hb)
    have n3_ := Aside0.mk (Kd.V_below (by (with_reducible repeat (first | apply Kd.V_alloc | apply Kd.V_drewN | apply Kd.V_drew)); exact HO455.out) hb)
    have n4_ := Aside0.mk (bb_ BK434.out hb)
    have n5_ := Aside0.mk (bb_ BK450.out hb)
    have n6_ := Aside0.mk (bb_ BK458.out hb)
    have n7_ := Aside0.mk (below_step (pb3_ HB.out GE434.out GE450.out GE458.out) hb)
    clear HO_8
    clear HO_435001
    clear HO_451001
    clear HO455
    clear BK434
    clear BK450
    clear BK458
    clear HB
    have HO_8 := n0_
    have HO_435001 := n1_
    have HO_451001 := n2_
    have HO455 := n3_
    have BK434 := n4_
    have BK450 := n5_
    have BK458 := n6_
    have HB := n7_
    clear n0_ n1_ n2_ n3_ n4_ n5_ n6_ n7_
    (try clear hb)
    (try clear hb2)
    (try clear hk)
    (try clear hi)
    refine hK.out _ _ ⟨(blk_cell BK450.out 0).trans rfl, (blk_cell BK450.out 1).trans rfl, (blk_cell BK450.out 2).trans rfl, (blk_cell BK450.out 3).trans rfl, (blk_cell BK458.out 0).trans rfl, (blk_cell BK458.out 1).trans rfl, (blk_cell BK458.out 2).trans rfl, (blk_cell BK458.out 3).trans rfl⟩ (fun hHeld => ?_)
    clear hK K
    refine norm_ (a' := ?_) ?_ ?_
    rotate_left
    · show Act.put _ (some 102) _ = _
      simp only [Act.put, List.setIfInBounds_toArray, List.set_cons_zero, List.set_cons_succ, i64_w, i32_w]
      rfl
    refine one_ (i := 24) (N := some 105) #[true, true, true, true, true, true, true, true, true, true, true, true, true, true, true, true, true, true, true, true, true, true, true, true, true, false, false, false] rfl rfl (one_of HT_.out (by kernel_rfl)) (by decide) (fun K hK => ?_)
    refine goes_ Try.func35 (by kernel_rfl) rfl #[.agg #[.int .i64 t441, .slice Ao45 t442.length co45, .int .i64 t445, .bool t446], .int .i64 50, .int .i64 t459] (by rfl) rfl rfl mp_ ?_
    with_reducible refine (impl_MostHurt.calls k2 t441 _ _ t442 t445 t446 50 t459 t463 _ ?side1 ?side2 A84.out).mono ?_
    (case side1 => exact pc_ ((Kd.R_reads' HO_451001.out).2.2))
    (case side2 => exact (Kd.R_reads' HO_451001.out).2.1)
    rintro e w89 ⟨rfl, hb⟩
    refine ⟨_, rfl, ?_⟩
    have n0_ := Aside0.mk (Kd.R_below (pr_ HO_8.out) hb)
    have n1_ := Aside0.mk (Kd.R_below (pr_ HO_435001.out) hb)
    have n2_ := Aside0.mk (Kd.R_below (pr_ HO_451001.out) hb)
    have n3_ := Aside0.mk (Kd.V_below (by (with_reducible repeat (first | apply Kd.V_alloc | apply Kd.V_drewN | apply Kd.V_drew)); exact HO455.out) hb)
    have n4_ := Aside0.mk (bb_ BK434.out hb)
    have n5_ := Aside0.mk (bb_ BK450.out hb)
    have n6_ := Aside0.mk (bb_ BK458.out hb)
    have n7_ := Aside0.mk (below_step (pb3_ HB.out GE434.out GE450.out GE458.out) hb)
    clear HO_8
    clear HO_435001
    clear HO_451001
    clear HO455
    clear BK434
    clear BK450
    clear BK458
    clear HB
    have HO_8 := n0_
    have HO_435001 := n1_
    have HO_451001 := n2_
    have HO455 := n3_
    have BK434 := n4_
    have BK450 := n5_
    have BK458 := n6_
    have HB := n7_
    clear n0_ n1_ n2_ n3_ n4_ n5_ n6_ n7_
    (try clear hb)
    (try clear hb2)
    (try clear hk)
    (try clear hi)
    refine hK.out _ _ ⟨(blk_cell BK450.out 0).trans rfl, (blk_cell BK450.out 1).trans rfl, (blk_cell BK450.out 2).trans rfl, (blk_cell BK450.out 3).trans rfl, (blk_cell BK458.out 0).trans rfl, (blk_cell BK458.out 1).trans rfl, (blk_cell BK458.out 2).trans rfl, (blk_cell BK458.out 3).trans rfl⟩ (fun hHeld => ?_)
    clear hK K
    refine norm_ (a' := ?_) ?_ ?_
    rotate_left
    · show Act.put _ (some 105) _ = _
      simp only [Act.put, List.setIfInBounds_toArray, List.set_cons_zero, List.set_cons_succ, i64_w, i32_w]
      rfl
    refine pure_ (i := 25) (N := some 106) (v := ?_) (a' := ?_) #[true, true, true, true, true, true, true, true, true, true, true, true, true, true, true, true, true, true, true, true, true, true, true, true, true, true, false, false] rfl rfl (any_of HT_.out (by kernel_rfl)) (fun _ _ _ h => h) (Or.inl ⟨by rfl, ?_⟩) ?_ ?_
    rotate_left
    · intro w'
      go_simp
      (try (simp only [Instr.field]; simp only [underlying, hu27]; go_simp; simp only [asAgg]; go_simp))
      with_reducible rfl
    rotate_left
    · simp only [Act.put, List.setIfInBounds_toArray, List.set_cons_zero, List.set_cons_succ, i64_w, i32_w]
      rfl
    refine pure_ (i := 26) (N := some 107) (v := ?_) (a' := ?_) #[true, true, true, true, true, true, true, true, true, true, true, true, true, true, true, true, true, true, true, true, true, true, true, true, true, true, true, false] rfl rfl (any_of HT_.out (by kernel_rfl)) (fun _ _ _ h => h) (Or.inl ⟨by rfl, ?_⟩) ?_ ?_
    rotate_left
    · intro w'
      go_simp
      (try (simp only [Instr.field]; simp only [underlying, hu27]; go_simp; simp only [asAgg]; go_simp))
      with_reducible rfl
    rotate_left
    · simp only [Act.put, List.setIfInBounds_toArray, List.set_cons_zero, List.set_cons_succ, i64_w, i32_w]
      rfl
    refine pure_ (i := 27) (N := some 108) (v := ?_) (a' := ?_) #[true, true, true, true, true, true, true, true, true, true, true, true, true, true, true, true, true, true, true, true, true, true, true, true, true, true, true, true] rfl rfl (any_of HT_.out (by kernel_rfl)) (fun _ _ _ h => h) (Or.inl ⟨by rfl, ?_⟩) ?_ ?_
    rotate_left
    · intro w'
      go_simp
      (try (simp only [Instr.field]; simp only [underlying, hu27]; go_simp; simp only [asAgg]; go_simp))
      with_reducible rfl
    rotate_left
    · simp only [Act.put, List.setIfInBounds_toArray, List.set_cons_zero, List.set_cons_succ, i64_w, i32_w]
      rfl
    refine done_ (done_of HT_.out (by kernel_rfl)) ?_
    try go_wp2
    go_meet
    case rel => exact ⟨_, (decide (t462 > t463)), el_, H', ⟨by have := HJ5.out; have := HK2.out; first | omega | exact Nat.le_refl _⟩, ⟨pr_ (Kd.R_mono HO_435001.out (fun _ hk => hk.2))⟩, ⟨pr_ (Kd.R_mono HO_451001.out (fun _ hk => hk.2))⟩, ⟨by (with_reducible repeat (first | apply Kd.V_alloc | apply Kd.V_drewN | apply Kd.V_drew)); exact Kd.V_mono HO455.out (fun _ hk => ⟨hk.2.1, ⟨hk.2.2.1, ⟨hk.2.2.2.1, ⟨hk.2.2.2.2.1, hk.2.2.2.2.2⟩⟩⟩⟩)⟩, ⟨pk_ BK434.out⟩, ⟨pk_ BK450.out⟩, ⟨pk_ BK458.out⟩, ⟨pb3_ HB.out GE434.out GE450.out GE458.out⟩⟩
  clear HC53
  try clear c1
  try clear c2
  try clear p2
  try clear c3
  try clear p6
  try clear c7
  try clear c18
  try clear c23
  try clear c35
  try clear p64
  try clear c79
  try clear c79b0
  obtain ⟨kq, x108_52, rfl, HA, HJ52, HO_435001, HO_451001, HO_459001, BK434, BK450, BK458, HB⟩ := hcut
  rcases kq with _ | kj52
  · exact absurd HA.out (by simp [laws_FnDamage.j2])
  have H := HA.out
  clear HA
  simp only [laws_FnDamage.j2] at H
  by_cases c90 : x108_52 = true
  · subst c90
    rw [if_pos rfl] at H
    obtain rfl := Option.some.inj H
    go_wp2
    go_ret
    exact ⟨er_, pb3_ HB.out GE434.out GE450.out GE458.out⟩
  replace c90 := Bool.eq_false_iff.mpr c90
  subst c90
  rw [if_neg (show ¬ (false = true) by decide)] at H
  replace H := Option.bind_eq_some_iff.mp H
  obtain ⟨⟨t464, t465⟩, A910, H⟩ := H
  (try dsimp only at H)
  have A91 := Aside0.mk A910
  clear A910
  have HS_ := Aside0.mk H
  clear H
  go_upto_region 19 with (first | ((with_reducible refine gate_callee (f := 49) rfl ?_); refine goesL_ (some 111) rfl rfl Try.func49 (by kernel_rfl) rfl #[.slice A0 l0.length c0] rfl mp_ ?_; (with_reducible refine (spec_DrawSafeStages.calls kj52 _ _ l0 t464 t465 _ ?side1 ?side2 A91.out).mono ?_); (case side1 => exact pc_ (Kd.C_below HR0.out HB.out)); (case side2 => exact HC0.out); rintro e w92 ⟨rfl, hb⟩; refine ⟨_, rfl, ?_⟩; have n0_ := Aside0.mk (Kd.R_below (pr_ HO_435001.out) hb); have n1_ := Aside0.mk (Kd.R_below (pr_ HO_451001.out) hb); have n2_ := Aside0.mk (Kd.V_below (by (with_reducible repeat (first | apply Kd.V_alloc | apply Kd.V_drewN | apply Kd.V_drew)); exact HO_459001.out) hb); have n3_ := Aside0.mk (bb_ BK434.out hb); have n4_ := Aside0.mk (bb_ BK450.out hb); have n5_ := Aside0.mk (bb_ BK458.out hb); have n6_ := Aside0.mk (below_step (pb3_ HB.out GE434.out GE450.out GE458.out) hb); clear HO_435001; clear HO_451001; clear HO_459001; clear BK434; clear BK450; clear BK458; clear HB; have HO_435001 := n0_; have HO_451001 := n1_; have HO_459001 := n2_; have BK434 := n3_; have BK450 := n4_; have BK458 := n5_; have HB := n6_; clear n0_ n1_ n2_ n3_ n4_ n5_ n6_; (try clear hb); (try clear hb2); (try clear hk); (try clear hi)))
  (try simp only [Act.put, List.setIfInBounds_toArray, List.set_cons_zero, List.set_cons_succ])
  have H := HS_.out
  clear HS_
  replace H := Option.bind_eq_some_iff.mp H
  obtain ⟨t466, A930, H⟩ := H
  (try dsimp only at H)
  have A93 := Aside0.mk A930
  clear A930
  have HS_ := Aside0.mk H
  clear H
  go_upto_region 20 with (first | ((with_reducible refine gate_callee (f := 50) rfl ?_); refine goesL_ (some 116) rfl rfl Try.func50 (by kernel_rfl) rfl #[.int .i64 t464, .int .i64 t465] rfl mp_ ?_; (with_reducible refine (impl_SafeStages.calls kj52 t464 t465 t466 _ A93.out).mono ?_); rintro e w94 ⟨v467, rfl, ho0, hb⟩; refine ⟨_, rfl, ?_⟩; have n0_ := Aside0.mk (Kd.R_elder' (pr_ HO_435001.out) (Kd.R_base ho0) hb); have n1_ := Aside0.mk (Kd.R_elder' (pr_ HO_451001.out) (Kd.R_base ho0) hb); have n2_ := Aside0.mk (Kd.V_elder' (by (with_reducible repeat (first | apply Kd.V_alloc | apply Kd.V_drewN | apply Kd.V_drew)); exact HO_459001.out) (Kd.R_base ho0) hb); have n3_ := Aside0.mk (Kd.R_lower (Kd.R_new' (Kd.R_new' ho0 (Kd.R_lt (pr_ HO_435001.out))) (Kd.R_lt (pr_ HO_451001.out))) (below_size (pb3_ HB.out GE434.out GE450.out GE458.out))); have n4_ := Aside0.mk (bb_ BK434.out hb); have n5_ := Aside0.mk (bb_ BK450.out hb); have n6_ := Aside0.mk (bb_ BK458.out hb); have n7_ := Aside0.mk (below_step (pb3_ HB.out GE434.out GE450.out GE458.out) hb); clear HO_435001; clear HO_451001; clear HO_459001; clear BK434; clear BK450; clear BK458; clear HB; have HO_435001 := n0_; have HO_451001 := n1_; have HO_459001 := n2_; have HO468 := n3_; have BK434 := n4_; have BK450 := n5_; have BK458 := n6_; have HB := n7_; clear n0_ n1_ n2_ n3_ n4_ n5_ n6_ n7_; (try clear hb); (try clear hb2); (try clear hk); (try clear hi); (try clear ho0)))
  (try simp only [Act.put, List.setIfInBounds_toArray, List.set_cons_zero, List.set_cons_succ])
  have H := HS_.out
  clear HS_
  have HS_ := Aside0.mk H
  clear H
  obtain ⟨Ao95, co95, eo95⟩ := Kd.R_slice HO468.out
  subst eo95
  go_upto_region 21 with (first | ((with_reducible refine gate_dst (N := 16) rfl ?_); refine box_event ?hg (N := 16) ?hd (cs := #[.int .i64 0, .slice none 0 0, .int .i64 0, .bool false]) (t := 27) ?hr ?_; (case hd => rfl); (case hg => rfl); (case hr => first | (go_simp; done) | (go_simp; rfl)); intro gb469 hg w96 hbox hb; have n0_ := Aside0.mk (Kd.R_below (pr_ HO_435001.out) hb); have n1_ := Aside0.mk (Kd.R_below (pr_ HO_451001.out) hb); have n2_ := Aside0.mk (Kd.V_below (Kd.V_elderB (by (with_reducible repeat (first | apply Kd.V_alloc | apply Kd.V_drewN | apply Kd.V_drew)); exact HO_459001.out) gb469 (Nat.le_of_eq hg.symm)) hb); have n3_ := Aside0.mk (Kd.R_below (pr_ HO468.out) hb); have n4_ := Aside0.mk (bb_ BK434.out hb); have n5_ := Aside0.mk (bb_ BK450.out hb); have n6_ := Aside0.mk (bb_ BK458.out hb); have n7_ := Aside0.mk (below_step (pb3_ HB.out GE434.out GE450.out GE458.out) hb); have n8_ := Aside0.mk (hbox); have n9_ := Aside0.mk ((by rw [hg]; exact (below_size (pb3_ HB.out GE434.out GE450.out GE458.out)) : w.heap.size ≤ gb469)); have n10_ := Aside0.mk ((by rw [hg]; exact (below_size (pb3_ HB.out GE434.out GE450.out GE458.out)) : w.heap.size ≤ gb469)); have n11_ := Aside0.mk ((by rw [hg]; exact Nat.ne_of_lt (blk_lt (pk_ BK434.out)) : gb434 ≠ gb469)); have n12_ := Aside0.mk ((by rw [hg]; exact Nat.ne_of_gt (blk_lt (pk_ BK434.out)) : gb469 ≠ gb434)); have n13_ := Aside0.mk ((by rw [hg]; exact Nat.ne_of_lt (blk_lt (pk_ BK450.out)) : gb450 ≠ gb469)); have n14_ := Aside0.mk ((by rw [hg]; exact Nat.ne_of_gt (blk_lt (pk_ BK450.out)) : gb469 ≠ gb450)); have n15_ := Aside0.mk ((by rw [hg]; exact Nat.ne_of_lt (blk_lt (pk_ BK458.out)) : gb458 ≠ gb469)); have n16_ := Aside0.mk ((by rw [hg]; exact Nat.ne_of_gt (blk_lt (pk_ BK458.out)) : gb469 ≠ gb458)); clear HO_435001; clear HO_451001; clear HO_459001; clear HO468; clear BK434; clear BK450; clear BK458; clear HB; have HO_435001 := n0_; have HO_451001 := n1_; have HO_459001 := n2_; have HO468 := n3_; have BK434 := n4_; have BK450 := n5_; have BK458 := n6_; have HB := n7_; have BK469 := n8_; have GW469 := n9_; have GE469 := n10_; have NB434_469 := n11_; have NB469_434 := n12_; have NB450_469 := n13_; have NB469_450 := n14_; have NB458_469 := n15_; have NB469_458 := n16_; clear n0_ n1_ n2_ n3_ n4_ n5_ n6_ n7_ n8_ n9_ n10_ n11_ n12_ n13_ n14_ n15_ n16_; clear hb hbox hg; have hnb97 := NB469_434.out; have hnc97 := NB434_469.out; have hnb98 := NB469_450.out; have hnc98 := NB450_469.out; have hnb99 := NB469_458.out; have hnc99 := NB458_469.out; have hcz100_0 : w96.cell? ⟨gb469, 0, none⟩ = some (.int .i64 0) := (blk_cell BK469.out 0).trans rfl; have hcz100_1 : w96.cell? ⟨gb469, 1, none⟩ = some (.slice none 0 0) := (blk_cell BK469.out 1).trans rfl; have hcz100_2 : w96.cell? ⟨gb469, 2, none⟩ = some (.int .i64 0) := (blk_cell BK469.out 2).trans rfl; have hcz100_3 : w96.cell? ⟨gb469, 3, none⟩ = some (.bool false) := (blk_cell BK469.out 3).trans rfl; have hfz100_0 := blk_frozen BK469.out 0; have hfz100_1 := blk_frozen BK469.out 1; have hfz100_2 := blk_frozen BK469.out 2; have hfz100_3 := blk_frozen BK469.out 3))
  (try simp only [Act.put, List.setIfInBounds_toArray, List.set_cons_zero, List.set_cons_succ])
  have H := HS_.out
  clear HS_
  by_cases c101 : (t466.length : Int) = 0
  · rw [if_pos c101] at H
    have c101b0 : ((t466.length : Int) == 0) = true := beq_iff_eq.mpr c101
    have c101b1 : ((t466.length : Int) != 0) = false := bne_eq_false_iff_eq.mpr c101
    clear c101
    (first | rw [c101b0] | (simp only [i64_w, i32_w]; rw [c101b0]) | rw [c101b1] | (have c_ := c101b1; rw [bne] at c_; rw [c_]; clear c_) | skip)
    obtain rfl := Option.some.inj H
    go_wp2
    go_ret
    exact ⟨er_, pb4_ HB.out GE434.out GE450.out GE458.out GE469.out⟩
  rw [if_neg c101] at H
  have c101b0 : ((t466.length : Int) == 0) = false := beq_eq_false_iff_ne.mpr c101
  have c101b1 : ((t466.length : Int) != 0) = true := bne_iff_ne.mpr c101
  have c101b2 : ¬ (t466 = []) := fun h_ => c101 (by rw [h_]; rfl)
  (first | rw [c101b0] | (simp only [i64_w, i32_w]; rw [c101b0]) | rw [c101b1] | (have c_ := c101b1; rw [bne] at c_; rw [c_]; clear c_) | skip)
  replace H := Option.bind_eq_some_iff.mp H
  obtain ⟨t470, A1020, H⟩ := H
  (try dsimp only at H)
  have A102 := Aside0.mk A1020
  clear A1020
  by_cases c103 : t470 = true
  rotate_left
  · replace c103 := Bool.eq_false_iff.mpr c103
    subst c103
    rw [if_neg (show ¬ (false = true) by decide)] at H
    obtain rfl := Option.some.inj H
    have hnb104 := NB469_434.out
    have hnc104 := NB434_469.out
    have hnb105 := NB469_450.out
    have hnc105 := NB450_469.out
    have hnb106 := NB469_458.out
    have hnc106 := NB458_469.out
    obtain ⟨hcz107_0, hcz107_1, hcz107_2, hcz107_3, hfz107_0, hfz107_1, hfz107_2, hfz107_3⟩ := bc4_ BK469.out
    go_wp2_with (first | (go_at_call 18; (with_reducible refine (impl_IsRollout.calls kj52 1 _ _ t466 0 false false _ ?side1 ?side2 A102.out).mono ?_); (case side1 => refine (Kd.R_reads' (e := 3) (base := w.heap.size) (ok := fun k_ => ((True ∧ some k_ ≠ (.slice Ao10 t425.length co10 : Value).ownBlock) ∧ some k_ ≠ (.slice Ao45 t442.length co45 : Value).ownBlock)) (n := t466.length) (c := co95) ?_).2.2; exact (pr_ (rf4_ HO468.out BK469.out))); (case side2 => exact (Kd.R_reads' HO468.out).2.1); rintro e w108 ⟨rfl, hb⟩; have n0_ := Aside0.mk (Kd.R_below (pr_ (rf4_ HO_435001.out BK469.out)) hb); have n1_ := Aside0.mk (Kd.R_below (pr_ (rf4_ HO_451001.out BK469.out)) hb); have n2_ := Aside0.mk (Kd.V_below (by (with_reducible repeat (first | apply Kd.V_alloc | apply Kd.V_drewN | apply Kd.V_drew)); exact (Kd.V_mono (Kd.V_far (p := ⟨gb469, 3, none⟩) (Kd.V_far (p := ⟨gb469, 2, none⟩) (Kd.V_far (p := ⟨gb469, 1, none⟩) (Kd.V_far (p := ⟨gb469, 0, none⟩) (Kd.V_mono HO_459001.out (fun k_ hk => (⟨hk, hk.2⟩ : _ ∧ k_ ≠ gb469))) (fun _ hk => hk.2) (.int .i64 1)) (fun _ hk => hk.2) (.slice Ao95 t466.length co95)) (fun _ hk => hk.2) (.int .i64 0)) (fun _ hk => hk.2) (.bool false)) (fun _ h_ => h_.1))) hb); have n3_ := Aside0.mk (Kd.R_below (pr_ (rf4_ HO468.out BK469.out)) hb); have n4_ := Aside0.mk (blk_below (g := gb434) (o := .cells #[.int .i64 t424, .slice Ao10 t425.length co10, .int .i64 t428, .bool t429] 27 (0, 0)) (pp_ BK434.out) hb); have n5_ := Aside0.mk (blk_below (g := gb450) (o := .cells #[.int .i64 t441, .slice Ao45 t442.length co45, .int .i64 t445, .bool t446] 27 (0, 0)) (pp_ BK450.out) hb); have n6_ := Aside0.mk (blk_below (g := gb458) (o := .cells #[.int .i64 t452, .slice Ao62 t453.length co62, .int .i64 t456, .bool t457] 27 (0, 0)) (pp_ BK458.out) hb); have n7_ := Aside0.mk (blk_below (g := gb469) (o := .cells #[.int .i64 1, .slice Ao95 t466.length co95, .int .i64 0, .bool false] 27 (0, 0)) (pp_ BK469.out) hb); have n8_ := Aside0.mk (below_step (pb4_ HB.out GE434.out GE450.out GE458.out GE469.out) hb); clear HO_435001; clear HO_451001; clear HO_459001; clear HO468; clear BK434; clear BK450; clear BK458; clear BK469; clear HB; have HO_435001 := n0_; have HO_451001 := n1_; have HO_459001 := n2_; have HO468 := n3_; have BK434 := n4_; have BK450 := n5_; have BK458 := n6_; have BK469 := n7_; have HB := n8_; clear n0_ n1_ n2_ n3_ n4_ n5_ n6_ n7_ n8_; (try clear hb); (try clear hb2); (try clear hk); (try clear hi)))
    go_ret
    exact ⟨er_, pb4_ HB.out GE434.out GE450.out GE458.out GE469.out⟩
  subst c103
  rw [if_pos rfl] at H
  by_cases c109 : (t466.length : Int) = 1
  · rw [if_pos c109] at H
    have c109b0 : ((t466.length : Int) == 1) = true := beq_iff_eq.mpr c109
    have c109b1 : ((t466.length : Int) != 1) = false := bne_eq_false_iff_eq.mpr c109
    clear c109
    obtain rfl := Option.some.inj H
    have hnb110 := NB469_434.out
    have hnc110 := NB434_469.out
    have hnb111 := NB469_450.out
    have hnc111 := NB450_469.out
    have hnb112 := NB469_458.out
    have hnc112 := NB458_469.out
    obtain ⟨hcz113_0, hcz113_1, hcz113_2, hcz113_3, hfz113_0, hfz113_1, hfz113_2, hfz113_3⟩ := bc4_ BK469.out
    go_wp2_with (first | (go_at_call 18; (with_reducible refine (impl_IsRollout.calls kj52 1 _ _ t466 0 false true _ ?side1 ?side2 A102.out).mono ?_); (case side1 => refine (Kd.R_reads' (e := 3) (base := w.heap.size) (ok := fun k_ => ((True ∧ some k_ ≠ (.slice Ao10 t425.length co10 : Value).ownBlock) ∧ some k_ ≠ (.slice Ao45 t442.length co45 : Value).ownBlock)) (n := t466.length) (c := co95) ?_).2.2; exact (pr_ (rf4_ HO468.out BK469.out))); (case side2 => exact (Kd.R_reads' HO468.out).2.1); rintro e w114 ⟨rfl, hb⟩; have n0_ := Aside0.mk (Kd.R_below (pr_ (rf4_ HO_435001.out BK469.out)) hb); have n1_ := Aside0.mk (Kd.R_below (pr_ (rf4_ HO_451001.out BK469.out)) hb); have n2_ := Aside0.mk (Kd.V_below (by (with_reducible repeat (first | apply Kd.V_alloc | apply Kd.V_drewN | apply Kd.V_drew)); exact (Kd.V_mono (Kd.V_far (p := ⟨gb469, 3, none⟩) (Kd.V_far (p := ⟨gb469, 2, none⟩) (Kd.V_far (p := ⟨gb469, 1, none⟩) (Kd.V_far (p := ⟨gb469, 0, none⟩) (Kd.V_mono HO_459001.out (fun k_ hk => (⟨hk, hk.2⟩ : _ ∧ k_ ≠ gb469))) (fun _ hk => hk.2) (.int .i64 1)) (fun _ hk => hk.2) (.slice Ao95 t466.length co95)) (fun _ hk => hk.2) (.int .i64 0)) (fun _ hk => hk.2) (.bool false)) (fun _ h_ => h_.1))) hb); have n3_ := Aside0.mk (Kd.R_below (pr_ (rf4_ HO468.out BK469.out)) hb); have n4_ := Aside0.mk (blk_below (g := gb434) (o := .cells #[.int .i64 t424, .slice Ao10 t425.length co10, .int .i64 t428, .bool t429] 27 (0, 0)) (pp_ BK434.out) hb); have n5_ := Aside0.mk (blk_below (g := gb450) (o := .cells #[.int .i64 t441, .slice Ao45 t442.length co45, .int .i64 t445, .bool t446] 27 (0, 0)) (pp_ BK450.out) hb); have n6_ := Aside0.mk (blk_below (g := gb458) (o := .cells #[.int .i64 t452, .slice Ao62 t453.length co62, .int .i64 t456, .bool t457] 27 (0, 0)) (pp_ BK458.out) hb); have n7_ := Aside0.mk (blk_below (g := gb469) (o := .cells #[.int .i64 1, .slice Ao95 t466.length co95, .int .i64 0, .bool false] 27 (0, 0)) (pp_ BK469.out) hb); have n8_ := Aside0.mk (below_step (pb4_ HB.out GE434.out GE450.out GE458.out GE469.out) hb); clear HO_435001; clear HO_451001; clear HO_459001; clear HO468; clear BK434; clear BK450; clear BK458; clear BK469; clear HB; have HO_435001 := n0_; have HO_451001 := n1_; have HO_459001 := n2_; have HO468 := n3_; have BK434 := n4_; have BK450 := n5_; have BK458 := n6_; have BK469 := n7_; have HB := n8_; clear n0_ n1_ n2_ n3_ n4_ n5_ n6_ n7_ n8_; (try clear hb); (try clear hb2); (try clear hk); (try clear hi)))
    go_ret
    exact ⟨er_, pb4_ HB.out GE434.out GE450.out GE458.out GE469.out⟩
  rw [if_neg c109] at H
  have c109b0 : ((t466.length : Int) == 1) = false := beq_eq_false_iff_ne.mpr c109
  have c109b1 : ((t466.length : Int) != 1) = true := bne_iff_ne.mpr c109
  replace H := Option.bind_eq_some_iff.mp H
  obtain ⟨t471, A1150, H⟩ := H
  replace H : (some (decide (t471 ≤ t465))) = some r := H
  have A115 := Aside0.mk A1150
  clear A1150
  obtain rfl := Option.some.inj H
  have hnb116 := NB469_434.out
  have hnc116 := NB434_469.out
  have hnb117 := NB469_450.out
  have hnc117 := NB450_469.out
  have hnb118 := NB469_458.out
  have hnc118 := NB458_469.out
  obtain ⟨hcz119_0, hcz119_1, hcz119_2, hcz119_3, hfz119_0, hfz119_1, hfz119_2, hfz119_3⟩ := bc4_ BK469.out
  go_wp2_with (first | (go_at_call 18; (with_reducible refine (impl_IsRollout.calls kj52 1 _ _ t466 0 false true _ ?side1 ?side2 A102.out).mono ?_); (case side1 => refine (Kd.R_reads' (e := 3) (base := w.heap.size) (ok := fun k_ => ((True ∧ some k_ ≠ (.slice Ao10 t425.length co10 : Value).ownBlock) ∧ some k_ ≠ (.slice Ao45 t442.length co45 : Value).ownBlock)) (n := t466.length) (c := co95) ?_).2.2; exact (pr_ (rf4_ HO468.out BK469.out))); (case side2 => exact (Kd.R_reads' HO468.out).2.1); rintro e w120 ⟨rfl, hb⟩; have n0_ := Aside0.mk (Kd.R_below (pr_ (rf4_ HO_435001.out BK469.out)) hb); have n1_ := Aside0.mk (Kd.R_below (pr_ (rf4_ HO_451001.out BK469.out)) hb); have n2_ := Aside0.mk (Kd.V_below (by (with_reducible repeat (first | apply Kd.V_alloc | apply Kd.V_drewN | apply Kd.V_drew)); exact (Kd.V_mono (Kd.V_far (p := ⟨gb469, 3, none⟩) (Kd.V_far (p := ⟨gb469, 2, none⟩) (Kd.V_far (p := ⟨gb469, 1, none⟩) (Kd.V_far (p := ⟨gb469, 0, none⟩) (Kd.V_mono HO_459001.out (fun k_ hk => (⟨hk, hk.2⟩ : _ ∧ k_ ≠ gb469))) (fun _ hk => hk.2) (.int .i64 1)) (fun _ hk => hk.2) (.slice Ao95 t466.length co95)) (fun _ hk => hk.2) (.int .i64 0)) (fun _ hk => hk.2) (.bool false)) (fun _ h_ => h_.1))) hb); have n3_ := Aside0.mk (Kd.R_below (pr_ (rf4_ HO468.out BK469.out)) hb); have n4_ := Aside0.mk (blk_below (g := gb434) (o := .cells #[.int .i64 t424, .slice Ao10 t425.length co10, .int .i64 t428, .bool t429] 27 (0, 0)) (pp_ BK434.out) hb); have n5_ := Aside0.mk (blk_below (g := gb450) (o := .cells #[.int .i64 t441, .slice Ao45 t442.length co45, .int .i64 t445, .bool t446] 27 (0, 0)) (pp_ BK450.out) hb); have n6_ := Aside0.mk (blk_below (g := gb458) (o := .cells #[.int .i64 t452, .slice Ao62 t453.length co62, .int .i64 t456, .bool t457] 27 (0, 0)) (pp_ BK458.out) hb); have n7_ := Aside0.mk (blk_below (g := gb469) (o := .cells #[.int .i64 1, .slice Ao95 t466.length co95, .int .i64 0, .bool false] 27 (0, 0)) (pp_ BK469.out) hb); have n8_ := Aside0.mk (below_step (pb4_ HB.out GE434.out GE450.out GE458.out GE469.out) hb); clear HO_435001; clear HO_451001; clear HO_459001; clear HO468; clear BK434; clear BK450; clear BK458; clear BK469; clear HB; have HO_435001 := n0_; have HO_451001 := n1_; have HO_459001 := n2_; have HO468 := n3_; have BK434 := n4_; have BK450 := n5_; have BK458 := n6_; have BK469 := n7_; have HB := n8_; clear n0_ n1_ n2_ n3_ n4_ n5_ n6_ n7_ n8_; (try clear hb); (try clear hb2); (try clear hk); (try clear hi); have hcz121_0 : w120.cell? ⟨gb469, 0, none⟩ = some (.int .i64 1) := (blk_cell BK469.out 0).trans rfl; have hcz121_1 : w120.cell? ⟨gb469, 1, none⟩ = some (.slice Ao95 t466.length co95) := (blk_cell BK469.out 1).trans rfl; have hcz121_2 : w120.cell? ⟨gb469, 2, none⟩ = some (.int .i64 0) := (blk_cell BK469.out 2).trans rfl; have hcz121_3 : w120.cell? ⟨gb469, 3, none⟩ = some (.bool false) := (blk_cell BK469.out 3).trans rfl; have hfz121_0 := blk_frozen BK469.out 0; have hfz121_1 := blk_frozen BK469.out 1; have hfz121_2 := blk_frozen BK469.out 2; have hfz121_3 := blk_frozen BK469.out 3) | (go_at_call 23; (with_reducible refine (impl_CountIn.calls kj52 1 _ _ t466 0 false t464 t471 _ ?side1 ?side2 A115.out).mono ?_); (case side1 => exact pc_ ((Kd.R_reads' HO468.out).2.2)); (case side2 => exact (Kd.R_reads' HO468.out).2.1); rintro e w122 ⟨rfl, hb⟩; have n0_ := Aside0.mk (Kd.R_below (pr_ HO_435001.out) hb); have n1_ := Aside0.mk (Kd.R_below (pr_ HO_451001.out) hb); have n2_ := Aside0.mk (Kd.V_below (by (with_reducible repeat (first | apply Kd.V_alloc | apply Kd.V_drewN | apply Kd.V_drew)); exact HO_459001.out) hb); have n3_ := Aside0.mk (Kd.R_below (pr_ HO468.out) hb); have n4_ := Aside0.mk (bb_ BK434.out hb); have n5_ := Aside0.mk (bb_ BK450.out hb); have n6_ := Aside0.mk (bb_ BK458.out hb); have n7_ := Aside0.mk (bb_ BK469.out hb); have n8_ := Aside0.mk (below_step (pb4_ HB.out GE434.out GE450.out GE458.out GE469.out) hb); clear HO_435001; clear HO_451001; clear HO_459001; clear HO468; clear BK434; clear BK450; clear BK458; clear BK469; clear HB; have HO_435001 := n0_; have HO_451001 := n1_; have HO_459001 := n2_; have HO468 := n3_; have BK434 := n4_; have BK450 := n5_; have BK458 := n6_; have BK469 := n7_; have HB := n8_; clear n0_ n1_ n2_ n3_ n4_ n5_ n6_ n7_ n8_; (try clear hb); (try clear hb2); (try clear hk); (try clear hi)))
  go_ret
  exact ⟨er_, pb4_ HB.out GE434.out GE450.out GE458.out GE469.out⟩

/-- THE ONE PURE STATEMENT of laws_FnDamage: yours. -/
def laws_FnDamage.Pure : Prop := ∀ (l0 : List Int), l0.length ≤ maxLen → l0.length * 1 ≤ 140737488351232 → (∀ x ∈ l0, (Lit.int .u8 x).wf = true) → ∃ k, laws_FnDamage.f k l0 = some true
theorem laws_FnDamage.walk (P : laws_FnDamage.Pure) (a0 : Option Addr) (len0 cap0 : Nat) (z0 : List Int) (w : World) (w0 : (a0 = none ∧ len0 = 0 ∧ cap0 = 0 ∧ z0 = []) ∨ ∃ x, a0 = some x ∧ len0 ≤ cap0 ∧ cap0 ≤ maxLen ∧ z0.length = cap0 ∧ (∀ i, i < z0.length → w.cell? (x.add i) = some (.int .u8 (z0.getD i 0))) ∧ ∀ n ∈ z0, (Lit.int .u8 n).wf = true) (y0 : len0 * 1 ≤ 140737488351232) :
    Calls Try.prog 14 #[.slice a0 len0 cap0] w fun e w' => e = .returned (.bool true) ∧ Below w.heap.size w w' := by
  obtain ⟨l0, rfl, hr0, hm0, hw0, hc0⟩ := ReadsInt.ofRowC w0
  obtain ⟨k, h⟩ := P l0 hm0 y0 hw0
  refine (laws_FnDamage.calls k _ _ l0 true w (Kd.C_of_reads (d := (0 : Int)) (h1 := fun _ => rfl) hr0) hc0 h).mono ?_
  rintro e w' ⟨rfl, hd⟩
  exact ⟨rfl, hd⟩

end Go.Proofs.Ytlcmkgbabffmeaa.Print
