-- Written by a program of this session (printx.py) out of the translation; Lean checks it.
import Derived.Test.YtlcmkgbabffmeaaPrint0
import Derived.Test.YtlcmkgbabffmeaaPrint3
import Derived.Test.YtlcmkgbabffmeaaPrint4
import Derived.Test.YtlcmkgbabffmeaaPrint7
namespace Go.Proofs.Ytlcmkgbabffmeaa.Print
open Go.RowKit Go.Proofs.YtlcmkgbabffmeaaW.PrintWords Go.Proofs.YtlcmkgbabffmeaaW.PrintLast Go.Proofs.YtlcmkgbabffmeaaW.PrintMore Go.Proofs.Ytlcmkgbabffmeaa.Short
attribute [local go_sem] max2_int min2_int max_two min_two max_three min_three max_four min_four   -- for this text's walks alone
set_option linter.unusedVariables false
set_option linter.unusedSimpArgs false

/-! ### laws_FnRollouts: function 9 -/
mutual
def laws_FnRollouts.l0 : Nat → Int → Int → Int → Int → Int → List Int → Int → Bool → Option (Bool)
  | 0, _, _, _, _, _, _, _, _ => none
  | k + 1, x4, x5, x6, x7, x485000, x485001, x485002, x485003 => if x7 < x4 then (laws_FnRollouts.j1 k x4 x5 x6 x7 (decide (x7 < 10)) x485000 x485001 x485002 x485003) else (laws_FnRollouts.j1 k x4 x5 x6 x7 false x485000 x485001 x485002 x485003)
def laws_FnRollouts.j1 : Nat → Int → Int → Int → Int → Bool → Int → List Int → Int → Bool → Option (Bool)
  | 0, _, _, _, _, _, _, _, _, _ => none
  | k + 1, x4, x5, x6, x7, x30, x485000, x485001, x485002, x485003 => if x30 = true then ((impl_IsIn.f k x485000 x485001 x485002 x485003 x7 x4).bind fun t486 => (if t486 = true then (laws_FnRollouts.l0 k x4 x5 (wrap64 (x6 + 1)) (wrap64 (x7 + 1)) x485000 x485001 x485002 x485003) else (laws_FnRollouts.l0 k x4 x5 x6 (wrap64 (x7 + 1)) x485000 x485001 x485002 x485003))) else (if x5 > x4 then (if x4 ≥ 0 then (laws_FnRollouts.j2 k x4 x5 true x485000 x485001 x485002 x485003) else (laws_FnRollouts.j2 k x4 x5 false x485000 x485001 x485002 x485003)) else (if x4 ≥ 0 then (if x4 ≤ 10 then (laws_FnRollouts.j2 k x4 x5 (x6 != x5) x485000 x485001 x485002 x485003) else (laws_FnRollouts.j2 k x4 x5 false x485000 x485001 x485002 x485003)) else (laws_FnRollouts.j2 k x4 x5 false x485000 x485001 x485002 x485003)))
def laws_FnRollouts.j2 : Nat → Int → Int → Bool → Int → List Int → Int → Bool → Option (Bool)
  | 0, _, _, _, _, _, _, _ => none
  | k + 1, x4, x5, x58, x485000, x485001, x485002, x485003 => if x58 = true then (some false) else ((impl_NextStage.f k x485000 x485001 x485002 x485003).bind fun bt487 => (if bt487.2.2.2.2 = true then ((impl_IsRollout.f k bt487.1 bt487.2.1 bt487.2.2.1 bt487.2.2.2.1).bind fun t495 => (if t495 = true then ((impl_CountIn.f k bt487.1 bt487.2.1 bt487.2.2.1 bt487.2.2.2.1 x4).bind fun t496 => (if t496 < x5 then (laws_FnRollouts.j3 k x4 x5 bt487.2.2.2.2 true x485000 x485001 x485002 x485003) else (laws_FnRollouts.j3 k x4 x5 bt487.2.2.2.2 false x485000 x485001 x485002 x485003))) else (laws_FnRollouts.j3 k x4 x5 bt487.2.2.2.2 true x485000 x485001 x485002 x485003))) else ((impl_EqualRollouts.f k bt487.1 bt487.2.1 bt487.2.2.1 bt487.2.2.2.1 x485000 x485001 x485002 x485003).bind fun t497 => (laws_FnRollouts.j3 k x4 x5 bt487.2.2.2.2 (!t497) x485000 x485001 x485002 x485003))))
def laws_FnRollouts.j3 : Nat → Int → Int → Bool → Bool → Int → List Int → Int → Bool → Option (Bool)
  | 0, _, _, _, _, _, _, _, _ => none
  | k + 1, x4, x5, x9, x86, x485000, x485001, x485002, x485003 => if x86 = true then (some false) else ((impl_BackStage.f k x485000 x485001 x485002 x485003).bind fun bt498 => (if bt498.2.2.2.2 = true then ((impl_CountIn.f k bt498.1 bt498.2.1 bt498.2.2.1 bt498.2.2.2.1 x4).bind fun t506 => (if t506 = 0 then ((impl_IsRollout.f k bt498.1 bt498.2.1 bt498.2.2.1 bt498.2.2.2.1).bind fun t507 => (if t507 = true then (laws_FnRollouts.j4 k x4 x5 x9 bt498.2.2.2.2 false x485000 x485001 x485002 x485003 bt498.1 bt498.2.1 bt498.2.2.1 bt498.2.2.2.1) else (laws_FnRollouts.j4 k x4 x5 x9 bt498.2.2.2.2 true x485000 x485001 x485002 x485003 bt498.1 bt498.2.1 bt498.2.2.1 bt498.2.2.2.1))) else (laws_FnRollouts.j4 k x4 x5 x9 bt498.2.2.2.2 true x485000 x485001 x485002 x485003 bt498.1 bt498.2.1 bt498.2.2.1 bt498.2.2.2.1))) else ((impl_EqualRollouts.f k bt498.1 bt498.2.1 bt498.2.2.1 bt498.2.2.2.1 x485000 x485001 x485002 x485003).bind fun t508 => (laws_FnRollouts.j4 k x4 x5 x9 bt498.2.2.2.2 (!t508) x485000 x485001 x485002 x485003 bt498.1 bt498.2.1 bt498.2.2.1 bt498.2.2.2.1))))
def laws_FnRollouts.j4 : Nat → Int → Int → Bool → Bool → Bool → Int → List Int → Int → Bool → Int → List Int → Int → Bool → Option (Bool)
  | 0, _, _, _, _, _, _, _, _, _, _, _, _, _ => none
  | k + 1, x4, x5, x9, x11, x113, x485000, x485001, x485002, x485003, x506000, x506001, x506002, x506003 => if x113 = true then (some false) else ((impl_NextStage.f k x506000 x506001 x506002 x506003).bind fun bt509 => (if x11 = true then (if bt509.2.2.2.2 = true then (some false) else (if x9 = true then (some true) else (if x485003 = true then (some true) else ((impl_IsRollout.f k x485000 x485001 x485002 x485003).bind fun t517 => (if t517 = true then (if x4 < 0 then (some true) else (if x4 > 10000 then (some true) else (some (x5 == x4)))) else (some true)))))) else (if x9 = true then (some true) else (if x485003 = true then (some true) else ((impl_IsRollout.f k x485000 x485001 x485002 x485003).bind fun t518 => (if t518 = true then (if x4 < 0 then (some true) else (if x4 > 10000 then (some true) else (some (x5 == x4)))) else (some true)))))))
end
def laws_FnRollouts.f (k : Nat) (l0 : List Int) : Option (Bool) := (laws_big.f l0).bind fun t476 => (if t476 = true then (some true) else ((spec_DrawCountIn.f k l0).bind fun bt477 => ((impl_CountIn.f k bt477.1 bt477.2.1 bt477.2.2.1 bt477.2.2.2.1 bt477.2.2.2.2).bind fun t485 => (laws_FnRollouts.l0 k bt477.2.2.2.2 t485 0 0 bt477.1 bt477.2.1 bt477.2.2.1 bt477.2.2.2.1))))
theorem laws_FnRollouts.mono_l : ∀ k, (∀ y0 y1 y2 y3 y4 y5 y6 y7, LeO (laws_FnRollouts.l0 k y0 y1 y2 y3 y4 y5 y6 y7) (laws_FnRollouts.l0 (k + 1) y0 y1 y2 y3 y4 y5 y6 y7)) ∧ (∀ y0 y1 y2 y3 y4 y5 y6 y7 y8, LeO (laws_FnRollouts.j1 k y0 y1 y2 y3 y4 y5 y6 y7 y8) (laws_FnRollouts.j1 (k + 1) y0 y1 y2 y3 y4 y5 y6 y7 y8)) ∧ (∀ y0 y1 y2 y3 y4 y5 y6, LeO (laws_FnRollouts.j2 k y0 y1 y2 y3 y4 y5 y6) (laws_FnRollouts.j2 (k + 1) y0 y1 y2 y3 y4 y5 y6)) ∧ (∀ y0 y1 y2 y3 y4 y5 y6 y7, LeO (laws_FnRollouts.j3 k y0 y1 y2 y3 y4 y5 y6 y7) (laws_FnRollouts.j3 (k + 1) y0 y1 y2 y3 y4 y5 y6 y7)) ∧ (∀ y0 y1 y2 y3 y4 y5 y6 y7 y8 y9 y10 y11 y12, LeO (laws_FnRollouts.j4 k y0 y1 y2 y3 y4 y5 y6 y7 y8 y9 y10 y11 y12) (laws_FnRollouts.j4 (k + 1) y0 y1 y2 y3 y4 y5 y6 y7 y8 y9 y10 y11 y12))
  | 0 => ⟨fun _ _ _ _ _ _ _ _ r h => by simp [laws_FnRollouts.l0] at h, fun _ _ _ _ _ _ _ _ _ r h => by simp [laws_FnRollouts.j1] at h, fun _ _ _ _ _ _ _ r h => by simp [laws_FnRollouts.j2] at h, fun _ _ _ _ _ _ _ _ r h => by simp [laws_FnRollouts.j3] at h, fun _ _ _ _ _ _ _ _ _ _ _ _ _ r h => by simp [laws_FnRollouts.j4] at h⟩
  | k + 1 => by
    obtain ⟨ih0, ih1, ih2, ih3, ih4⟩ := laws_FnRollouts.mono_l k
    refine ⟨?_, ?_, ?_, ?_, ?_⟩
    · intro y0 y1 y2 y3 y4 y5 y6 y7
      unfold laws_FnRollouts.l0
      repeat' first
      | (with_reducible exact ih0 _ _ _ _ _ _ _ _)
      | (with_reducible exact ih1 _ _ _ _ _ _ _ _ _)
      | (with_reducible exact ih2 _ _ _ _ _ _ _)
      | (with_reducible exact ih3 _ _ _ _ _ _ _ _)
      | (with_reducible exact ih4 _ _ _ _ _ _ _ _ _ _ _ _ _)
      | (with_reducible exact impl_BackStage.mono _ _ _ _ _)
      | (with_reducible exact impl_CountIn.mono _ _ _ _ _ _)
      | (with_reducible exact impl_EqualRollouts.mono _ _ _ _ _ _ _ _ _)
      | (with_reducible exact impl_IsIn.mono _ _ _ _ _ _ _)
      | (with_reducible exact impl_IsRollout.mono _ _ _ _ _)
      | (with_reducible exact impl_NextStage.mono _ _ _ _ _)
      | (with_reducible exact spec_DrawCountIn.mono _ _)
      | (with_reducible exact LeO.refl _)
      | (with_reducible exact LeO.none _)
      | (with_reducible refine LeO.ite ?_ ?_)
      | (with_reducible refine LeO.bind ?_ (fun _ => ?_))
      | exact ih0 _ _ _ _ _ _ _ _
      | exact ih1 _ _ _ _ _ _ _ _ _
      | exact ih2 _ _ _ _ _ _ _
      | exact ih3 _ _ _ _ _ _ _ _
      | exact ih4 _ _ _ _ _ _ _ _ _ _ _ _ _
      | exact impl_BackStage.mono _ _ _ _ _
      | exact impl_CountIn.mono _ _ _ _ _ _
      | exact impl_EqualRollouts.mono _ _ _ _ _ _ _ _ _
      | exact impl_IsIn.mono _ _ _ _ _ _ _
      | exact impl_IsRollout.mono _ _ _ _ _
      | exact impl_NextStage.mono _ _ _ _ _
      | exact spec_DrawCountIn.mono _ _
      | exact LeO.none _
      | refine LeO.ite ?_ ?_
      | refine LeO.bind ?_ (fun _ => ?_)
    · intro y0 y1 y2 y3 y4 y5 y6 y7 y8
      unfold laws_FnRollouts.j1
      repeat' first
      | (with_reducible exact ih0 _ _ _ _ _ _ _ _)
      | (with_reducible exact ih1 _ _ _ _ _ _ _ _ _)
      | (with_reducible exact ih2 _ _ _ _ _ _ _)
      | (with_reducible exact ih3 _ _ _ _ _ _ _ _)
      | (with_reducible exact ih4 _ _ _ _ _ _ _ _ _ _ _ _ _)
      | (with_reducible exact impl_BackStage.mono _ _ _ _ _)
      | (with_reducible exact impl_CountIn.mono _ _ _ _ _ _)
      | (with_reducible exact impl_EqualRollouts.mono _ _ _ _ _ _ _ _ _)
      | (with_reducible exact impl_IsIn.mono _ _ _ _ _ _ _)
      | (with_reducible exact impl_IsRollout.mono _ _ _ _ _)
      | (with_reducible exact impl_NextStage.mono _ _ _ _ _)
      | (with_reducible exact spec_DrawCountIn.mono _ _)
      | (with_reducible exact LeO.refl _)
      | (with_reducible exact LeO.none _)
      | (with_reducible refine LeO.ite ?_ ?_)
      | (with_reducible refine LeO.bind ?_ (fun _ => ?_))
      | exact ih0 _ _ _ _ _ _ _ _
      | exact ih1 _ _ _ _ _ _ _ _ _
      | exact ih2 _ _ _ _ _ _ _
      | exact ih3 _ _ _ _ _ _ _ _
      | exact ih4 _ _ _ _ _ _ _ _ _ _ _ _ _
      | exact impl_BackStage.mono _ _ _ _ _
      | exact impl_CountIn.mono _ _ _ _ _ _
      | exact impl_EqualRollouts.mono _ _ _ _ _ _ _ _ _
      | exact impl_IsIn.mono _ _ _ _ _ _ _
      | exact impl_IsRollout.mono _ _ _ _ _
      | exact impl_NextStage.mono _ _ _ _ _
      | exact spec_DrawCountIn.mono _ _
      | exact LeO.none _
      | refine LeO.ite ?_ ?_
      | refine LeO.bind ?_ (fun _ => ?_)
    · intro y0 y1 y2 y3 y4 y5 y6
      unfold laws_FnRollouts.j2
      repeat' first
      | (with_reducible exact ih0 _ _ _ _ _ _ _ _)
      | (with_reducible exact ih1 _ _ _ _ _ _ _ _ _)
      | (with_reducible exact ih2 _ _ _ _ _ _ _)
      | (with_reducible exact ih3 _ _ _ _ _ _ _ _)
      | (with_reducible exact ih4 _ _ _ _ _ _ _ _ _ _ _ _ _)
      | (with_reducible exact impl_BackStage.mono _ _ _ _ _)
      | (with_reducible exact impl_CountIn.mono _ _ _ _ _ _)
      | (with_reducible exact impl_EqualRollouts.mono _ _ _ _ _ _ _ _ _)
      | (with_reducible exact impl_IsIn.mono _ _ _ _ _ _ _)
      | (with_reducible exact impl_IsRollout.mono _ _ _ _ _)
      | (with_reducible exact impl_NextStage.mono _ _ _ _ _)
      | (with_reducible exact spec_DrawCountIn.mono _ _)
      | (with_reducible exact LeO.refl _)
      | (with_reducible exact LeO.none _)
      | (with_reducible refine LeO.ite ?_ ?_)
      | (with_reducible refine LeO.bind ?_ (fun _ => ?_))
      | exact ih0 _ _ _ _ _ _ _ _
      | exact ih1 _ _ _ _ _ _ _ _ _
      | exact ih2 _ _ _ _ _ _ _
      | exact ih3 _ _ _ _ _ _ _ _
      | exact ih4 _ _ _ _ _ _ _ _ _ _ _ _ _
      | exact impl_BackStage.mono _ _ _ _ _
      | exact impl_CountIn.mono _ _ _ _ _ _
      | exact impl_EqualRollouts.mono _ _ _ _ _ _ _ _ _
      | exact impl_IsIn.mono _ _ _ _ _ _ _
      | exact impl_IsRollout.mono _ _ _ _ _
      | exact impl_NextStage.mono _ _ _ _ _
      | exact spec_DrawCountIn.mono _ _
      | exact LeO.none _
      | refine LeO.ite ?_ ?_
      | refine LeO.bind ?_ (fun _ => ?_)
    · intro y0 y1 y2 y3 y4 y5 y6 y7
      unfold laws_FnRollouts.j3
      repeat' first
      | (with_reducible exact ih0 _ _ _ _ _ _ _ _)
      | (with_reducible exact ih1 _ _ _ _ _ _ _ _ _)
      | (with_reducible exact ih2 _ _ _ _ _ _ _)
      | (with_reducible exact ih3 _ _ _ _ _ _ _ _)
      | (with_reducible exact ih4 _ _ _ _ _ _ _ _ _ _ _ _ _)
      | (with_reducible exact impl_BackStage.mono _ _ _ _ _)
      | (with_reducible exact impl_CountIn.mono _ _ _ _ _ _)
      | (with_reducible exact impl_EqualRollouts.mono _ _ _ _ _ _ _ _ _)
      | (with_reducible exact impl_IsIn.mono _ _ _ _ _ _ _)
      | (with_reducible exact impl_IsRollout.mono _ _ _ _ _)
      | (with_reducible exact impl_NextStage.mono _ _ _ _ _)
      | (with_reducible exact spec_DrawCountIn.mono _ _)
      | (with_reducible exact LeO.refl _)
      | (with_reducible exact LeO.none _)
      | (with_reducible refine LeO.ite ?_ ?_)
      | (with_reducible refine LeO.bind ?_ (fun _ => ?_))
      | exact ih0 _ _ _ _ _ _ _ _
      | exact ih1 _ _ _ _ _ _ _ _ _
      | exact ih2 _ _ _ _ _ _ _
      | exact ih3 _ _ _ _ _ _ _ _
      | exact ih4 _ _ _ _ _ _ _ _ _ _ _ _ _
      | exact impl_BackStage.mono _ _ _ _ _
      | exact impl_CountIn.mono _ _ _ _ _ _
      | exact impl_EqualRollouts.mono _ _ _ _ _ _ _ _ _
      | exact impl_IsIn.mono _ _ _ _ _ _ _
      | exact impl_IsRollout.mono _ _ _ _ _
      | exact impl_NextStage.mono _ _ _ _ _
      | exact spec_DrawCountIn.mono _ _
      | exact LeO.none _
      | refine LeO.ite ?_ ?_
      | refine LeO.bind ?_ (fun _ => ?_)
    · intro y0 y1 y2 y3 y4 y5 y6 y7 y8 y9 y10 y11 y12
      unfold laws_FnRollouts.j4
      repeat' first
      | (with_reducible exact ih0 _ _ _ _ _ _ _ _)
      | (with_reducible exact ih1 _ _ _ _ _ _ _ _ _)
      | (with_reducible exact ih2 _ _ _ _ _ _ _)
      | (with_reducible exact ih3 _ _ _ _ _ _ _ _)
      | (with_reducible exact ih4 _ _ _ _ _ _ _ _ _ _ _ _ _)
      | (with_reducible exact impl_BackStage.mono _ _ _ _ _)
      | (with_reducible exact impl_CountIn.mono _ _ _ _ _ _)
      | (with_reducible exact impl_EqualRollouts.mono _ _ _ _ _ _ _ _ _)
      | (with_reducible exact impl_IsIn.mono _ _ _ _ _ _ _)
      | (with_reducible exact impl_IsRollout.mono _ _ _ _ _)
      | (with_reducible exact impl_NextStage.mono _ _ _ _ _)
      | (with_reducible exact spec_DrawCountIn.mono _ _)
      | (with_reducible exact LeO.refl _)
      | (with_reducible exact LeO.none _)
      | (with_reducible refine LeO.ite ?_ ?_)
      | (with_reducible refine LeO.bind ?_ (fun _ => ?_))
      | exact ih0 _ _ _ _ _ _ _ _
      | exact ih1 _ _ _ _ _ _ _ _ _
      | exact ih2 _ _ _ _ _ _ _
      | exact ih3 _ _ _ _ _ _ _ _
      | exact ih4 _ _ _ _ _ _ _ _ _ _ _ _ _
      | exact impl_BackStage.mono _ _ _ _ _
      | exact impl_CountIn.mono _ _ _ _ _ _
      | exact impl_EqualRollouts.mono _ _ _ _ _ _ _ _ _
      | exact impl_IsIn.mono _ _ _ _ _ _ _
      | exact impl_IsRollout.mono _ _ _ _ _
      | exact impl_NextStage.mono _ _ _ _ _
      | exact spec_DrawCountIn.mono _ _
      | exact LeO.none _
      | refine LeO.ite ?_ ?_
      | refine LeO.bind ?_ (fun _ => ?_)
theorem laws_FnRollouts.mono : ∀ a0 k, LeO (laws_FnRollouts.f k a0) (laws_FnRollouts.f (k + 1) a0) := by
  intro a0 k
  obtain ⟨ih0, ih1, ih2, ih3, ih4⟩ := laws_FnRollouts.mono_l k
  unfold laws_FnRollouts.f
  repeat' first
      | (with_reducible exact ih0 _ _ _ _ _ _ _ _)
      | (with_reducible exact ih1 _ _ _ _ _ _ _ _ _)
      | (with_reducible exact ih2 _ _ _ _ _ _ _)
      | (with_reducible exact ih3 _ _ _ _ _ _ _ _)
      | (with_reducible exact ih4 _ _ _ _ _ _ _ _ _ _ _ _ _)
      | (with_reducible exact impl_BackStage.mono _ _ _ _ _)
      | (with_reducible exact impl_CountIn.mono _ _ _ _ _ _)
      | (with_reducible exact impl_EqualRollouts.mono _ _ _ _ _ _ _ _ _)
      | (with_reducible exact impl_IsIn.mono _ _ _ _ _ _ _)
      | (with_reducible exact impl_IsRollout.mono _ _ _ _ _)
      | (with_reducible exact impl_NextStage.mono _ _ _ _ _)
      | (with_reducible exact spec_DrawCountIn.mono _ _)
      | (with_reducible exact LeO.refl _)
      | (with_reducible exact LeO.none _)
      | (with_reducible refine LeO.ite ?_ ?_)
      | (with_reducible refine LeO.bind ?_ (fun _ => ?_))
      | exact ih0 _ _ _ _ _ _ _ _
      | exact ih1 _ _ _ _ _ _ _ _ _
      | exact ih2 _ _ _ _ _ _ _
      | exact ih3 _ _ _ _ _ _ _ _
      | exact ih4 _ _ _ _ _ _ _ _ _ _ _ _ _
      | exact impl_BackStage.mono _ _ _ _ _
      | exact impl_CountIn.mono _ _ _ _ _ _
      | exact impl_EqualRollouts.mono _ _ _ _ _ _ _ _ _
      | exact impl_IsIn.mono _ _ _ _ _ _ _
      | exact impl_IsRollout.mono _ _ _ _ _
      | exact impl_NextStage.mono _ _ _ _ _
      | exact spec_DrawCountIn.mono _ _
      | exact LeO.none _
      | refine LeO.ite ?_ ?_
      | refine LeO.bind ?_ (fun _ => ?_)
set_option maxHeartbeats 8000000 in
set_option maxRecDepth 100000 in
theorem laws_FnRollouts.calls (k : Nat) (A0 : Option Addr) (c0 : Nat) (l0 : List Int) (r : Bool) (w : World) (hr0 : Kd.C (Kd.int .u8) w A0 l0.length l0) (hc0 : l0.length ≤ c0) (h : laws_FnRollouts.f k l0 = some r) :
    Calls Try.prog 9 #[.slice A0 l0.length c0] w fun e w' => e = .returned (.bool r) ∧ Below w.heap.size w w' := by
  have hu27 := Try.underlying27
  have HR0 := Aside0.mk hr0
  have HC0 := Aside0.mk hc0
  clear hr0 hc0
  have HB := Aside0.mk (Below.refl w.heap.size w)
  have H : ((laws_big.f l0).bind fun t476 => (if t476 = true then (some true) else ((spec_DrawCountIn.f k l0).bind fun bt477 => ((impl_CountIn.f k bt477.1 bt477.2.1 bt477.2.2.1 bt477.2.2.2.1 bt477.2.2.2.2).bind fun t485 => (laws_FnRollouts.l0 k bt477.2.2.2.2 t485 0 0 bt477.1 bt477.2.1 bt477.2.2.1 bt477.2.2.2.1))))) = some r := h
  clear h
  replace H := Option.bind_eq_some_iff.mp H
  obtain ⟨t476, A20, H⟩ := H
  (try dsimp only at H)
  have A2 := Aside0.mk A20
  clear A20
  have HS_ := Aside0.mk H
  clear H
  go_enter Try.func9, Try.ntmps9
  go_upto_if 15 with (first | ((with_reducible refine gate_callee (f := 32) rfl ?_); refine goesL_ (some 15) rfl rfl Try.func32 (by kernel_rfl) rfl #[.slice A0 l0.length c0] rfl mp_ ?_; (with_reducible refine (laws_big.calls _ _ l0 t476 _ ?side1 ?side2 A2.out).mono ?_); (case side1 => exact pc_ HR0.out); (case side2 => exact HC0.out); rintro e w' ⟨rfl, ⟨nd, rfl⟩⟩; refine ⟨_, rfl, ?_⟩))
  (try simp only [Act.put, List.setIfInBounds_toArray, List.set_cons_zero, List.set_cons_succ])
  have H := HS_.out
  clear HS_
  by_cases c3 : t476 = true
  · subst c3
    rw [if_pos rfl] at H
    obtain rfl := Option.some.inj H
    go_wp2
    go_ret
    exact ⟨er_, pb_ HB.out⟩
  replace c3 := Bool.eq_false_iff.mpr c3
  subst c3
  rw [if_neg (show ¬ (false = true) by decide)] at H
  replace H := Option.bind_eq_some_iff.mp H
  obtain ⟨⟨t477, t478, t481, t482, t483⟩, A40, H⟩ := H
  (try dsimp only at H)
  have A4 := Aside0.mk A40
  clear A40
  replace H := Option.bind_eq_some_iff.mp H
  obtain ⟨t485, A50, H⟩ := H
  replace H : (laws_FnRollouts.l0 k t483 t485 0 0 t477 t478 t481 t482) = some r := H
  have A5 := Aside0.mk A50
  clear A50
  have H' := Aside0.mk H
  clear H
  go_wp2_with (first | ((with_reducible refine gate_callee (f := 33) rfl ?_); refine goesL_ (some 18) rfl rfl Try.func33 (by kernel_rfl) rfl #[.slice A0 l0.length c0] rfl mp_ ?_; (with_reducible refine (spec_DrawCountIn.calls k _ _ l0 t477 t478 t481 t482 t483 _ ?side1 ?side2 A4.out).mono ?_); (case side1 => exact pc_ (Kd.C_below HR0.out HB.out)); (case side2 => exact HC0.out); rintro e w6 ⟨v479, rfl, ho0, hb⟩; refine ⟨_, rfl, ?_⟩; have n0_ := Aside0.mk (Kd.R_lower ho0 (below_size (pb_ HB.out))); have n1_ := Aside0.mk (below_step (pb_ HB.out) hb); clear HB; have HO480 := n0_; have HB := n1_; clear n0_ n1_; (try clear hb); (try clear hb2); (try clear hk); (try clear hi); (try clear ho0)) | ((with_reducible refine gate_dst (N := 3) rfl ?_); refine box_event ?hg (N := 3) ?hd (cs := #[.int .i64 0, .slice none 0 0, .int .i64 0, .bool false]) (t := 27) ?hr ?_; (case hd => rfl); (case hg => rfl); (case hr => first | (go_simp; done) | (go_simp; rfl)); intro gb484 hg w7 hbox hb; have n0_ := Aside0.mk (Kd.R_below (pr_ HO480.out) hb); have n1_ := Aside0.mk (below_step (pb_ HB.out) hb); have n2_ := Aside0.mk (hbox); have n3_ := Aside0.mk ((by rw [hg]; exact (below_size (pb_ HB.out)) : w.heap.size ≤ gb484)); have n4_ := Aside0.mk ((by rw [hg]; exact (below_size (pb_ HB.out)) : w.heap.size ≤ gb484)); clear HO480; clear HB; have HO480 := n0_; have HB := n1_; have BK484 := n2_; have GW484 := n3_; have GE484 := n4_; clear n0_ n1_ n2_ n3_ n4_; clear hb hbox hg; have hcz8_0 : w7.cell? ⟨gb484, 0, none⟩ = some (.int .i64 0) := (blk_cell BK484.out 0).trans rfl; have hcz8_1 : w7.cell? ⟨gb484, 1, none⟩ = some (.slice none 0 0) := (blk_cell BK484.out 1).trans rfl; have hcz8_2 : w7.cell? ⟨gb484, 2, none⟩ = some (.int .i64 0) := (blk_cell BK484.out 2).trans rfl; have hcz8_3 : w7.cell? ⟨gb484, 3, none⟩ = some (.bool false) := (blk_cell BK484.out 3).trans rfl; have hfz8_0 := blk_frozen BK484.out 0; have hfz8_1 := blk_frozen BK484.out 1; have hfz8_2 := blk_frozen BK484.out 2; have hfz8_3 := blk_frozen BK484.out 3; obtain ⟨Ao9, co9, eo9⟩ := Kd.R_slice HO480.out; subst eo9) | ((with_reducible refine gate_callee (f := 23) rfl ?_); refine goesL_ (some 23) rfl rfl Try.func23 (by kernel_rfl) rfl #[.agg #[.int .i64 t477, .slice Ao9 t478.length co9, .int .i64 t481, .bool t482], .int .i64 t483] rfl mp_ ?_; (with_reducible refine (impl_CountIn.calls k t477 _ _ t478 t481 t482 t483 t485 _ ?side1 ?side2 A5.out).mono ?_); (case side1 => refine (Kd.R_reads' (e := 3) (base := w.heap.size) (ok := fun k_ => True) (n := t478.length) (c := co9) ?_).2.2; exact (pr_ (rf4_ HO480.out BK484.out))); (case side2 => exact (Kd.R_reads' HO480.out).2.1); rintro e w10 ⟨rfl, hb⟩; refine ⟨_, rfl, ?_⟩; have n0_ := Aside0.mk (Kd.R_below (pr_ (rf4_ HO480.out BK484.out)) hb); have n1_ := Aside0.mk (blk_below (g := gb484) (o := .cells #[.int .i64 t477, .slice Ao9 t478.length co9, .int .i64 t481, .bool t482] 27 (0, 0)) (pp_ BK484.out) hb); have n2_ := Aside0.mk (below_step (pb1_ HB.out GE484.out) hb); clear HO480; clear BK484; clear HB; have HO480 := n0_; have BK484 := n1_; have HB := n2_; clear n0_ n1_ n2_; (try clear hb); (try clear hb2); (try clear hk); (try clear hi)))
  (try simp only [Act.put, List.setIfInBounds_toArray, List.set_cons_zero, List.set_cons_succ])
  go_loopg [6, 7] k (fun kq v6 v7 w' => ∃ (x6_1 : Int) (x7_1 : Int), v6 = .int .i64 x6_1 ∧ v7 = .int .i64 x7_1 ∧ Aside0 (laws_FnRollouts.l0 kq t483 t485 x6_1 x7_1 t477 t478 t481 t482 = some r) ∧ Aside0 (kq ≤ k) ∧ Aside0 (Kd.R (Kd.int .i64) 3 w' w.heap.size (fun _ => True) (.slice Ao9 t478.length co9) t478) ∧ Aside0 (w'.heap[gb484]? = some (.cells #[.int .i64 t477, (.slice Ao9 t478.length co9), .int .i64 t481, .bool t482] 27 (0, 0))) ∧ Aside0 (Below w.heap.size w w'))
  case atStart => exact ⟨(0), (0), el_, el_, H', ⟨Nat.le_refl _⟩, ⟨pr_ HO480.out⟩, ⟨pk_ BK484.out⟩, ⟨pb1_ HB.out GE484.out⟩⟩
  clear H'
  try clear c2
  try clear p2
  try clear c3
  try clear c9
  try clear hcz8_0
  try clear hcz8_1
  try clear hcz8_2
  try clear hcz8_3
  try clear hfz8_0
  try clear hfz8_1
  try clear hfz8_2
  try clear hfz8_3
  obtain ⟨x6_1, x7_1, rfl, rfl, HA, HK1, HO_485001, BK484, HB⟩ := hrel
  rcases gk with _ | k1
  · exact absurd HA.out (by simp [laws_FnRollouts.l0])
  have H := HA.out
  clear HA
  simp only [laws_FnRollouts.l0] at H
  have HC11 := Aside0.mk H
  clear H
  go_upto_region 7 with (fail)
  go_cut [30] (fun v30 wc => ∃ (kq : Nat) (x30_10 : Bool), v30 = .bool x30_10 ∧ Aside0 (laws_FnRollouts.j1 kq t483 t485 x6_1 x7_1 x30_10 t477 t478 t481 t482 = some r) ∧ Aside0 (kq ≤ k1) ∧ Aside0 (Kd.R (Kd.int .i64) 3 wc w.heap.size (fun _ => True) (.slice Ao9 t478.length co9) t478) ∧ Aside0 (wc.heap[gb484]? = some (.cells #[.int .i64 t477, (.slice Ao9 t478.length co9), .int .i64 t481, .bool t482] 27 (0, 0))) ∧ Aside0 (Below w.heap.size w wc))
  case first =>
    have H := HC11.out
    clear HC11
    by_cases c12 : x7_1 < t483
    rotate_left
    · rw [if_neg c12] at H
      have c12b0 : decide (x7_1 < t483) = false := decide_eq_false c12
      clear c12
      (first | rw [c12b0] | (simp only [i64_w, i32_w]; rw [c12b0]) | skip)
      have H' := Aside0.mk H
      clear H
      go_wp2
      go_meet
      case rel => exact ⟨_, (false), el_, H', ⟨by have := HK1.out; first | omega | exact Nat.le_refl _⟩, ⟨pr_ HO_485001.out⟩, ⟨pk_ BK484.out⟩, ⟨pb1_ HB.out GE484.out⟩⟩
    rw [if_pos c12] at H
    have c12b0 : decide (x7_1 < t483) = true := decide_eq_true c12
    clear c12
    (first | rw [c12b0] | (simp only [i64_w, i32_w]; rw [c12b0]) | skip)
    have H' := Aside0.mk H
    clear H
    go_wp2
    go_meet
    case rel => exact ⟨_, (decide (x7_1 < 10)), el_, H', ⟨by have := HK1.out; first | omega | exact Nat.le_refl _⟩, ⟨pr_ HO_485001.out⟩, ⟨pk_ BK484.out⟩, ⟨pb1_ HB.out GE484.out⟩⟩
  clear HC11
  try clear c1
  try clear c2
  try clear p2
  try clear c3
  try clear c9
  try clear c12
  try clear c12b0
  try clear hcz8_0
  try clear hcz8_1
  try clear hcz8_2
  try clear hcz8_3
  try clear hfz8_0
  try clear hfz8_1
  try clear hfz8_2
  try clear hfz8_3
  try clear p2
  obtain ⟨kq, x30_10, rfl, HA, HJ10, HO_485001, BK484, HB⟩ := hcut
  rcases kq with _ | kj10
  · exact absurd HA.out (by simp [laws_FnRollouts.j1])
  have H := HA.out
  clear HA
  simp only [laws_FnRollouts.j1] at H
  by_cases c13 : x30_10 = true
  rotate_left
  · replace c13 := Bool.eq_false_iff.mpr c13
    subst c13
    rw [if_neg (show ¬ (false = true) by decide)] at H
    have HC14 := Aside0.mk H
    clear H
    go_upto_region 11 with (fail)
    go_cut [58] (fun v58 wc => ∃ (kq : Nat) (x58_13 : Bool), v58 = .bool x58_13 ∧ Aside0 (laws_FnRollouts.j2 kq t483 t485 x58_13 t477 t478 t481 t482 = some r) ∧ Aside0 (kq ≤ kj10) ∧ Aside0 (Kd.R (Kd.int .i64) 3 wc w.heap.size (fun _ => True) (.slice Ao9 t478.length co9) t478) ∧ Aside0 (wc.heap[gb484]? = some (.cells #[.int .i64 t477, (.slice Ao9 t478.length co9), .int .i64 t481, .bool t482] 27 (0, 0))) ∧ Aside0 (Below w.heap.size w wc))
    case first =>
      have H := HC14.out
      clear HC14
      by_cases c15 : t485 > t483
      · rw [if_pos c15] at H
        have c15b0 : decide (t483 < t485) = true := decide_eq_true c15
        clear c15
        (first | rw [c15b0] | (simp only [i64_w, i32_w]; rw [c15b0]) | skip)
        by_cases c16 : t483 ≥ 0
        rotate_left
        · rw [if_neg c16] at H
          have c16b0 : decide (0 ≤ t483) = false := decide_eq_false c16
          clear c16
          have H' := Aside0.mk H
          clear H
          go_wp2
          go_meet
          case rel => exact ⟨_, (false), el_, H', ⟨by have := HK1.out; have := HJ10.out; first | omega | exact Nat.le_refl _⟩, ⟨pr_ HO_485001.out⟩, ⟨pk_ BK484.out⟩, ⟨pb1_ HB.out GE484.out⟩⟩
        rw [if_pos c16] at H
        have c16b0 : decide (0 ≤ t483) = true := decide_eq_true c16
        clear c16
        have H' := Aside0.mk H
        clear H
        go_wp2
        go_meet
        case rel => exact ⟨_, (true), el_, H', ⟨by have := HK1.out; have := HJ10.out; first | omega | exact Nat.le_refl _⟩, ⟨pr_ HO_485001.out⟩, ⟨pk_ BK484.out⟩, ⟨pb1_ HB.out GE484.out⟩⟩
      rw [if_neg c15] at H
      have c15b0 : decide (t483 < t485) = false := decide_eq_false c15
      clear c15
      (first | rw [c15b0] | (simp only [i64_w, i32_w]; rw [c15b0]) | skip)
      by_cases c17 : t483 ≥ 0
      rotate_left
      · rw [if_neg c17] at H
        have c17b0 : decide (0 ≤ t483) = false := decide_eq_false c17
        clear c17
        have H' := Aside0.mk H
        clear H
        go_wp2
        go_meet
        case rel => exact ⟨_, (false), el_, H', ⟨by have := HK1.out; have := HJ10.out; first | omega | exact Nat.le_refl _⟩, ⟨pr_ HO_485001.out⟩, ⟨pk_ BK484.out⟩, ⟨pb1_ HB.out GE484.out⟩⟩
      rw [if_pos c17] at H
      have c17b0 : decide (0 ≤ t483) = true := decide_eq_true c17
      clear c17
      by_cases c18 : t483 ≤ 10
      rotate_left
      · rw [if_neg c18] at H
        have c18b0 : decide (t483 ≤ 10) = false := decide_eq_false c18
        clear c18
        have H' := Aside0.mk H
        clear H
        go_wp2
        go_meet
        case rel => exact ⟨_, (false), el_, H', ⟨by have := HK1.out; have := HJ10.out; first | omega | exact Nat.le_refl _⟩, ⟨pr_ HO_485001.out⟩, ⟨pk_ BK484.out⟩, ⟨pb1_ HB.out GE484.out⟩⟩
      rw [if_pos c18] at H
      have c18b0 : decide (t483 ≤ 10) = true := decide_eq_true c18
      clear c18
      have H' := Aside0.mk H
      clear H
      go_wp2
      go_meet
      case rel => exact ⟨_, ((x6_1 != t485)), el_, H', ⟨by have := HK1.out; have := HJ10.out; first | omega | exact Nat.le_refl _⟩, ⟨pr_ HO_485001.out⟩, ⟨pk_ BK484.out⟩, ⟨pb1_ HB.out GE484.out⟩⟩
    clear HC14
    try clear c1
    try clear c2
    try clear p2
    try clear c3
    try clear c9
    try clear c12
    try clear c12b0
    try clear c13
    try clear c15
    try clear c15b0
    try clear c16
    try clear c16b0
    try clear c17
    try clear c17b0
    try clear c18
    try clear c18b0
    try clear hcz8_0
    try clear hcz8_1
    try clear hcz8_2
    try clear hcz8_3
    try clear hfz8_0
    try clear hfz8_1
    try clear hfz8_2
    try clear hfz8_3
    try clear p2
    obtain ⟨kq, x58_13, rfl, HA, HJ13, HO_485001, BK484, HB⟩ := hcut
    rcases kq with _ | kj13
    · exact absurd HA.out (by simp [laws_FnRollouts.j2])
    have H := HA.out
    clear HA
    simp only [laws_FnRollouts.j2] at H
    by_cases c19 : x58_13 = true
    · subst c19
      rw [if_pos rfl] at H
      obtain rfl := Option.some.inj H
      go_wp2
      go_ret
      exact ⟨er_, pb1_ HB.out GE484.out⟩
    replace c19 := Bool.eq_false_iff.mpr c19
    subst c19
    rw [if_neg (show ¬ (false = true) by decide)] at H
    replace H := Option.bind_eq_some_iff.mp H
    obtain ⟨⟨t487, t488, t491, t492, t493⟩, A200, H⟩ := H
    (try dsimp only at H)
    have A20 := Aside0.mk A200
    clear A200
    have HC21 := Aside0.mk H
    clear H
    obtain ⟨hcz22_0, hcz22_1, hcz22_2, hcz22_3, hfz22_0, hfz22_1, hfz22_2, hfz22_3⟩ := bc4_ BK484.out
    go_upto_region 14 with (first | ((with_reducible refine gate_callee (f := 27) rfl ?_); refine goesL_ (some 61) rfl rfl Try.func27 (by kernel_rfl) rfl #[.agg #[.int .i64 t477, .slice Ao9 t478.length co9, .int .i64 t481, .bool t482]] rfl mp_ ?_; (with_reducible refine (impl_NextStage.calls kj13 t477 _ _ t478 t481 t482 t487 t488 t491 t492 t493 _ ?side1 ?side2 A20.out).mono ?_); (case side1 => exact pc_ ((Kd.R_reads' HO_485001.out).2.2)); (case side2 => exact (Kd.R_reads' HO_485001.out).2.1); rintro e w23 ⟨v489, rfl, ho0, hb⟩; refine ⟨_, rfl, ?_⟩; have n0_ := Aside0.mk (Kd.R_elder' (pr_ HO_485001.out) (Kd.R_base ho0) hb); have n1_ := Aside0.mk (Kd.R_lower (Kd.R_new' ho0 (Kd.R_lt (pr_ HO_485001.out))) (below_size (pb1_ HB.out GE484.out))); have n2_ := Aside0.mk (bb_ BK484.out hb); have n3_ := Aside0.mk (below_step (pb1_ HB.out GE484.out) hb); clear HO_485001; clear BK484; clear HB; have HO_485001 := n0_; have HO490 := n1_; have BK484 := n2_; have HB := n3_; clear n0_ n1_ n2_ n3_; (try clear hb); (try clear hb2); (try clear hk); (try clear hi); (try clear ho0)) | ((with_reducible refine gate_dst (N := 8) rfl ?_); refine box_event ?hg (N := 8) ?hd (cs := #[.int .i64 0, .slice none 0 0, .int .i64 0, .bool false]) (t := 27) ?hr ?_; (case hd => rfl); (case hg => rfl); (case hr => first | (go_simp; done) | (go_simp; rfl)); intro gb494 hg w24 hbox hb; have n0_ := Aside0.mk (Kd.R_below (pr_ HO_485001.out) hb); have n1_ := Aside0.mk (Kd.R_below (pr_ HO490.out) hb); have n2_ := Aside0.mk (bb_ BK484.out hb); have n3_ := Aside0.mk (below_step (pb1_ HB.out GE484.out) hb); have n4_ := Aside0.mk (hbox); have n5_ := Aside0.mk ((by rw [hg]; exact (below_size (pb1_ HB.out GE484.out)) : w.heap.size ≤ gb494)); have n6_ := Aside0.mk ((by rw [hg]; exact (below_size (pb1_ HB.out GE484.out)) : w.heap.size ≤ gb494)); have n7_ := Aside0.mk ((by rw [hg]; exact Nat.ne_of_lt (blk_lt (pk_ BK484.out)) : gb484 ≠ gb494)); have n8_ := Aside0.mk ((by rw [hg]; exact Nat.ne_of_gt (blk_lt (pk_ BK484.out)) : gb494 ≠ gb484)); clear HO_485001; clear HO490; clear BK484; clear HB; have HO_485001 := n0_; have HO490 := n1_; have BK484 := n2_; have HB := n3_; have BK494 := n4_; have GW494 := n5_; have GE494 := n6_; have NB484_494 := n7_; have NB494_484 := n8_; clear n0_ n1_ n2_ n3_ n4_ n5_ n6_ n7_ n8_; clear hb hbox hg; have hnb25 := NB494_484.out; have hnc25 := NB484_494.out; have hcz26_0 : w24.cell? ⟨gb494, 0, none⟩ = some (.int .i64 0) := (blk_cell BK494.out 0).trans rfl; have hcz26_1 : w24.cell? ⟨gb494, 1, none⟩ = some (.slice none 0 0) := (blk_cell BK494.out 1).trans rfl; have hcz26_2 : w24.cell? ⟨gb494, 2, none⟩ = some (.int .i64 0) := (blk_cell BK494.out 2).trans rfl; have hcz26_3 : w24.cell? ⟨gb494, 3, none⟩ = some (.bool false) := (blk_cell BK494.out 3).trans rfl; have hfz26_0 := blk_frozen BK494.out 0; have hfz26_1 := blk_frozen BK494.out 1; have hfz26_2 := blk_frozen BK494.out 2; have hfz26_3 := blk_frozen BK494.out 3; obtain ⟨Ao27, co27, eo27⟩ := Kd.R_slice HO490.out; subst eo27))
    (try simp only [Act.put, List.setIfInBounds_toArray, List.set_cons_zero, List.set_cons_succ])
    go_cut [86] (fun v86 wc => ∃ (kq : Nat) (x86_20 : Bool), v86 = .bool x86_20 ∧ Aside0 (laws_FnRollouts.j3 kq t483 t485 t493 x86_20 t477 t478 t481 t482 = some r) ∧ Aside0 (kq ≤ kj13) ∧ Aside0 (Kd.R (Kd.int .i64) 3 wc w.heap.size (fun k_ => some k_ ≠ ((.slice Ao27 t488.length co27) : Value).ownBlock) (.slice Ao9 t478.length co9) t478) ∧ Aside0 (Kd.R (Kd.int .i64) 3 wc w.heap.size (fun k_ => some k_ ≠ ((.slice Ao9 t478.length co9) : Value).ownBlock) (.slice Ao27 t488.length co27) t488) ∧ Aside0 (wc.heap[gb484]? = some (.cells #[.int .i64 t477, (.slice Ao9 t478.length co9), .int .i64 t481, .bool t482] 27 (0, 0))) ∧ Aside0 (wc.heap[gb494]? = some (.cells #[.int .i64 t487, (.slice Ao27 t488.length co27), .int .i64 t491, .bool t492] 27 (0, 0))) ∧ Aside0 (Below w.heap.size w wc))
    case first =>
      have H := HC21.out
      clear HC21
      by_cases c28 : t493 = true
      rotate_left
      · replace c28 := Bool.eq_false_iff.mpr c28
        subst c28
        rw [if_neg (show ¬ (false = true) by decide)] at H
        replace H := Option.bind_eq_some_iff.mp H
        obtain ⟨t497, A290, H⟩ := H
        (try dsimp only at H)
        have A29 := Aside0.mk A290
        clear A290
        have H' := Aside0.mk H
        clear H
        have hnb30 := NB494_484.out
        have hnc30 := NB484_494.out
        obtain ⟨hcz31_0, hcz31_1, hcz31_2, hcz31_3, hfz31_0, hfz31_1, hfz31_2, hfz31_3⟩ := bc4_ BK494.out
        obtain ⟨hcz32_0, hcz32_1, hcz32_2, hcz32_3, hfz32_0, hfz32_1, hfz32_2, hfz32_3⟩ := bc4_ BK484.out
        go_wp2_with (first | (go_at_call 21; (with_reducible refine (impl_EqualRollouts.calls kj13 t487 _ _ t488 t491 t492 t477 _ _ t478 t481 t482 t497 _ ?side1 ?side2 ?side3 ?side4 A29.out).mono ?_); (case side1 => refine (Kd.R_reads' (e := 3) (base := w.heap.size) (ok := fun k_ => (True ∧ some k_ ≠ (.slice Ao9 t478.length co9 : Value).ownBlock)) (n := t488.length) (c := co27) ?_).2.2; exact (pr_ (rf4_ HO490.out BK494.out))); (case side2 => exact (Kd.R_reads' HO490.out).2.1); (case side3 => refine (Kd.R_reads' (e := 3) (base := w.heap.size) (ok := fun k_ => (True ∧ some k_ ≠ (.slice Ao27 t488.length co27 : Value).ownBlock)) (n := t478.length) (c := co9) ?_).2.2; exact (pr_ (rf4_ HO_485001.out BK494.out))); (case side4 => exact (Kd.R_reads' HO_485001.out).2.1); rintro e w33 ⟨rfl, hb⟩; have n0_ := Aside0.mk (Kd.R_below (pr_ (rf4_ HO_485001.out BK494.out)) hb); have n1_ := Aside0.mk (Kd.R_below (pr_ (rf4_ HO490.out BK494.out)) hb); have n2_ := Aside0.mk (blk_below (g := gb484) (o := .cells #[.int .i64 t477, .slice Ao9 t478.length co9, .int .i64 t481, .bool t482] 27 (0, 0)) (pp_ BK484.out) hb); have n3_ := Aside0.mk (blk_below (g := gb494) (o := .cells #[.int .i64 t487, .slice Ao27 t488.length co27, .int .i64 t491, .bool t492] 27 (0, 0)) (pp_ BK494.out) hb); have n4_ := Aside0.mk (below_step (pb2_ HB.out GE484.out GE494.out) hb); clear HO_485001; clear HO490; clear BK484; clear BK494; clear HB; have HO_485001 := n0_; have HO490 := n1_; have BK484 := n2_; have BK494 := n3_; have HB := n4_; clear n0_ n1_ n2_ n3_ n4_; (try clear hb); (try clear hb2); (try clear hk); (try clear hi)))
        go_meet
        case rel => exact ⟨_, (!t497), el_, H', ⟨by have := HK1.out; have := HJ10.out; have := HJ13.out; first | omega | exact Nat.le_refl _⟩, ⟨pr_ (Kd.R_mono HO_485001.out (fun _ hk => hk.2))⟩, ⟨pr_ (Kd.R_mono HO490.out (fun _ hk => hk.2))⟩, ⟨pk_ BK484.out⟩, ⟨pk_ BK494.out⟩, ⟨pb2_ HB.out GE484.out GE494.out⟩⟩
      subst c28
      rw [if_pos rfl] at H
      replace H := Option.bind_eq_some_iff.mp H
      obtain ⟨t495, A340, H⟩ := H
      (try dsimp only at H)
      have A34 := Aside0.mk A340
      clear A340
      by_cases c35 : t495 = true
      rotate_left
      · replace c35 := Bool.eq_false_iff.mpr c35
        subst c35
        rw [if_neg (show ¬ (false = true) by decide)] at H
        have H' := Aside0.mk H
        clear H
        have hnb36 := NB494_484.out
        have hnc36 := NB484_494.out
        obtain ⟨hcz37_0, hcz37_1, hcz37_2, hcz37_3, hfz37_0, hfz37_1, hfz37_2, hfz37_3⟩ := bc4_ BK494.out
        go_wp2_with (first | (go_at_call 18; (with_reducible refine (impl_IsRollout.calls kj13 t487 _ _ t488 t491 t492 false _ ?side1 ?side2 A34.out).mono ?_); (case side1 => refine (Kd.R_reads' (e := 3) (base := w.heap.size) (ok := fun k_ => (True ∧ some k_ ≠ (.slice Ao9 t478.length co9 : Value).ownBlock)) (n := t488.length) (c := co27) ?_).2.2; exact (pr_ (rf4_ HO490.out BK494.out))); (case side2 => exact (Kd.R_reads' HO490.out).2.1); rintro e w38 ⟨rfl, hb⟩; have n0_ := Aside0.mk (Kd.R_below (pr_ (rf4_ HO_485001.out BK494.out)) hb); have n1_ := Aside0.mk (Kd.R_below (pr_ (rf4_ HO490.out BK494.out)) hb); have n2_ := Aside0.mk (blk_below (g := gb484) (o := .cells #[.int .i64 t477, .slice Ao9 t478.length co9, .int .i64 t481, .bool t482] 27 (0, 0)) (pp_ BK484.out) hb); have n3_ := Aside0.mk (blk_below (g := gb494) (o := .cells #[.int .i64 t487, .slice Ao27 t488.length co27, .int .i64 t491, .bool t492] 27 (0, 0)) (pp_ BK494.out) hb); have n4_ := Aside0.mk (below_step (pb2_ HB.out GE484.out GE494.out) hb); clear HO_485001; clear HO490; clear BK484; clear BK494; clear HB; have HO_485001 := n0_; have HO490 := n1_; have BK484 := n2_; have BK494 := n3_; have HB := n4_; clear n0_ n1_ n2_ n3_ n4_; (try clear hb); (try clear hb2); (try clear hk); (try clear hi)))
        go_meet
        case rel => exact ⟨_, (true), el_, H', ⟨by have := HK1.out; have := HJ10.out; have := HJ13.out; first | omega | exact Nat.le_refl _⟩, ⟨pr_ (Kd.R_mono HO_485001.out (fun _ hk => hk.2))⟩, ⟨pr_ (Kd.R_mono HO490.out (fun _ hk => hk.2))⟩, ⟨pk_ BK484.out⟩, ⟨pk_ BK494.out⟩, ⟨pb2_ HB.out GE484.out GE494.out⟩⟩
      subst c35
      rw [if_pos rfl] at H
      replace H := Option.bind_eq_some_iff.mp H
      obtain ⟨t496, A390, H⟩ := H
      (try dsimp only at H)
      have A39 := Aside0.mk A390
      clear A390
      by_cases c40 : t496 < t485
      rotate_left
      · rw [if_neg c40] at H
        have c40b0 : decide (t496 < t485) = false := decide_eq_false c40
        clear c40
        (first | rw [c40b0] | (simp only [i64_w, i32_w]; rw [c40b0]) | skip)
        have H' := Aside0.mk H
        clear H
        have hnb41 := NB494_484.out
        have hnc41 := NB484_494.out
        obtain ⟨hcz42_0, hcz42_1, hcz42_2, hcz42_3, hfz42_0, hfz42_1, hfz42_2, hfz42_3⟩ := bc4_ BK494.out
        go_wp2_with (first | (go_at_call 18; (with_reducible refine (impl_IsRollout.calls kj13 t487 _ _ t488 t491 t492 true _ ?side1 ?side2 A34.out).mono ?_); (case side1 => refine (Kd.R_reads' (e := 3) (base := w.heap.size) (ok := fun k_ => (True ∧ some k_ ≠ (.slice Ao9 t478.length co9 : Value).ownBlock)) (n := t488.length) (c := co27) ?_).2.2; exact (pr_ (rf4_ HO490.out BK494.out))); (case side2 => exact (Kd.R_reads' HO490.out).2.1); rintro e w43 ⟨rfl, hb⟩; have n0_ := Aside0.mk (Kd.R_below (pr_ (rf4_ HO_485001.out BK494.out)) hb); have n1_ := Aside0.mk (Kd.R_below (pr_ (rf4_ HO490.out BK494.out)) hb); have n2_ := Aside0.mk (blk_below (g := gb484) (o := .cells #[.int .i64 t477, .slice Ao9 t478.length co9, .int .i64 t481, .bool t482] 27 (0, 0)) (pp_ BK484.out) hb); have n3_ := Aside0.mk (blk_below (g := gb494) (o := .cells #[.int .i64 t487, .slice Ao27 t488.length co27, .int .i64 t491, .bool t492] 27 (0, 0)) (pp_ BK494.out) hb); have n4_ := Aside0.mk (below_step (pb2_ HB.out GE484.out GE494.out) hb); clear HO_485001; clear HO490; clear BK484; clear BK494; clear HB; have HO_485001 := n0_; have HO490 := n1_; have BK484 := n2_; have BK494 := n3_; have HB := n4_; clear n0_ n1_ n2_ n3_ n4_; (try clear hb); (try clear hb2); (try clear hk); (try clear hi); have hcz44_0 : w43.cell? ⟨gb494, 0, none⟩ = some (.int .i64 t487) := (blk_cell BK494.out 0).trans rfl; have hcz44_1 : w43.cell? ⟨gb494, 1, none⟩ = some (.slice Ao27 t488.length co27) := (blk_cell BK494.out 1).trans rfl; have hcz44_2 : w43.cell? ⟨gb494, 2, none⟩ = some (.int .i64 t491) := (blk_cell BK494.out 2).trans rfl; have hcz44_3 : w43.cell? ⟨gb494, 3, none⟩ = some (.bool t492) := (blk_cell BK494.out 3).trans rfl; have hfz44_0 := blk_frozen BK494.out 0; have hfz44_1 := blk_frozen BK494.out 1; have hfz44_2 := blk_frozen BK494.out 2; have hfz44_3 := blk_frozen BK494.out 3) | (go_at_call 23; (with_reducible refine (impl_CountIn.calls kj13 t487 _ _ t488 t491 t492 t483 t496 _ ?side1 ?side2 A39.out).mono ?_); (case side1 => exact pc_ ((Kd.R_reads' HO490.out).2.2)); (case side2 => exact (Kd.R_reads' HO490.out).2.1); rintro e w45 ⟨rfl, hb⟩; have n0_ := Aside0.mk (Kd.R_below (pr_ HO_485001.out) hb); have n1_ := Aside0.mk (Kd.R_below (pr_ HO490.out) hb); have n2_ := Aside0.mk (bb_ BK484.out hb); have n3_ := Aside0.mk (bb_ BK494.out hb); have n4_ := Aside0.mk (below_step (pb2_ HB.out GE484.out GE494.out) hb); clear HO_485001; clear HO490; clear BK484; clear BK494; clear HB; have HO_485001 := n0_; have HO490 := n1_; have BK484 := n2_; have BK494 := n3_; have HB := n4_; clear n0_ n1_ n2_ n3_ n4_; (try clear hb); (try clear hb2); (try clear hk); (try clear hi)))
        go_meet
        case rel => exact ⟨_, (false), el_, H', ⟨by have := HK1.out; have := HJ10.out; have := HJ13.out; first | omega | exact Nat.le_refl _⟩, ⟨pr_ (Kd.R_mono HO_485001.out (fun _ hk => hk.2))⟩, ⟨pr_ (Kd.R_mono HO490.out (fun _ hk => hk.2))⟩, ⟨pk_ BK484.out⟩, ⟨pk_ BK494.out⟩, ⟨pb2_ HB.out GE484.out GE494.out⟩⟩
      rw [if_pos c40] at H
      have c40b0 : decide (t496 < t485) = true := decide_eq_true c40
      clear c40
      (first | rw [c40b0] | (simp only [i64_w, i32_w]; rw [c40b0]) | skip)
      have H' := Aside0.mk H
      clear H
      have hnb46 := NB494_484.out
      have hnc46 := NB484_494.out
      obtain ⟨hcz47_0, hcz47_1, hcz47_2, hcz47_3, hfz47_0, hfz47_1, hfz47_2, hfz47_3⟩ := bc4_ BK494.out
      go_wp2_with (first | (go_at_call 18; (with_reducible refine (impl_IsRollout.calls kj13 t487 _ _ t488 t491 t492 true _ ?side1 ?side2 A34.out).mono ?_); (case side1 => refine (Kd.R_reads' (e := 3) (base := w.heap.size) (ok := fun k_ => (True ∧ some k_ ≠ (.slice Ao9 t478.length co9 : Value).ownBlock)) (n := t488.length) (c := co27) ?_).2.2; exact (pr_ (rf4_ HO490.out BK494.out))); (case side2 => exact (Kd.R_reads' HO490.out).2.1); rintro e w48 ⟨rfl, hb⟩; have n0_ := Aside0.mk (Kd.R_below (pr_ (rf4_ HO_485001.out BK494.out)) hb); have n1_ := Aside0.mk (Kd.R_below (pr_ (rf4_ HO490.out BK494.out)) hb); have n2_ := Aside0.mk (blk_below (g := gb484) (o := .cells #[.int .i64 t477, .slice Ao9 t478.length co9, .int .i64 t481, .bool t482] 27 (0, 0)) (pp_ BK484.out) hb); have n3_ := Aside0.mk (blk_below (g := gb494) (o := .cells #[.int .i64 t487, .slice Ao27 t488.length co27, .int .i64 t491, .bool t492] 27 (0, 0)) (pp_ BK494.out) hb); have n4_ := Aside0.mk (below_step (pb2_ HB.out GE484.out GE494.out) hb); clear HO_485001; clear HO490; clear BK484; clear BK494; clear HB; have HO_485001 := n0_; have HO490 := n1_; have BK484 := n2_; have BK494 := n3_; have HB := n4_; clear n0_ n1_ n2_ n3_ n4_; (try clear hb); (try clear hb2); (try clear hk); (try clear hi); have hcz49_0 : w48.cell? ⟨gb494, 0, none⟩ = some (.int .i64 t487) := (blk_cell BK494.out 0).trans rfl; have hcz49_1 : w48.cell? ⟨gb494, 1, none⟩ = some (.slice Ao27 t488.length co27) := (blk_cell BK494.out 1).trans rfl; have hcz49_2 : w48.cell? ⟨gb494, 2, none⟩ = some (.int .i64 t491) := (blk_cell BK494.out 2).trans rfl; have hcz49_3 : w48.cell? ⟨gb494, 3, none⟩ = some (.bool t492) := (blk_cell BK494.out 3).trans rfl; have hfz49_0 := blk_frozen BK494.out 0; have hfz49_1 := blk_frozen BK494.out 1; have hfz49_2 := blk_frozen BK494.out 2; have hfz49_3 := blk_frozen BK494.out 3) | (go_at_call 23; (with_reducible refine (impl_CountIn.calls kj13 t487 _ _ t488 t491 t492 t483 t496 _ ?side1 ?side2 A39.out).mono ?_); (case side1 => exact pc_ ((Kd.R_reads' HO490.out).2.2)); (case side2 => exact (Kd.R_reads' HO490.out).2.1); rintro e w50 ⟨rfl, hb⟩; have n0_ := Aside0.mk (Kd.R_below (pr_ HO_485001.out) hb); have n1_ := Aside0.mk (Kd.R_below (pr_ HO490.out) hb); have n2_ := Aside0.mk (bb_ BK484.out hb); have n3_ := Aside0.mk (bb_ BK494.out hb); have n4_ := Aside0.mk (below_step (pb2_ HB.out GE484.out GE494.out) hb); clear HO_485001; clear HO490; clear BK484; clear BK494; clear HB; have HO_485001 := n0_; have HO490 := n1_; have BK484 := n2_; have BK494 := n3_; have HB := n4_; clear n0_ n1_ n2_ n3_ n4_; (try clear hb); (try clear hb2); (try clear hk); (try clear hi)))
      go_meet
      case rel => exact ⟨_, (true), el_, H', ⟨by have := HK1.out; have := HJ10.out; have := HJ13.out; first | omega | exact Nat.le_refl _⟩, ⟨pr_ (Kd.R_mono HO_485001.out (fun _ hk => hk.2))⟩, ⟨pr_ (Kd.R_mono HO490.out (fun _ hk => hk.2))⟩, ⟨pk_ BK484.out⟩, ⟨pk_ BK494.out⟩, ⟨pb2_ HB.out GE484.out GE494.out⟩⟩
    clear HC21
    try clear c1
    try clear c2
    try clear p2
    try clear c3
    try clear c4
    try clear c9
    try clear c12
    try clear c12b0
    try clear c13
    try clear c15
    try clear c15b0
    try clear c16
    try clear c16b0
    try clear c17
    try clear c17b0
    try clear c18
    try clear c18b0
    try clear c19
    try clear c23
    try clear c25
    try clear c27
    try clear c28
    try clear c30
    try clear c32
    try clear c33
    try clear c35
    try clear c36
    try clear c40
    try clear c40b0
    try clear c41
    try clear c46
    try clear hcz22_0
    try clear hcz22_1
    try clear hcz22_2
    try clear hcz22_3
    try clear hcz26_0
    try clear hcz26_1
    try clear hcz26_2
    try clear hcz26_3
    try clear hcz31_0
    try clear hcz31_1
    try clear hcz31_2
    try clear hcz31_3
    try clear hcz32_0
    try clear hcz32_1
    try clear hcz32_2
    try clear hcz32_3
    try clear hcz37_0
    try clear hcz37_1
    try clear hcz37_2
    try clear hcz37_3
    try clear hcz42_0
    try clear hcz42_1
    try clear hcz42_2
    try clear hcz42_3
    try clear hcz44_0
    try clear hcz44_1
    try clear hcz44_2
    try clear hcz44_3
    try clear hcz47_0
    try clear hcz47_1
    try clear hcz47_2
    try clear hcz47_3
    try clear hcz49_0
    try clear hcz49_1
    try clear hcz49_2
    try clear hcz49_3
    try clear hcz8_0
    try clear hcz8_1
    try clear hcz8_2
    try clear hcz8_3
    try clear hfz22_0
    try clear hfz22_1
    try clear hfz22_2
    try clear hfz22_3
    try clear hfz26_0
    try clear hfz26_1
    try clear hfz26_2
    try clear hfz26_3
    try clear hfz31_0
    try clear hfz31_1
    try clear hfz31_2
    try clear hfz31_3
    try clear hfz32_0
    try clear hfz32_1
    try clear hfz32_2
    try clear hfz32_3
    try clear hfz37_0
    try clear hfz37_1
    try clear hfz37_2
    try clear hfz37_3
    try clear hfz42_0
    try clear hfz42_1
    try clear hfz42_2
    try clear hfz42_3
    try clear hfz44_0
    try clear hfz44_1
    try clear hfz44_2
    try clear hfz44_3
    try clear hfz47_0
    try clear hfz47_1
    try clear hfz47_2
    try clear hfz47_3
    try clear hfz49_0
    try clear hfz49_1
    try clear hfz49_2
    try clear hfz49_3
    try clear hfz8_0
    try clear hfz8_1
    try clear hfz8_2
    try clear hfz8_3
    try clear p2
    obtain ⟨kq, x86_20, rfl, HA, HJ20, HO_485001, HO_495001, BK484, BK494, HB⟩ := hcut
    rcases kq with _ | kj20
    · exact absurd HA.out (by simp [laws_FnRollouts.j3])
    have H := HA.out
    clear HA
    simp only [laws_FnRollouts.j3] at H
    by_cases c51 : x86_20 = true
    · subst c51
      rw [if_pos rfl] at H
      obtain rfl := Option.some.inj H
      go_wp2
      go_ret
      exact ⟨er_, pb2_ HB.out GE484.out GE494.out⟩
    replace c51 := Bool.eq_false_iff.mpr c51
    subst c51
    rw [if_neg (show ¬ (false = true) by decide)] at H
    replace H := Option.bind_eq_some_iff.mp H
    obtain ⟨⟨t498, t499, t502, t503, t504⟩, A520, H⟩ := H
    (try dsimp only at H)
    have A52 := Aside0.mk A520
    clear A520
    have HC53 := Aside0.mk H
    clear H
    have hnb54 := NB484_494.out
    have hnc54 := NB494_484.out
    obtain ⟨hcz55_0, hcz55_1, hcz55_2, hcz55_3, hfz55_0, hfz55_1, hfz55_2, hfz55_3⟩ := bc4_ BK484.out
    go_upto_region 17 with (first | ((with_reducible refine gate_callee (f := 31) rfl ?_); refine goesL_ (some 89) rfl rfl Try.func31 (by kernel_rfl) rfl #[.agg #[.int .i64 t477, .slice Ao9 t478.length co9, .int .i64 t481, .bool t482]] rfl mp_ ?_; (with_reducible refine (impl_BackStage.calls kj20 t477 _ _ t478 t481 t482 t498 t499 t502 t503 t504 _ ?side1 ?side2 A52.out).mono ?_); (case side1 => exact pc_ ((Kd.R_reads' HO_485001.out).2.2)); (case side2 => exact (Kd.R_reads' HO_485001.out).2.1); rintro e w56 ⟨v500, rfl, ho0, hb⟩; refine ⟨_, rfl, ?_⟩; have n0_ := Aside0.mk (Kd.R_elder' (pr_ HO_485001.out) (Kd.R_base ho0) hb); have n1_ := Aside0.mk (Kd.R_elder' (pr_ HO_495001.out) (Kd.R_base ho0) hb); have n2_ := Aside0.mk (Kd.R_lower (Kd.R_new' (Kd.R_new' ho0 (Kd.R_lt (pr_ HO_485001.out))) (Kd.R_lt (pr_ HO_495001.out))) (below_size (pb2_ HB.out GE484.out GE494.out))); have n3_ := Aside0.mk (bb_ BK484.out hb); have n4_ := Aside0.mk (bb_ BK494.out hb); have n5_ := Aside0.mk (below_step (pb2_ HB.out GE484.out GE494.out) hb); clear HO_485001; clear HO_495001; clear BK484; clear BK494; clear HB; have HO_485001 := n0_; have HO_495001 := n1_; have HO501 := n2_; have BK484 := n3_; have BK494 := n4_; have HB := n5_; clear n0_ n1_ n2_ n3_ n4_ n5_; (try clear hb); (try clear hb2); (try clear hk); (try clear hi); (try clear ho0)) | ((with_reducible refine gate_dst (N := 10) rfl ?_); refine box_event ?hg (N := 10) ?hd (cs := #[.int .i64 0, .slice none 0 0, .int .i64 0, .bool false]) (t := 27) ?hr ?_; (case hd => rfl); (case hg => rfl); (case hr => first | (go_simp; done) | (go_simp; rfl)); intro gb505 hg w57 hbox hb; have n0_ := Aside0.mk (Kd.R_below (pr_ HO_485001.out) hb); have n1_ := Aside0.mk (Kd.R_below (pr_ HO_495001.out) hb); have n2_ := Aside0.mk (Kd.R_below (pr_ HO501.out) hb); have n3_ := Aside0.mk (bb_ BK484.out hb); have n4_ := Aside0.mk (bb_ BK494.out hb); have n5_ := Aside0.mk (below_step (pb2_ HB.out GE484.out GE494.out) hb); have n6_ := Aside0.mk (hbox); have n7_ := Aside0.mk ((by rw [hg]; exact (below_size (pb2_ HB.out GE484.out GE494.out)) : w.heap.size ≤ gb505)); have n8_ := Aside0.mk ((by rw [hg]; exact (below_size (pb2_ HB.out GE484.out GE494.out)) : w.heap.size ≤ gb505)); have n9_ := Aside0.mk ((by rw [hg]; exact Nat.ne_of_lt (blk_lt (pk_ BK484.out)) : gb484 ≠ gb505)); have n10_ := Aside0.mk ((by rw [hg]; exact Nat.ne_of_gt (blk_lt (pk_ BK484.out)) : gb505 ≠ gb484)); have n11_ := Aside0.mk ((by rw [hg]; exact Nat.ne_of_lt (blk_lt (pk_ BK494.out)) : gb494 ≠ gb505)); have n12_ := Aside0.mk ((by rw [hg]; exact Nat.ne_of_gt (blk_lt (pk_ BK494.out)) : gb505 ≠ gb494)); clear HO_485001; clear HO_495001; clear HO501; clear BK484; clear BK494; clear HB; have HO_485001 := n0_; have HO_495001 := n1_; have HO501 := n2_; have BK484 := n3_; have BK494 := n4_; have HB := n5_; have BK505 := n6_; have GW505 := n7_; have GE505 := n8_; have NB484_505 := n9_; have NB505_484 := n10_; have NB494_505 := n11_; have NB505_494 := n12_; clear n0_ n1_ n2_ n3_ n4_ n5_ n6_ n7_ n8_ n9_ n10_ n11_ n12_; clear hb hbox hg; have hnb58 := NB505_484.out; have hnc58 := NB484_505.out; have hnb59 := NB505_494.out; have hnc59 := NB494_505.out; have hcz60_0 : w57.cell? ⟨gb505, 0, none⟩ = some (.int .i64 0) := (blk_cell BK505.out 0).trans rfl; have hcz60_1 : w57.cell? ⟨gb505, 1, none⟩ = some (.slice none 0 0) := (blk_cell BK505.out 1).trans rfl; have hcz60_2 : w57.cell? ⟨gb505, 2, none⟩ = some (.int .i64 0) := (blk_cell BK505.out 2).trans rfl; have hcz60_3 : w57.cell? ⟨gb505, 3, none⟩ = some (.bool false) := (blk_cell BK505.out 3).trans rfl; have hfz60_0 := blk_frozen BK505.out 0; have hfz60_1 := blk_frozen BK505.out 1; have hfz60_2 := blk_frozen BK505.out 2; have hfz60_3 := blk_frozen BK505.out 3; obtain ⟨Ao61, co61, eo61⟩ := Kd.R_slice HO501.out; subst eo61))
    (try simp only [Act.put, List.setIfInBounds_toArray, List.set_cons_zero, List.set_cons_succ])
    go_cut [113] (fun v113 wc => ∃ (kq : Nat) (x113_52 : Bool), v113 = .bool x113_52 ∧ Aside0 (laws_FnRollouts.j4 kq t483 t485 t493 t504 x113_52 t477 t478 t481 t482 t498 t499 t502 t503 = some r) ∧ Aside0 (kq ≤ kj20) ∧ Aside0 (Kd.R (Kd.int .i64) 3 wc w.heap.size (fun k_ => some k_ ≠ ((.slice Ao27 t488.length co27) : Value).ownBlock ∧ some k_ ≠ ((.slice Ao61 t499.length co61) : Value).ownBlock) (.slice Ao9 t478.length co9) t478) ∧ Aside0 (Kd.R (Kd.int .i64) 3 wc w.heap.size (fun k_ => some k_ ≠ ((.slice Ao9 t478.length co9) : Value).ownBlock ∧ some k_ ≠ ((.slice Ao61 t499.length co61) : Value).ownBlock) (.slice Ao27 t488.length co27) t488) ∧ Aside0 (Kd.R (Kd.int .i64) 3 wc w.heap.size (fun k_ => some k_ ≠ ((.slice Ao9 t478.length co9) : Value).ownBlock ∧ some k_ ≠ ((.slice Ao27 t488.length co27) : Value).ownBlock) (.slice Ao61 t499.length co61) t499) ∧ Aside0 (wc.heap[gb484]? = some (.cells #[.int .i64 t477, (.slice Ao9 t478.length co9), .int .i64 t481, .bool t482] 27 (0, 0))) ∧ Aside0 (wc.heap[gb494]? = some (.cells #[.int .i64 t487, (.slice Ao27 t488.length co27), .int .i64 t491, .bool t492] 27 (0, 0))) ∧ Aside0 (wc.heap[gb505]? = some (.cells #[.int .i64 t498, (.slice Ao61 t499.length co61), .int .i64 t502, .bool t503] 27 (0, 0))) ∧ Aside0 (Below w.heap.size w wc))
    case first =>
      have H := HC53.out
      clear HC53
      by_cases c62 : t504 = true
      rotate_left
      · replace c62 := Bool.eq_false_iff.mpr c62
        subst c62
        rw [if_neg (show ¬ (false = true) by decide)] at H
        replace H := Option.bind_eq_some_iff.mp H
        obtain ⟨t508, A630, H⟩ := H
        (try dsimp only at H)
        have A63 := Aside0.mk A630
        clear A630
        have H' := Aside0.mk H
        clear H
        have hnb64 := NB505_484.out
        have hnc64 := NB484_505.out
        have hnb65 := NB505_494.out
        have hnc65 := NB494_505.out
        obtain ⟨hcz66_0, hcz66_1, hcz66_2, hcz66_3, hfz66_0, hfz66_1, hfz66_2, hfz66_3⟩ := bc4_ BK505.out
        have hnb67 := NB484_494.out
        have hnc67 := NB494_484.out
        obtain ⟨hcz68_0, hcz68_1, hcz68_2, hcz68_3, hfz68_0, hfz68_1, hfz68_2, hfz68_3⟩ := bc4_ BK484.out
        go_wp2_with (first | (go_at_call 21; (with_reducible refine (impl_EqualRollouts.calls kj20 t498 _ _ t499 t502 t503 t477 _ _ t478 t481 t482 t508 _ ?side1 ?side2 ?side3 ?side4 A63.out).mono ?_); (case side1 => refine (Kd.R_reads' (e := 3) (base := w.heap.size) (ok := fun k_ => ((True ∧ some k_ ≠ (.slice Ao9 t478.length co9 : Value).ownBlock) ∧ some k_ ≠ (.slice Ao27 t488.length co27 : Value).ownBlock)) (n := t499.length) (c := co61) ?_).2.2; exact (pr_ (rf4_ HO501.out BK505.out))); (case side2 => exact (Kd.R_reads' HO501.out).2.1); (case side3 => refine (Kd.R_reads' (e := 3) (base := w.heap.size) (ok := fun k_ => (some k_ ≠ (.slice Ao27 t488.length co27 : Value).ownBlock ∧ some k_ ≠ (.slice Ao61 t499.length co61 : Value).ownBlock)) (n := t478.length) (c := co9) ?_).2.2; exact (pr_ (rf4_ HO_485001.out BK505.out))); (case side4 => exact (Kd.R_reads' HO_485001.out).2.1); rintro e w69 ⟨rfl, hb⟩; have n0_ := Aside0.mk (Kd.R_below (pr_ (rf4_ HO_485001.out BK505.out)) hb); have n1_ := Aside0.mk (Kd.R_below (pr_ (rf4_ HO_495001.out BK505.out)) hb); have n2_ := Aside0.mk (Kd.R_below (pr_ (rf4_ HO501.out BK505.out)) hb); have n3_ := Aside0.mk (blk_below (g := gb484) (o := .cells #[.int .i64 t477, .slice Ao9 t478.length co9, .int .i64 t481, .bool t482] 27 (0, 0)) (pp_ BK484.out) hb); have n4_ := Aside0.mk (blk_below (g := gb494) (o := .cells #[.int .i64 t487, .slice Ao27 t488.length co27, .int .i64 t491, .bool t492] 27 (0, 0)) (pp_ BK494.out) hb); have n5_ := Aside0.mk (blk_below (g := gb505) (o := .cells #[.int .i64 t498, .slice Ao61 t499.length co61, .int .i64 t502, .bool t503] 27 (0, 0)) (pp_ BK505.out) hb); have n6_ := Aside0.mk (below_step (pb3_ HB.out GE484.out GE494.out GE505.out) hb); clear HO_485001; clear HO_495001; clear HO501; clear BK484; clear BK494; clear BK505; clear HB; have HO_485001 := n0_; have HO_495001 := n1_; have HO501 := n2_; have BK484 := n3_; have BK494 := n4_; have BK505 := n5_; have HB := n6_; clear n0_ n1_ n2_ n3_ n4_ n5_ n6_; (try clear hb); (try clear hb2); (try clear hk); (try clear hi)))
        go_meet
        case rel => exact ⟨_, (!t508), el_, H', ⟨by have := HK1.out; have := HJ10.out; have := HJ13.out; have := HJ20.out; first | omega | exact Nat.le_refl _⟩, ⟨pr_ HO_485001.out⟩, ⟨pr_ HO_495001.out⟩, ⟨by (with_reducible repeat (first | apply Kd.R_alloc | apply Kd.R_drewN | apply Kd.R_drew)); exact Kd.R_mono HO501.out (fun _ hk => ⟨hk.1.2, hk.2⟩)⟩, ⟨pk_ BK484.out⟩, ⟨pk_ BK494.out⟩, ⟨pk_ BK505.out⟩, ⟨pb3_ HB.out GE484.out GE494.out GE505.out⟩⟩
      subst c62
      rw [if_pos rfl] at H
      replace H := Option.bind_eq_some_iff.mp H
      obtain ⟨t506, A700, H⟩ := H
      (try dsimp only at H)
      have A70 := Aside0.mk A700
      clear A700
      by_cases c71 : t506 = 0
      rotate_left
      · rw [if_neg c71] at H
        have c71b0 : (t506 == 0) = false := beq_eq_false_iff_ne.mpr c71
        have c71b1 : (t506 != 0) = true := bne_iff_ne.mpr c71
        (first | rw [c71b0] | (simp only [i64_w, i32_w]; rw [c71b0]) | rw [c71b1] | (have c_ := c71b1; rw [bne] at c_; rw [c_]; clear c_) | skip)
        have H' := Aside0.mk H
        clear H
        have hnb72 := NB505_484.out
        have hnc72 := NB484_505.out
        have hnb73 := NB505_494.out
        have hnc73 := NB494_505.out
        obtain ⟨hcz74_0, hcz74_1, hcz74_2, hcz74_3, hfz74_0, hfz74_1, hfz74_2, hfz74_3⟩ := bc4_ BK505.out
        go_wp2_with (first | (go_at_call 23; (with_reducible refine (impl_CountIn.calls kj20 t498 _ _ t499 t502 t503 t483 t506 _ ?side1 ?side2 A70.out).mono ?_); (case side1 => refine (Kd.R_reads' (e := 3) (base := w.heap.size) (ok := fun k_ => ((True ∧ some k_ ≠ (.slice Ao9 t478.length co9 : Value).ownBlock) ∧ some k_ ≠ (.slice Ao27 t488.length co27 : Value).ownBlock)) (n := t499.length) (c := co61) ?_).2.2; exact (pr_ (rf4_ HO501.out BK505.out))); (case side2 => exact (Kd.R_reads' HO501.out).2.1); rintro e w75 ⟨rfl, hb⟩; have n0_ := Aside0.mk (Kd.R_below (pr_ (rf4_ HO_485001.out BK505.out)) hb); have n1_ := Aside0.mk (Kd.R_below (pr_ (rf4_ HO_495001.out BK505.out)) hb); have n2_ := Aside0.mk (Kd.R_below (pr_ (rf4_ HO501.out BK505.out)) hb); have n3_ := Aside0.mk (blk_below (g := gb484) (o := .cells #[.int .i64 t477, .slice Ao9 t478.length co9, .int .i64 t481, .bool t482] 27 (0, 0)) (pp_ BK484.out) hb); have n4_ := Aside0.mk (blk_below (g := gb494) (o := .cells #[.int .i64 t487, .slice Ao27 t488.length co27, .int .i64 t491, .bool t492] 27 (0, 0)) (pp_ BK494.out) hb); have n5_ := Aside0.mk (blk_below (g := gb505) (o := .cells #[.int .i64 t498, .slice Ao61 t499.length co61, .int .i64 t502, .bool t503] 27 (0, 0)) (pp_ BK505.out) hb); have n6_ := Aside0.mk (below_step (pb3_ HB.out GE484.out GE494.out GE505.out) hb); clear HO_485001; clear HO_495001; clear HO501; clear BK484; clear BK494; clear BK505; clear HB; have HO_485001 := n0_; have HO_495001 := n1_; have HO501 := n2_; have BK484 := n3_; have BK494 := n4_; have BK505 := n5_; have HB := n6_; clear n0_ n1_ n2_ n3_ n4_ n5_ n6_; (try clear hb); (try clear hb2); (try clear hk); (try clear hi)))
        go_meet
        case rel => exact ⟨_, (true), el_, H', ⟨by have := HK1.out; have := HJ10.out; have := HJ13.out; have := HJ20.out; first | omega | exact Nat.le_refl _⟩, ⟨pr_ HO_485001.out⟩, ⟨pr_ HO_495001.out⟩, ⟨by (with_reducible repeat (first | apply Kd.R_alloc | apply Kd.R_drewN | apply Kd.R_drew)); exact Kd.R_mono HO501.out (fun _ hk => ⟨hk.1.2, hk.2⟩)⟩, ⟨pk_ BK484.out⟩, ⟨pk_ BK494.out⟩, ⟨pk_ BK505.out⟩, ⟨pb3_ HB.out GE484.out GE494.out GE505.out⟩⟩
      rw [if_pos c71] at H
      have c71b0 : (t506 == 0) = true := beq_iff_eq.mpr c71
      have c71b1 : (t506 != 0) = false := bne_eq_false_iff_eq.mpr c71
      clear c71
      (first | rw [c71b0] | (simp only [i64_w, i32_w]; rw [c71b0]) | rw [c71b1] | (have c_ := c71b1; rw [bne] at c_; rw [c_]; clear c_) | skip)
      replace H := Option.bind_eq_some_iff.mp H
      obtain ⟨t507, A760, H⟩ := H
      (try dsimp only at H)
      have A76 := Aside0.mk A760
      clear A760
      by_cases c77 : t507 = true
      rotate_left
      · replace c77 := Bool.eq_false_iff.mpr c77
        subst c77
        rw [if_neg (show ¬ (false = true) by decide)] at H
        have H' := Aside0.mk H
        clear H
        have hnb78 := NB505_484.out
        have hnc78 := NB484_505.out
        have hnb79 := NB505_494.out
        have hnc79 := NB494_505.out
        obtain ⟨hcz80_0, hcz80_1, hcz80_2, hcz80_3, hfz80_0, hfz80_1, hfz80_2, hfz80_3⟩ := bc4_ BK505.out
        go_wp2_with (first | (go_at_call 23; (with_reducible refine (impl_CountIn.calls kj20 t498 _ _ t499 t502 t503 t483 t506 _ ?side1 ?side2 A70.out).mono ?_); (case side1 => refine (Kd.R_reads' (e := 3) (base := w.heap.size) (ok := fun k_ => ((True ∧ some k_ ≠ (.slice Ao9 t478.length co9 : Value).ownBlock) ∧ some k_ ≠ (.slice Ao27 t488.length co27 : Value).ownBlock)) (n := t499.length) (c := co61) ?_).2.2; exact (pr_ (rf4_ HO501.out BK505.out))); (case side2 => exact (Kd.R_reads' HO501.out).2.1); rintro e w81 ⟨rfl, hb⟩; have n0_ := Aside0.mk (Kd.R_below (pr_ (rf4_ HO_485001.out BK505.out)) hb); have n1_ := Aside0.mk (Kd.R_below (pr_ (rf4_ HO_495001.out BK505.out)) hb); have n2_ := Aside0.mk (Kd.R_below (pr_ (rf4_ HO501.out BK505.out)) hb); have n3_ := Aside0.mk (blk_below (g := gb484) (o := .cells #[.int .i64 t477, .slice Ao9 t478.length co9, .int .i64 t481, .bool t482] 27 (0, 0)) (pp_ BK484.out) hb); have n4_ := Aside0.mk (blk_below (g := gb494) (o := .cells #[.int .i64 t487, .slice Ao27 t488.length co27, .int .i64 t491, .bool t492] 27 (0, 0)) (pp_ BK494.out) hb); have n5_ := Aside0.mk (blk_below (g := gb505) (o := .cells #[.int .i64 t498, .slice Ao61 t499.length co61, .int .i64 t502, .bool t503] 27 (0, 0)) (pp_ BK505.out) hb); have n6_ := Aside0.mk (below_step (pb3_ HB.out GE484.out GE494.out GE505.out) hb); clear HO_485001; clear HO_495001; clear HO501; clear BK484; clear BK494; clear BK505; clear HB; have HO_485001 := n0_; have HO_495001 := n1_; have HO501 := n2_; have BK484 := n3_; have BK494 := n4_; have BK505 := n5_; have HB := n6_; clear n0_ n1_ n2_ n3_ n4_ n5_ n6_; (try clear hb); (try clear hb2); (try clear hk); (try clear hi); have hcz82_0 : w81.cell? ⟨gb505, 0, none⟩ = some (.int .i64 t498) := (blk_cell BK505.out 0).trans rfl; have hcz82_1 : w81.cell? ⟨gb505, 1, none⟩ = some (.slice Ao61 t499.length co61) := (blk_cell BK505.out 1).trans rfl; have hcz82_2 : w81.cell? ⟨gb505, 2, none⟩ = some (.int .i64 t502) := (blk_cell BK505.out 2).trans rfl; have hcz82_3 : w81.cell? ⟨gb505, 3, none⟩ = some (.bool t503) := (blk_cell BK505.out 3).trans rfl; have hfz82_0 := blk_frozen BK505.out 0; have hfz82_1 := blk_frozen BK505.out 1; have hfz82_2 := blk_frozen BK505.out 2; have hfz82_3 := blk_frozen BK505.out 3) | (go_at_call 18; (with_reducible refine (impl_IsRollout.calls kj20 t498 _ _ t499 t502 t503 false _ ?side1 ?side2 A76.out).mono ?_); (case side1 => exact pc_ ((Kd.R_reads' HO501.out).2.2)); (case side2 => exact (Kd.R_reads' HO501.out).2.1); rintro e w83 ⟨rfl, hb⟩; have n0_ := Aside0.mk (Kd.R_below (pr_ HO_485001.out) hb); have n1_ := Aside0.mk (Kd.R_below (pr_ HO_495001.out) hb); have n2_ := Aside0.mk (Kd.R_below (pr_ HO501.out) hb); have n3_ := Aside0.mk (bb_ BK484.out hb); have n4_ := Aside0.mk (bb_ BK494.out hb); have n5_ := Aside0.mk (bb_ BK505.out hb); have n6_ := Aside0.mk (below_step (pb3_ HB.out GE484.out GE494.out GE505.out) hb); clear HO_485001; clear HO_495001; clear HO501; clear BK484; clear BK494; clear BK505; clear HB; have HO_485001 := n0_; have HO_495001 := n1_; have HO501 := n2_; have BK484 := n3_; have BK494 := n4_; have BK505 := n5_; have HB := n6_; clear n0_ n1_ n2_ n3_ n4_ n5_ n6_; (try clear hb); (try clear hb2); (try clear hk); (try clear hi)))
        go_meet
        case rel => exact ⟨_, (true), el_, H', ⟨by have := HK1.out; have := HJ10.out; have := HJ13.out; have := HJ20.out; first | omega | exact Nat.le_refl _⟩, ⟨pr_ HO_485001.out⟩, ⟨pr_ HO_495001.out⟩, ⟨by (with_reducible repeat (first | apply Kd.R_alloc | apply Kd.R_drewN | apply Kd.R_drew)); exact Kd.R_mono HO501.out (fun _ hk => ⟨hk.1.2, hk.2⟩)⟩, ⟨pk_ BK484.out⟩, ⟨pk_ BK494.out⟩, ⟨pk_ BK505.out⟩, ⟨pb3_ HB.out GE484.out GE494.out GE505.out⟩⟩
      subst c77
      rw [if_pos rfl] at H
      have H' := Aside0.mk H
      clear H
      have hnb84 := NB505_484.out
      have hnc84 := NB484_505.out
      have hnb85 := NB505_494.out
      have hnc85 := NB494_505.out
      obtain ⟨hcz86_0, hcz86_1, hcz86_2, hcz86_3, hfz86_0, hfz86_1, hfz86_2, hfz86_3⟩ := bc4_ BK505.out
      go_wp2_with (first | (go_at_call 23; (with_reducible refine (impl_CountIn.calls kj20 t498 _ _ t499 t502 t503 t483 t506 _ ?side1 ?side2 A70.out).mono ?_); (case side1 => refine (Kd.R_reads' (e := 3) (base := w.heap.size) (ok := fun k_ => ((True ∧ some k_ ≠ (.slice Ao9 t478.length co9 : Value).ownBlock) ∧ some k_ ≠ (.slice Ao27 t488.length co27 : Value).ownBlock)) (n := t499.length) (c := co61) ?_).2.2; exact (pr_ (rf4_ HO501.out BK505.out))); (case side2 => exact (Kd.R_reads' HO501.out).2.1); rintro e w87 ⟨rfl, hb⟩; have n0_ := Aside0.mk (Kd.R_below (pr_ (rf4_ HO_485001.out BK505.out)) hb); have n1_ := Aside0.mk (Kd.R_below (pr_ (rf4_ HO_495001.out BK505.out)) hb); have n2_ := Aside0.mk (Kd.R_below (pr_ (rf4_ HO501.out BK505.out)) hb); have n3_ := Aside0.mk (blk_below (g := gb484) (o := .cells #[.int .i64 t477, .slice Ao9 t478.length co9, .int .i64 t481, .bool t482] 27 (0, 0)) (pp_ BK484.out) hb); have n4_ := Aside0.mk (blk_below (g := gb494) (o := .cells #[.int .i64 t487, .slice Ao27 t488.length co27, .int .i64 t491, .bool t492] 27 (0, 0)) (pp_ BK494.out) hb); have n5_ := Aside0.mk (blk_below (g := gb505) (o := .cells #[.int .i64 t498, .slice Ao61 t499.length co61, .int .i64 t502, .bool t503] 27 (0, 0)) (pp_ BK505.out) hb); have n6_ := Aside0.mk (below_step (pb3_ HB.out GE484.out GE494.out GE505.out) hb); clear HO_485001; clear HO_495001; clear HO501; clear BK484; clear BK494; clear BK505; clear HB; have HO_485001 := n0_; have HO_495001 := n1_; have HO501 := n2_; have BK484 := n3_; have BK494 := n4_; have BK505 := n5_; have HB := n6_; clear n0_ n1_ n2_ n3_ n4_ n5_ n6_; (try clear hb); (try clear hb2); (try clear hk); (try clear hi); have hcz88_0 : w87.cell? ⟨gb505, 0, none⟩ = some (.int .i64 t498) := (blk_cell BK505.out 0).trans rfl; have hcz88_1 : w87.cell? ⟨gb505, 1, none⟩ = some (.slice Ao61 t499.length co61) := (blk_cell BK505.out 1).trans rfl; have hcz88_2 : w87.cell? ⟨gb505, 2, none⟩ = some (.int .i64 t502) := (blk_cell BK505.out 2).trans rfl; have hcz88_3 : w87.cell? ⟨gb505, 3, none⟩ = some (.bool t503) := (blk_cell BK505.out 3).trans rfl; have hfz88_0 := blk_frozen BK505.out 0; have hfz88_1 := blk_frozen BK505.out 1; have hfz88_2 := blk_frozen BK505.out 2; have hfz88_3 := blk_frozen BK505.out 3) | (go_at_call 18; (with_reducible refine (impl_IsRollout.calls kj20 t498 _ _ t499 t502 t503 true _ ?side1 ?side2 A76.out).mono ?_); (case side1 => exact pc_ ((Kd.R_reads' HO501.out).2.2)); (case side2 => exact (Kd.R_reads' HO501.out).2.1); rintro e w89 ⟨rfl, hb⟩; have n0_ := Aside0.mk (Kd.R_below (pr_ HO_485001.out) hb); have n1_ := Aside0.mk (Kd.R_below (pr_ HO_495001.out) hb); have n2_ := Aside0.mk (Kd.R_below (pr_ HO501.out) hb); have n3_ := Aside0.mk (bb_ BK484.out hb); have n4_ := Aside0.mk (bb_ BK494.out hb); have n5_ := Aside0.mk (bb_ BK505.out hb); have n6_ := Aside0.mk (below_step (pb3_ HB.out GE484.out GE494.out GE505.out) hb); clear HO_485001; clear HO_495001; clear HO501; clear BK484; clear BK494; clear BK505; clear HB; have HO_485001 := n0_; have HO_495001 := n1_; have HO501 := n2_; have BK484 := n3_; have BK494 := n4_; have BK505 := n5_; have HB := n6_; clear n0_ n1_ n2_ n3_ n4_ n5_ n6_; (try clear hb); (try clear hb2); (try clear hk); (try clear hi)))
      go_meet
      case rel => exact ⟨_, (false), el_, H', ⟨by have := HK1.out; have := HJ10.out; have := HJ13.out; have := HJ20.out; first | omega | exact Nat.le_refl _⟩, ⟨pr_ HO_485001.out⟩, ⟨pr_ HO_495001.out⟩, ⟨by (with_reducible repeat (first | apply Kd.R_alloc | apply Kd.R_drewN | apply Kd.R_drew)); exact Kd.R_mono HO501.out (fun _ hk => ⟨hk.1.2, hk.2⟩)⟩, ⟨pk_ BK484.out⟩, ⟨pk_ BK494.out⟩, ⟨pk_ BK505.out⟩, ⟨pb3_ HB.out GE484.out GE494.out GE505.out⟩⟩
    clear HC53
    try clear c1
    try clear c2
    try clear p2
    try clear c3
    try clear c4
    try clear c5
    try clear c6
    try clear c7
    try clear c8
    try clear c9
    try clear c12
    try clear c12b0
    try clear c13
    try clear c15
    try clear c15b0
    try clear c16
    try clear c16b0
    try clear c17
    try clear c17b0
    try clear c18
    try clear c18b0
    try clear c19
    try clear c23
    try clear c25
    try clear c27
    try clear c28
    try clear c30
    try clear c31
    try clear c32
    try clear c33
    try clear c35
    try clear c36
    try clear c40
    try clear c40b0
    try clear c41
    try clear c46
    try clear c51
    try clear c54
    try clear c58
    try clear c59
    try clear c62
    try clear c64
    try clear c65
    try clear c67
    try clear c71
    try clear c71b0
    try clear c71b1
    try clear c72
    try clear c73
    try clear c77
    try clear c78
    try clear c79
    try clear c84
    try clear c85
    try clear hcz22_0
    try clear hcz22_1
    try clear hcz22_2
    try clear hcz22_3
    try clear hcz26_0
    try clear hcz26_1
    try clear hcz26_2
    try clear hcz26_3
    try clear hcz31_0
    try clear hcz31_1
    try clear hcz31_2
    try clear hcz31_3
    try clear hcz32_0
    try clear hcz32_1
    try clear hcz32_2
    try clear hcz32_3
    try clear hcz37_0
    try clear hcz37_1
    try clear hcz37_2
    try clear hcz37_3
    try clear hcz42_0
    try clear hcz42_1
    try clear hcz42_2
    try clear hcz42_3
    try clear hcz44_0
    try clear hcz44_1
    try clear hcz44_2
    try clear hcz44_3
    try clear hcz47_0
    try clear hcz47_1
    try clear hcz47_2
    try clear hcz47_3
    try clear hcz49_0
    try clear hcz49_1
    try clear hcz49_2
    try clear hcz49_3
    try clear hcz55_0
    try clear hcz55_1
    try clear hcz55_2
    try clear hcz55_3
    try clear hcz60_0
    try clear hcz60_1
    try clear hcz60_2
    try clear hcz60_3
    try clear hcz66_0
    try clear hcz66_1
    try clear hcz66_2
    try clear hcz66_3
    try clear hcz68_0
    try clear hcz68_1
    try clear hcz68_2
    try clear hcz68_3
    try clear hcz74_0
    try clear hcz74_1
    try clear hcz74_2
    try clear hcz74_3
    try clear hcz80_0
    try clear hcz80_1
    try clear hcz80_2
    try clear hcz80_3
    try clear hcz82_0
    try clear hcz82_1
    try clear hcz82_2
    try clear hcz82_3
    try clear hcz86_0
    try clear hcz86_1
    try clear hcz86_2
    try clear hcz86_3
    try clear hcz88_0
    try clear hcz88_1
    try clear hcz88_2
    try clear hcz88_3
    try clear hcz8_0
    try clear hcz8_1
    try clear hcz8_2
    try clear hcz8_3
    try clear hfz22_0
    try clear hfz22_1
    try clear hfz22_2
    try clear hfz22_3
    try clear hfz26_0
    try clear hfz26_1
    try clear hfz26_2
    try clear hfz26_3
    try clear hfz31_0
    try clear hfz31_1
    try clear hfz31_2
    try clear hfz31_3
    try clear hfz32_0
    try clear hfz32_1
    try clear hfz32_2
    try clear hfz32_3
    try clear hfz37_0
    try clear hfz37_1
    try clear hfz37_2
    try clear hfz37_3
    try clear hfz42_0
    try clear hfz42_1
    try clear hfz42_2
    try clear hfz42_3
    try clear hfz44_0
    try clear hfz44_1
    try clear hfz44_2
    try clear hfz44_3
    try clear hfz47_0
    try clear hfz47_1
    try clear hfz47_2
    try clear hfz47_3
    try clear hfz49_0
    try clear hfz49_1
    try clear hfz49_2
    try clear hfz49_3
    try clear hfz55_0
    try clear hfz55_1
    try clear hfz55_2
    try clear hfz55_3
    try clear hfz60_0
    try clear hfz60_1
    try clear hfz60_2
    try clear hfz60_3
    try clear hfz66_0
    try clear hfz66_1
    try clear hfz66_2
    try clear hfz66_3
    try clear hfz68_0
    try clear hfz68_1
    try clear hfz68_2
    try clear hfz68_3
    try clear hfz74_0
    try clear hfz74_1
    try clear hfz74_2
    try clear hfz74_3
    try clear hfz80_0
    try clear hfz80_1
    try clear hfz80_2
    try clear hfz80_3
    try clear hfz82_0
    try clear hfz82_1
    try clear hfz82_2
    try clear hfz82_3
    try clear hfz86_0
    try clear hfz86_1
    try clear hfz86_2
    try clear hfz86_3
    try clear hfz88_0
    try clear hfz88_1
    try clear hfz88_2
    try clear hfz88_3
    try clear hfz8_0
    try clear hfz8_1
    try clear hfz8_2
    try clear hfz8_3
    try clear p2
    obtain ⟨kq, x113_52, rfl, HA, HJ52, HO_485001, HO_495001, HO_506001, BK484, BK494, BK505, HB⟩ := hcut
    rcases kq with _ | kj52
    · exact absurd HA.out (by simp [laws_FnRollouts.j4])
    have H := HA.out
    clear HA
    simp only [laws_FnRollouts.j4] at H
    by_cases c90 : x113_52 = true
    · subst c90
      rw [if_pos rfl] at H
      obtain rfl := Option.some.inj H
      go_wp2
      go_ret
      exact ⟨er_, pb3_ HB.out GE484.out GE494.out GE505.out⟩
    replace c90 := Bool.eq_false_iff.mpr c90
    subst c90
    rw [if_neg (show ¬ (false = true) by decide)] at H
    replace H := Option.bind_eq_some_iff.mp H
    obtain ⟨⟨t509, t510, t513, t514, t515⟩, A910, H⟩ := H
    (try dsimp only at H)
    have A91 := Aside0.mk A910
    clear A910
    have HS_ := Aside0.mk H
    clear H
    have hnb92 := NB505_484.out
    have hnc92 := NB484_505.out
    have hnb93 := NB505_494.out
    have hnc93 := NB494_505.out
    obtain ⟨hcz94_0, hcz94_1, hcz94_2, hcz94_3, hfz94_0, hfz94_1, hfz94_2, hfz94_3⟩ := bc4_ BK505.out
    go_upto_region 20 with (first | ((with_reducible refine gate_callee (f := 27) rfl ?_); refine goesL_ (some 116) rfl rfl Try.func27 (by kernel_rfl) rfl #[.agg #[.int .i64 t498, .slice Ao61 t499.length co61, .int .i64 t502, .bool t503]] rfl mp_ ?_; (with_reducible refine (impl_NextStage.calls kj52 t498 _ _ t499 t502 t503 t509 t510 t513 t514 t515 _ ?side1 ?side2 A91.out).mono ?_); (case side1 => exact pc_ ((Kd.R_reads' HO_506001.out).2.2)); (case side2 => exact (Kd.R_reads' HO_506001.out).2.1); rintro e w95 ⟨v511, rfl, ho0, hb⟩; refine ⟨_, rfl, ?_⟩; have n0_ := Aside0.mk (Kd.R_elder' (pr_ HO_485001.out) (Kd.R_base ho0) hb); have n1_ := Aside0.mk (Kd.R_elder' (pr_ HO_495001.out) (Kd.R_base ho0) hb); have n2_ := Aside0.mk (Kd.R_elder' (pr_ HO_506001.out) (Kd.R_base ho0) hb); have n3_ := Aside0.mk (Kd.R_lower (Kd.R_new' (Kd.R_new' (Kd.R_new' ho0 (Kd.R_lt (pr_ HO_485001.out))) (Kd.R_lt (pr_ HO_495001.out))) (Kd.R_lt (pr_ HO_506001.out))) (below_size (pb3_ HB.out GE484.out GE494.out GE505.out))); have n4_ := Aside0.mk (bb_ BK484.out hb); have n5_ := Aside0.mk (bb_ BK494.out hb); have n6_ := Aside0.mk (bb_ BK505.out hb); have n7_ := Aside0.mk (below_step (pb3_ HB.out GE484.out GE494.out GE505.out) hb); clear HO_485001; clear HO_495001; clear HO_506001; clear BK484; clear BK494; clear BK505; clear HB; have HO_485001 := n0_; have HO_495001 := n1_; have HO_506001 := n2_; have HO512 := n3_; have BK484 := n4_; have BK494 := n5_; have BK505 := n6_; have HB := n7_; clear n0_ n1_ n2_ n3_ n4_ n5_ n6_ n7_; (try clear hb); (try clear hb2); (try clear hk); (try clear hi); (try clear ho0)) | ((with_reducible refine gate_dst (N := 12) rfl ?_); refine box_event ?hg (N := 12) ?hd (cs := #[.int .i64 0, .slice none 0 0, .int .i64 0, .bool false]) (t := 27) ?hr ?_; (case hd => rfl); (case hg => rfl); (case hr => first | (go_simp; done) | (go_simp; rfl)); intro gb516 hg w96 hbox hb; have n0_ := Aside0.mk (Kd.R_below (pr_ HO_485001.out) hb); have n1_ := Aside0.mk (Kd.R_below (pr_ HO_495001.out) hb); have n2_ := Aside0.mk (Kd.R_below (pr_ HO_506001.out) hb); have n3_ := Aside0.mk (Kd.R_below (pr_ HO512.out) hb); have n4_ := Aside0.mk (bb_ BK484.out hb); have n5_ := Aside0.mk (bb_ BK494.out hb); have n6_ := Aside0.mk (bb_ BK505.out hb); have n7_ := Aside0.mk (below_step (pb3_ HB.out GE484.out GE494.out GE505.out) hb); have n8_ := Aside0.mk (hbox); have n9_ := Aside0.mk ((by rw [hg]; exact (below_size (pb3_ HB.out GE484.out GE494.out GE505.out)) : w.heap.size ≤ gb516)); have n10_ := Aside0.mk ((by rw [hg]; exact (below_size (pb3_ HB.out GE484.out GE494.out GE505.out)) : w.heap.size ≤ gb516)); have n11_ := Aside0.mk ((by rw [hg]; exact Nat.ne_of_lt (blk_lt (pk_ BK484.out)) : gb484 ≠ gb516)); have n12_ := Aside0.mk ((by rw [hg]; exact Nat.ne_of_gt (blk_lt (pk_ BK484.out)) : gb516 ≠ gb484)); have n13_ := Aside0.mk ((by rw [hg]; exact Nat.ne_of_lt (blk_lt (pk_ BK494.out)) : gb494 ≠ gb516)); have n14_ := Aside0.mk ((by rw [hg]; exact Nat.ne_of_gt (blk_lt (pk_ BK494.out)) : gb516 ≠ gb494)); have n15_ := Aside0.mk ((by rw [hg]; exact Nat.ne_of_lt (blk_lt (pk_ BK505.out)) : gb505 ≠ gb516)); have n16_ := Aside0.mk ((by rw [hg]; exact Nat.ne_of_gt (blk_lt (pk_ BK505.out)) : gb516 ≠ gb505)); clear HO_485001; clear HO_495001; clear HO_506001; clear HO512; clear BK484; clear BK494; clear BK505; clear HB; have HO_485001 := n0_; have HO_495001 := n1_; have HO_506001 := n2_; have HO512 := n3_; have BK484 := n4_; have BK494 := n5_; have BK505 := n6_; have HB := n7_; have BK516 := n8_; have GW516 := n9_; have GE516 := n10_; have NB484_516 := n11_; have NB516_484 := n12_; have NB494_516 := n13_; have NB516_494 := n14_; have NB505_516 := n15_; have NB516_505 := n16_; clear n0_ n1_ n2_ n3_ n4_ n5_ n6_ n7_ n8_ n9_ n10_ n11_ n12_ n13_ n14_ n15_ n16_; clear hb hbox hg; have hnb97 := NB516_484.out; have hnc97 := NB484_516.out; have hnb98 := NB516_494.out; have hnc98 := NB494_516.out; have hnb99 := NB516_505.out; have hnc99 := NB505_516.out; have hcz100_0 : w96.cell? ⟨gb516, 0, none⟩ = some (.int .i64 0) := (blk_cell BK516.out 0).trans rfl; have hcz100_1 : w96.cell? ⟨gb516, 1, none⟩ = some (.slice none 0 0) := (blk_cell BK516.out 1).trans rfl; have hcz100_2 : w96.cell? ⟨gb516, 2, none⟩ = some (.int .i64 0) := (blk_cell BK516.out 2).trans rfl; have hcz100_3 : w96.cell? ⟨gb516, 3, none⟩ = some (.bool false) := (blk_cell BK516.out 3).trans rfl; have hfz100_0 := blk_frozen BK516.out 0; have hfz100_1 := blk_frozen BK516.out 1; have hfz100_2 := blk_frozen BK516.out 2; have hfz100_3 := blk_frozen BK516.out 3; obtain ⟨Ao101, co101, eo101⟩ := Kd.R_slice HO512.out; subst eo101))
    (try simp only [Act.put, List.setIfInBounds_toArray, List.set_cons_zero, List.set_cons_succ])
    have H := HS_.out
    clear HS_
    by_cases c102 : t504 = true
    rotate_left
    · replace c102 := Bool.eq_false_iff.mpr c102
      subst c102
      rw [if_neg (show ¬ (false = true) by decide)] at H
      by_cases c103 : t493 = true
      · subst c103
        rw [if_pos rfl] at H
        obtain rfl := Option.some.inj H
        go_wp2
        go_ret
        exact ⟨er_, pb4_ HB.out GE484.out GE494.out GE505.out GE516.out⟩
      replace c103 := Bool.eq_false_iff.mpr c103
      subst c103
      rw [if_neg (show ¬ (false = true) by decide)] at H
      by_cases c104 : t482 = true
      · subst c104
        rw [if_pos rfl] at H
        obtain rfl := Option.some.inj H
        have hnb105 := NB484_494.out
        have hnc105 := NB494_484.out
        have hnb106 := NB484_505.out
        have hnc106 := NB505_484.out
        have hnb107 := NB484_516.out
        have hnc107 := NB516_484.out
        obtain ⟨hcz108_0, hcz108_1, hcz108_2, hcz108_3, hfz108_0, hfz108_1, hfz108_2, hfz108_3⟩ := bc4_ BK484.out
        go_wp2
        go_ret
        exact ⟨er_, pb4_ HB.out GE484.out GE494.out GE505.out GE516.out⟩
      replace c104 := Bool.eq_false_iff.mpr c104
      subst c104
      rw [if_neg (show ¬ (false = true) by decide)] at H
      replace H := Option.bind_eq_some_iff.mp H
      obtain ⟨t518, A1090, H⟩ := H
      (try dsimp only at H)
      have A109 := Aside0.mk A1090
      clear A1090
      by_cases c110 : t518 = true
      rotate_left
      · replace c110 := Bool.eq_false_iff.mpr c110
        subst c110
        rw [if_neg (show ¬ (false = true) by decide)] at H
        obtain rfl := Option.some.inj H
        have hnb111 := NB484_494.out
        have hnc111 := NB494_484.out
        have hnb112 := NB484_505.out
        have hnc112 := NB505_484.out
        have hnb113 := NB484_516.out
        have hnc113 := NB516_484.out
        obtain ⟨hcz114_0, hcz114_1, hcz114_2, hcz114_3, hfz114_0, hfz114_1, hfz114_2, hfz114_3⟩ := bc4_ BK484.out
        go_wp2_with (first | (go_at_call 18; (with_reducible refine (impl_IsRollout.calls kj52 t477 _ _ t478 t481 false false _ ?side1 ?side2 A109.out).mono ?_); (case side1 => refine (Kd.R_reads' (e := 3) (base := w.heap.size) (ok := fun k_ => ((some k_ ≠ (.slice Ao27 t488.length co27 : Value).ownBlock ∧ some k_ ≠ (.slice Ao61 t499.length co61 : Value).ownBlock) ∧ some k_ ≠ (.slice Ao101 t510.length co101 : Value).ownBlock)) (n := t478.length) (c := co9) ?_).2.2; exact (pr_ (rf4_ HO_485001.out BK516.out))); (case side2 => exact (Kd.R_reads' HO_485001.out).2.1); rintro e w115 ⟨rfl, hb⟩; have n0_ := Aside0.mk (Kd.R_below (pr_ (rf4_ HO_485001.out BK516.out)) hb); have n1_ := Aside0.mk (Kd.R_below (pr_ (rf4_ HO_495001.out BK516.out)) hb); have n2_ := Aside0.mk (Kd.R_below (pr_ (rf4_ HO_506001.out BK516.out)) hb); have n3_ := Aside0.mk (Kd.R_below (pr_ (rf4_ HO512.out BK516.out)) hb); have n4_ := Aside0.mk (blk_below (g := gb484) (o := .cells #[.int .i64 t477, .slice Ao9 t478.length co9, .int .i64 t481, .bool false] 27 (0, 0)) (pp_ BK484.out) hb); have n5_ := Aside0.mk (blk_below (g := gb494) (o := .cells #[.int .i64 t487, .slice Ao27 t488.length co27, .int .i64 t491, .bool t492] 27 (0, 0)) (pp_ BK494.out) hb); have n6_ := Aside0.mk (blk_below (g := gb505) (o := .cells #[.int .i64 t498, .slice Ao61 t499.length co61, .int .i64 t502, .bool t503] 27 (0, 0)) (pp_ BK505.out) hb); have n7_ := Aside0.mk (blk_below (g := gb516) (o := .cells #[.int .i64 t509, .slice Ao101 t510.length co101, .int .i64 t513, .bool t514] 27 (0, 0)) (pp_ BK516.out) hb); have n8_ := Aside0.mk (below_step (pb4_ HB.out GE484.out GE494.out GE505.out GE516.out) hb); clear HO_485001; clear HO_495001; clear HO_506001; clear HO512; clear BK484; clear BK494; clear BK505; clear BK516; clear HB; have HO_485001 := n0_; have HO_495001 := n1_; have HO_506001 := n2_; have HO512 := n3_; have BK484 := n4_; have BK494 := n5_; have BK505 := n6_; have BK516 := n7_; have HB := n8_; clear n0_ n1_ n2_ n3_ n4_ n5_ n6_ n7_ n8_; (try clear hb); (try clear hb2); (try clear hk); (try clear hi)))
        go_ret
        exact ⟨er_, pb4_ HB.out GE484.out GE494.out GE505.out GE516.out⟩
      subst c110
      rw [if_pos rfl] at H
      by_cases c116 : t483 < 0
      · rw [if_pos c116] at H
        have c116b0 : decide (t483 < 0) = true := decide_eq_true c116
        clear c116
        (first | rw [c116b0] | (simp only [i64_w, i32_w]; rw [c116b0]) | skip)
        obtain rfl := Option.some.inj H
        have hnb117 := NB484_494.out
        have hnc117 := NB494_484.out
        have hnb118 := NB484_505.out
        have hnc118 := NB505_484.out
        have hnb119 := NB484_516.out
        have hnc119 := NB516_484.out
        obtain ⟨hcz120_0, hcz120_1, hcz120_2, hcz120_3, hfz120_0, hfz120_1, hfz120_2, hfz120_3⟩ := bc4_ BK484.out
        go_wp2_with (first | (go_at_call 18; (with_reducible refine (impl_IsRollout.calls kj52 t477 _ _ t478 t481 false true _ ?side1 ?side2 A109.out).mono ?_); (case side1 => refine (Kd.R_reads' (e := 3) (base := w.heap.size) (ok := fun k_ => ((some k_ ≠ (.slice Ao27 t488.length co27 : Value).ownBlock ∧ some k_ ≠ (.slice Ao61 t499.length co61 : Value).ownBlock) ∧ some k_ ≠ (.slice Ao101 t510.length co101 : Value).ownBlock)) (n := t478.length) (c := co9) ?_).2.2; exact (pr_ (rf4_ HO_485001.out BK516.out))); (case side2 => exact (Kd.R_reads' HO_485001.out).2.1); rintro e w121 ⟨rfl, hb⟩; have n0_ := Aside0.mk (Kd.R_below (pr_ (rf4_ HO_485001.out BK516.out)) hb); have n1_ := Aside0.mk (Kd.R_below (pr_ (rf4_ HO_495001.out BK516.out)) hb); have n2_ := Aside0.mk (Kd.R_below (pr_ (rf4_ HO_506001.out BK516.out)) hb); have n3_ := Aside0.mk (Kd.R_below (pr_ (rf4_ HO512.out BK516.out)) hb); have n4_ := Aside0.mk (blk_below (g := gb484) (o := .cells #[.int .i64 t477, .slice Ao9 t478.length co9, .int .i64 t481, .bool false] 27 (0, 0)) (pp_ BK484.out) hb); have n5_ := Aside0.mk (blk_below (g := gb494) (o := .cells #[.int .i64 t487, .slice Ao27 t488.length co27, .int .i64 t491, .bool t492] 27 (0, 0)) (pp_ BK494.out) hb); have n6_ := Aside0.mk (blk_below (g := gb505) (o := .cells #[.int .i64 t498, .slice Ao61 t499.length co61, .int .i64 t502, .bool t503] 27 (0, 0)) (pp_ BK505.out) hb); have n7_ := Aside0.mk (blk_below (g := gb516) (o := .cells #[.int .i64 t509, .slice Ao101 t510.length co101, .int .i64 t513, .bool t514] 27 (0, 0)) (pp_ BK516.out) hb); have n8_ := Aside0.mk (below_step (pb4_ HB.out GE484.out GE494.out GE505.out GE516.out) hb); clear HO_485001; clear HO_495001; clear HO_506001; clear HO512; clear BK484; clear BK494; clear BK505; clear BK516; clear HB; have HO_485001 := n0_; have HO_495001 := n1_; have HO_506001 := n2_; have HO512 := n3_; have BK484 := n4_; have BK494 := n5_; have BK505 := n6_; have BK516 := n7_; have HB := n8_; clear n0_ n1_ n2_ n3_ n4_ n5_ n6_ n7_ n8_; (try clear hb); (try clear hb2); (try clear hk); (try clear hi)))
        go_ret
        exact ⟨er_, pb4_ HB.out GE484.out GE494.out GE505.out GE516.out⟩
      rw [if_neg c116] at H
      have c116b0 : decide (t483 < 0) = false := decide_eq_false c116
      clear c116
      (first | rw [c116b0] | (simp only [i64_w, i32_w]; rw [c116b0]) | skip)
      by_cases c122 : t483 > 10000
      rotate_left
      · rw [if_neg c122] at H
        have c122b0 : decide (10000 < t483) = false := decide_eq_false c122
        clear c122
        obtain rfl := Option.some.inj H
        have hnb123 := NB484_494.out
        have hnc123 := NB494_484.out
        have hnb124 := NB484_505.out
        have hnc124 := NB505_484.out
        have hnb125 := NB484_516.out
        have hnc125 := NB516_484.out
        obtain ⟨hcz126_0, hcz126_1, hcz126_2, hcz126_3, hfz126_0, hfz126_1, hfz126_2, hfz126_3⟩ := bc4_ BK484.out
        go_wp2_with (first | (go_at_call 18; (with_reducible refine (impl_IsRollout.calls kj52 t477 _ _ t478 t481 false true _ ?side1 ?side2 A109.out).mono ?_); (case side1 => refine (Kd.R_reads' (e := 3) (base := w.heap.size) (ok := fun k_ => ((some k_ ≠ (.slice Ao27 t488.length co27 : Value).ownBlock ∧ some k_ ≠ (.slice Ao61 t499.length co61 : Value).ownBlock) ∧ some k_ ≠ (.slice Ao101 t510.length co101 : Value).ownBlock)) (n := t478.length) (c := co9) ?_).2.2; exact (pr_ (rf4_ HO_485001.out BK516.out))); (case side2 => exact (Kd.R_reads' HO_485001.out).2.1); rintro e w127 ⟨rfl, hb⟩; have n0_ := Aside0.mk (Kd.R_below (pr_ (rf4_ HO_485001.out BK516.out)) hb); have n1_ := Aside0.mk (Kd.R_below (pr_ (rf4_ HO_495001.out BK516.out)) hb); have n2_ := Aside0.mk (Kd.R_below (pr_ (rf4_ HO_506001.out BK516.out)) hb); have n3_ := Aside0.mk (Kd.R_below (pr_ (rf4_ HO512.out BK516.out)) hb); have n4_ := Aside0.mk (blk_below (g := gb484) (o := .cells #[.int .i64 t477, .slice Ao9 t478.length co9, .int .i64 t481, .bool false] 27 (0, 0)) (pp_ BK484.out) hb); have n5_ := Aside0.mk (blk_below (g := gb494) (o := .cells #[.int .i64 t487, .slice Ao27 t488.length co27, .int .i64 t491, .bool t492] 27 (0, 0)) (pp_ BK494.out) hb); have n6_ := Aside0.mk (blk_below (g := gb505) (o := .cells #[.int .i64 t498, .slice Ao61 t499.length co61, .int .i64 t502, .bool t503] 27 (0, 0)) (pp_ BK505.out) hb); have n7_ := Aside0.mk (blk_below (g := gb516) (o := .cells #[.int .i64 t509, .slice Ao101 t510.length co101, .int .i64 t513, .bool t514] 27 (0, 0)) (pp_ BK516.out) hb); have n8_ := Aside0.mk (below_step (pb4_ HB.out GE484.out GE494.out GE505.out GE516.out) hb); clear HO_485001; clear HO_495001; clear HO_506001; clear HO512; clear BK484; clear BK494; clear BK505; clear BK516; clear HB; have HO_485001 := n0_; have HO_495001 := n1_; have HO_506001 := n2_; have HO512 := n3_; have BK484 := n4_; have BK494 := n5_; have BK505 := n6_; have BK516 := n7_; have HB := n8_; clear n0_ n1_ n2_ n3_ n4_ n5_ n6_ n7_ n8_; (try clear hb); (try clear hb2); (try clear hk); (try clear hi)))
        go_ret
        exact ⟨er_, pb4_ HB.out GE484.out GE494.out GE505.out GE516.out⟩
      rw [if_pos c122] at H
      have c122b0 : decide (10000 < t483) = true := decide_eq_true c122
      clear c122
      obtain rfl := Option.some.inj H
      have hnb128 := NB484_494.out
      have hnc128 := NB494_484.out
      have hnb129 := NB484_505.out
      have hnc129 := NB505_484.out
      have hnb130 := NB484_516.out
      have hnc130 := NB516_484.out
      obtain ⟨hcz131_0, hcz131_1, hcz131_2, hcz131_3, hfz131_0, hfz131_1, hfz131_2, hfz131_3⟩ := bc4_ BK484.out
      go_wp2_with (first | (go_at_call 18; (with_reducible refine (impl_IsRollout.calls kj52 t477 _ _ t478 t481 false true _ ?side1 ?side2 A109.out).mono ?_); (case side1 => refine (Kd.R_reads' (e := 3) (base := w.heap.size) (ok := fun k_ => ((some k_ ≠ (.slice Ao27 t488.length co27 : Value).ownBlock ∧ some k_ ≠ (.slice Ao61 t499.length co61 : Value).ownBlock) ∧ some k_ ≠ (.slice Ao101 t510.length co101 : Value).ownBlock)) (n := t478.length) (c := co9) ?_).2.2; exact (pr_ (rf4_ HO_485001.out BK516.out))); (case side2 => exact (Kd.R_reads' HO_485001.out).2.1); rintro e w132 ⟨rfl, hb⟩; have n0_ := Aside0.mk (Kd.R_below (pr_ (rf4_ HO_485001.out BK516.out)) hb); have n1_ := Aside0.mk (Kd.R_below (pr_ (rf4_ HO_495001.out BK516.out)) hb); have n2_ := Aside0.mk (Kd.R_below (pr_ (rf4_ HO_506001.out BK516.out)) hb); have n3_ := Aside0.mk (Kd.R_below (pr_ (rf4_ HO512.out BK516.out)) hb); have n4_ := Aside0.mk (blk_below (g := gb484) (o := .cells #[.int .i64 t477, .slice Ao9 t478.length co9, .int .i64 t481, .bool false] 27 (0, 0)) (pp_ BK484.out) hb); have n5_ := Aside0.mk (blk_below (g := gb494) (o := .cells #[.int .i64 t487, .slice Ao27 t488.length co27, .int .i64 t491, .bool t492] 27 (0, 0)) (pp_ BK494.out) hb); have n6_ := Aside0.mk (blk_below (g := gb505) (o := .cells #[.int .i64 t498, .slice Ao61 t499.length co61, .int .i64 t502, .bool t503] 27 (0, 0)) (pp_ BK505.out) hb); have n7_ := Aside0.mk (blk_below (g := gb516) (o := .cells #[.int .i64 t509, .slice Ao101 t510.length co101, .int .i64 t513, .bool t514] 27 (0, 0)) (pp_ BK516.out) hb); have n8_ := Aside0.mk (below_step (pb4_ HB.out GE484.out GE494.out GE505.out GE516.out) hb); clear HO_485001; clear HO_495001; clear HO_506001; clear HO512; clear BK484; clear BK494; clear BK505; clear BK516; clear HB; have HO_485001 := n0_; have HO_495001 := n1_; have HO_506001 := n2_; have HO512 := n3_; have BK484 := n4_; have BK494 := n5_; have BK505 := n6_; have BK516 := n7_; have HB := n8_; clear n0_ n1_ n2_ n3_ n4_ n5_ n6_ n7_ n8_; (try clear hb); (try clear hb2); (try clear hk); (try clear hi)))
      go_ret
      exact ⟨er_, pb4_ HB.out GE484.out GE494.out GE505.out GE516.out⟩
    subst c102
    rw [if_pos rfl] at H
    by_cases c133 : t515 = true
    · subst c133
      rw [if_pos rfl] at H
      obtain rfl := Option.some.inj H
      go_wp2
      go_ret
      exact ⟨er_, pb4_ HB.out GE484.out GE494.out GE505.out GE516.out⟩
    replace c133 := Bool.eq_false_iff.mpr c133
    subst c133
    rw [if_neg (show ¬ (false = true) by decide)] at H
    by_cases c134 : t493 = true
    · subst c134
      rw [if_pos rfl] at H
      obtain rfl := Option.some.inj H
      go_wp2
      go_ret
      exact ⟨er_, pb4_ HB.out GE484.out GE494.out GE505.out GE516.out⟩
    replace c134 := Bool.eq_false_iff.mpr c134
    subst c134
    rw [if_neg (show ¬ (false = true) by decide)] at H
    by_cases c135 : t482 = true
    · subst c135
      rw [if_pos rfl] at H
      obtain rfl := Option.some.inj H
      have hnb136 := NB484_494.out
      have hnc136 := NB494_484.out
      have hnb137 := NB484_505.out
      have hnc137 := NB505_484.out
      have hnb138 := NB484_516.out
      have hnc138 := NB516_484.out
      obtain ⟨hcz139_0, hcz139_1, hcz139_2, hcz139_3, hfz139_0, hfz139_1, hfz139_2, hfz139_3⟩ := bc4_ BK484.out
      go_wp2
      go_ret
      exact ⟨er_, pb4_ HB.out GE484.out GE494.out GE505.out GE516.out⟩
    replace c135 := Bool.eq_false_iff.mpr c135
    subst c135
    rw [if_neg (show ¬ (false = true) by decide)] at H
    replace H := Option.bind_eq_some_iff.mp H
    obtain ⟨t517, A1400, H⟩ := H
    (try dsimp only at H)
    have A140 := Aside0.mk A1400
    clear A1400
    by_cases c141 : t517 = true
    rotate_left
    · replace c141 := Bool.eq_false_iff.mpr c141
      subst c141
      rw [if_neg (show ¬ (false = true) by decide)] at H
      obtain rfl := Option.some.inj H
      have hnb142 := NB484_494.out
      have hnc142 := NB494_484.out
      have hnb143 := NB484_505.out
      have hnc143 := NB505_484.out
      have hnb144 := NB484_516.out
      have hnc144 := NB516_484.out
      obtain ⟨hcz145_0, hcz145_1, hcz145_2, hcz145_3, hfz145_0, hfz145_1, hfz145_2, hfz145_3⟩ := bc4_ BK484.out
      go_wp2_with (first | (go_at_call 18; (with_reducible refine (impl_IsRollout.calls kj52 t477 _ _ t478 t481 false false _ ?side1 ?side2 A140.out).mono ?_); (case side1 => refine (Kd.R_reads' (e := 3) (base := w.heap.size) (ok := fun k_ => ((some k_ ≠ (.slice Ao27 t488.length co27 : Value).ownBlock ∧ some k_ ≠ (.slice Ao61 t499.length co61 : Value).ownBlock) ∧ some k_ ≠ (.slice Ao101 t510.length co101 : Value).ownBlock)) (n := t478.length) (c := co9) ?_).2.2; exact (pr_ (rf4_ HO_485001.out BK516.out))); (case side2 => exact (Kd.R_reads' HO_485001.out).2.1); rintro e w146 ⟨rfl, hb⟩; have n0_ := Aside0.mk (Kd.R_below (pr_ (rf4_ HO_485001.out BK516.out)) hb); have n1_ := Aside0.mk (Kd.R_below (pr_ (rf4_ HO_495001.out BK516.out)) hb); have n2_ := Aside0.mk (Kd.R_below (pr_ (rf4_ HO_506001.out BK516.out)) hb); have n3_ := Aside0.mk (Kd.R_below (pr_ (rf4_ HO512.out BK516.out)) hb); have n4_ := Aside0.mk (blk_below (g := gb484) (o := .cells #[.int .i64 t477, .slice Ao9 t478.length co9, .int .i64 t481, .bool false] 27 (0, 0)) (pp_ BK484.out) hb); have n5_ := Aside0.mk (blk_below (g := gb494) (o := .cells #[.int .i64 t487, .slice Ao27 t488.length co27, .int .i64 t491, .bool t492] 27 (0, 0)) (pp_ BK494.out) hb); have n6_ := Aside0.mk (blk_below (g := gb505) (o := .cells #[.int .i64 t498, .slice Ao61 t499.length co61, .int .i64 t502, .bool t503] 27 (0, 0)) (pp_ BK505.out) hb); have n7_ := Aside0.mk (blk_below (g := gb516) (o := .cells #[.int .i64 t509, .slice Ao101 t510.length co101, .int .i64 t513, .bool t514] 27 (0, 0)) (pp_ BK516.out) hb); have n8_ := Aside0.mk (below_step (pb4_ HB.out GE484.out GE494.out GE505.out GE516.out) hb); clear HO_485001; clear HO_495001; clear HO_506001; clear HO512; clear BK484; clear BK494; clear BK505; clear BK516; clear HB; have HO_485001 := n0_; have HO_495001 := n1_; have HO_506001 := n2_; have HO512 := n3_; have BK484 := n4_; have BK494 := n5_; have BK505 := n6_; have BK516 := n7_; have HB := n8_; clear n0_ n1_ n2_ n3_ n4_ n5_ n6_ n7_ n8_; (try clear hb); (try clear hb2); (try clear hk); (try clear hi)))
      go_ret
      exact ⟨er_, pb4_ HB.out GE484.out GE494.out GE505.out GE516.out⟩
    subst c141
    rw [if_pos rfl] at H
    by_cases c147 : t483 < 0
    · rw [if_pos c147] at H
      have c147b0 : decide (t483 < 0) = true := decide_eq_true c147
      clear c147
      obtain rfl := Option.some.inj H
      have hnb148 := NB484_494.out
      have hnc148 := NB494_484.out
      have hnb149 := NB484_505.out
      have hnc149 := NB505_484.out
      have hnb150 := NB484_516.out
      have hnc150 := NB516_484.out
      obtain ⟨hcz151_0, hcz151_1, hcz151_2, hcz151_3, hfz151_0, hfz151_1, hfz151_2, hfz151_3⟩ := bc4_ BK484.out
      go_wp2_with (first | (go_at_call 18; (with_reducible refine (impl_IsRollout.calls kj52 t477 _ _ t478 t481 false true _ ?side1 ?side2 A140.out).mono ?_); (case side1 => refine (Kd.R_reads' (e := 3) (base := w.heap.size) (ok := fun k_ => ((some k_ ≠ (.slice Ao27 t488.length co27 : Value).ownBlock ∧ some k_ ≠ (.slice Ao61 t499.length co61 : Value).ownBlock) ∧ some k_ ≠ (.slice Ao101 t510.length co101 : Value).ownBlock)) (n := t478.length) (c := co9) ?_).2.2; exact (pr_ (rf4_ HO_485001.out BK516.out))); (case side2 => exact (Kd.R_reads' HO_485001.out).2.1); rintro e w152 ⟨rfl, hb⟩; have n0_ := Aside0.mk (Kd.R_below (pr_ (rf4_ HO_485001.out BK516.out)) hb); have n1_ := Aside0.mk (Kd.R_below (pr_ (rf4_ HO_495001.out BK516.out)) hb); have n2_ := Aside0.mk (Kd.R_below (pr_ (rf4_ HO_506001.out BK516.out)) hb); have n3_ := Aside0.mk (Kd.R_below (pr_ (rf4_ HO512.out BK516.out)) hb); have n4_ := Aside0.mk (blk_below (g := gb484) (o := .cells #[.int .i64 t477, .slice Ao9 t478.length co9, .int .i64 t481, .bool false] 27 (0, 0)) (pp_ BK484.out) hb); have n5_ := Aside0.mk (blk_below (g := gb494) (o := .cells #[.int .i64 t487, .slice Ao27 t488.length co27, .int .i64 t491, .bool t492] 27 (0, 0)) (pp_ BK494.out) hb); have n6_ := Aside0.mk (blk_below (g := gb505) (o := .cells #[.int .i64 t498, .slice Ao61 t499.length co61, .int .i64 t502, .bool t503] 27 (0, 0)) (pp_ BK505.out) hb); have n7_ := Aside0.mk (blk_below (g := gb516) (o := .cells #[.int .i64 t509, .slice Ao101 t510.length co101, .int .i64 t513, .bool t514] 27 (0, 0)) (pp_ BK516.out) hb); have n8_ := Aside0.mk (below_step (pb4_ HB.out GE484.out GE494.out GE505.out GE516.out) hb); clear HO_485001; clear HO_495001; clear HO_506001; clear HO512; clear BK484; clear BK494; clear BK505; clear BK516; clear HB; have HO_485001 := n0_; have HO_495001 := n1_; have HO_506001 := n2_; have HO512 := n3_; have BK484 := n4_; have BK494 := n5_; have BK505 := n6_; have BK516 := n7_; have HB := n8_; clear n0_ n1_ n2_ n3_ n4_ n5_ n6_ n7_ n8_; (try clear hb); (try clear hb2); (try clear hk); (try clear hi)))
      go_ret
      exact ⟨er_, pb4_ HB.out GE484.out GE494.out GE505.out GE516.out⟩
    rw [if_neg c147] at H
    have c147b0 : decide (t483 < 0) = false := decide_eq_false c147
    clear c147
    by_cases c153 : t483 > 10000
    rotate_left
    · rw [if_neg c153] at H
      have c153b0 : decide (10000 < t483) = false := decide_eq_false c153
      clear c153
      obtain rfl := Option.some.inj H
      have hnb154 := NB484_494.out
      have hnc154 := NB494_484.out
      have hnb155 := NB484_505.out
      have hnc155 := NB505_484.out
      have hnb156 := NB484_516.out
      have hnc156 := NB516_484.out
      obtain ⟨hcz157_0, hcz157_1, hcz157_2, hcz157_3, hfz157_0, hfz157_1, hfz157_2, hfz157_3⟩ := bc4_ BK484.out
      go_wp2_with (first | (go_at_call 18; (with_reducible refine (impl_IsRollout.calls kj52 t477 _ _ t478 t481 false true _ ?side1 ?side2 A140.out).mono ?_); (case side1 => refine (Kd.R_reads' (e := 3) (base := w.heap.size) (ok := fun k_ => ((some k_ ≠ (.slice Ao27 t488.length co27 : Value).ownBlock ∧ some k_ ≠ (.slice Ao61 t499.length co61 : Value).ownBlock) ∧ some k_ ≠ (.slice Ao101 t510.length co101 : Value).ownBlock)) (n := t478.length) (c := co9) ?_).2.2; exact (pr_ (rf4_ HO_485001.out BK516.out))); (case side2 => exact (Kd.R_reads' HO_485001.out).2.1); rintro e w158 ⟨rfl, hb⟩; have n0_ := Aside0.mk (Kd.R_below (pr_ (rf4_ HO_485001.out BK516.out)) hb); have n1_ := Aside0.mk (Kd.R_below (pr_ (rf4_ HO_495001.out BK516.out)) hb); have n2_ := Aside0.mk (Kd.R_below (pr_ (rf4_ HO_506001.out BK516.out)) hb); have n3_ := Aside0.mk (Kd.R_below (pr_ (rf4_ HO512.out BK516.out)) hb); have n4_ := Aside0.mk (blk_below (g := gb484) (o := .cells #[.int .i64 t477, .slice Ao9 t478.length co9, .int .i64 t481, .bool false] 27 (0, 0)) (pp_ BK484.out) hb); have n5_ := Aside0.mk (blk_below (g := gb494) (o := .cells #[.int .i64 t487, .slice Ao27 t488.length co27, .int .i64 t491, .bool t492] 27 (0, 0)) (pp_ BK494.out) hb); have n6_ := Aside0.mk (blk_below (g := gb505) (o := .cells #[.int .i64 t498, .slice Ao61 t499.length co61, .int .i64 t502, .bool t503] 27 (0, 0)) (pp_ BK505.out) hb); have n7_ := Aside0.mk (blk_below (g := gb516) (o := .cells #[.int .i64 t509, .slice Ao101 t510.length co101, .int .i64 t513, .bool t514] 27 (0, 0)) (pp_ BK516.out) hb); have n8_ := Aside0.mk (below_step (pb4_ HB.out GE484.out GE494.out GE505.out GE516.out) hb); clear HO_485001; clear HO_495001; clear HO_506001; clear HO512; clear BK484; clear BK494; clear BK505; clear BK516; clear HB; have HO_485001 := n0_; have HO_495001 := n1_; have HO_506001 := n2_; have HO512 := n3_; have BK484 := n4_; have BK494 := n5_; have BK505 := n6_; have BK516 := n7_; have HB := n8_; clear n0_ n1_ n2_ n3_ n4_ n5_ n6_ n7_ n8_; (try clear hb); (try clear hb2); (try clear hk); (try clear hi)))
      go_ret
      exact ⟨er_, pb4_ HB.out GE484.out GE494.out GE505.out GE516.out⟩
    rw [if_pos c153] at H
    have c153b0 : decide (10000 < t483) = true := decide_eq_true c153
    clear c153
    obtain rfl := Option.some.inj H
    have hnb159 := NB484_494.out
    have hnc159 := NB494_484.out
    have hnb160 := NB484_505.out
    have hnc160 := NB505_484.out
    have hnb161 := NB484_516.out
    have hnc161 := NB516_484.out
    obtain ⟨hcz162_0, hcz162_1, hcz162_2, hcz162_3, hfz162_0, hfz162_1, hfz162_2, hfz162_3⟩ := bc4_ BK484.out
    go_wp2_with (first | (go_at_call 18; (with_reducible refine (impl_IsRollout.calls kj52 t477 _ _ t478 t481 false true _ ?side1 ?side2 A140.out).mono ?_); (case side1 => refine (Kd.R_reads' (e := 3) (base := w.heap.size) (ok := fun k_ => ((some k_ ≠ (.slice Ao27 t488.length co27 : Value).ownBlock ∧ some k_ ≠ (.slice Ao61 t499.length co61 : Value).ownBlock) ∧ some k_ ≠ (.slice Ao101 t510.length co101 : Value).ownBlock)) (n := t478.length) (c := co9) ?_).2.2; exact (pr_ (rf4_ HO_485001.out BK516.out))); (case side2 => exact (Kd.R_reads' HO_485001.out).2.1); rintro e w163 ⟨rfl, hb⟩; have n0_ := Aside0.mk (Kd.R_below (pr_ (rf4_ HO_485001.out BK516.out)) hb); have n1_ := Aside0.mk (Kd.R_below (pr_ (rf4_ HO_495001.out BK516.out)) hb); have n2_ := Aside0.mk (Kd.R_below (pr_ (rf4_ HO_506001.out BK516.out)) hb); have n3_ := Aside0.mk (Kd.R_below (pr_ (rf4_ HO512.out BK516.out)) hb); have n4_ := Aside0.mk (blk_below (g := gb484) (o := .cells #[.int .i64 t477, .slice Ao9 t478.length co9, .int .i64 t481, .bool false] 27 (0, 0)) (pp_ BK484.out) hb); have n5_ := Aside0.mk (blk_below (g := gb494) (o := .cells #[.int .i64 t487, .slice Ao27 t488.length co27, .int .i64 t491, .bool t492] 27 (0, 0)) (pp_ BK494.out) hb); have n6_ := Aside0.mk (blk_below (g := gb505) (o := .cells #[.int .i64 t498, .slice Ao61 t499.length co61, .int .i64 t502, .bool t503] 27 (0, 0)) (pp_ BK505.out) hb); have n7_ := Aside0.mk (blk_below (g := gb516) (o := .cells #[.int .i64 t509, .slice Ao101 t510.length co101, .int .i64 t513, .bool t514] 27 (0, 0)) (pp_ BK516.out) hb); have n8_ := Aside0.mk (below_step (pb4_ HB.out GE484.out GE494.out GE505.out GE516.out) hb); clear HO_485001; clear HO_495001; clear HO_506001; clear HO512; clear BK484; clear BK494; clear BK505; clear BK516; clear HB; have HO_485001 := n0_; have HO_495001 := n1_; have HO_506001 := n2_; have HO512 := n3_; have BK484 := n4_; have BK494 := n5_; have BK505 := n6_; have BK516 := n7_; have HB := n8_; clear n0_ n1_ n2_ n3_ n4_ n5_ n6_ n7_ n8_; (try clear hb); (try clear hb2); (try clear hk); (try clear hi)))
    go_ret
    exact ⟨er_, pb4_ HB.out GE484.out GE494.out GE505.out GE516.out⟩
  subst c13
  rw [if_pos rfl] at H
  replace H := Option.bind_eq_some_iff.mp H
  obtain ⟨t486, A1640, H⟩ := H
  (try dsimp only at H)
  have A164 := Aside0.mk A1640
  clear A1640
  have HS_ := Aside0.mk H
  clear H
  obtain ⟨hcz165_0, hcz165_1, hcz165_2, hcz165_3, hfz165_0, hfz165_1, hfz165_2, hfz165_3⟩ := bc4_ BK484.out
  go_upto_if 36 with (first | ((with_reducible refine gate_callee (f := 25) rfl ?_); refine goesL_ (some 36) rfl rfl Try.func25 (by kernel_rfl) rfl #[.agg #[.int .i64 t477, .slice Ao9 t478.length co9, .int .i64 t481, .bool t482], .int .i64 x7_1, .int .i64 t483] rfl mp_ ?_; (with_reducible refine (impl_IsIn.calls kj10 t477 _ _ t478 t481 t482 x7_1 t483 t486 _ ?side1 ?side2 A164.out).mono ?_); (case side1 => exact pc_ ((Kd.R_reads' HO_485001.out).2.2)); (case side2 => exact (Kd.R_reads' HO_485001.out).2.1); rintro e w166 ⟨rfl, hb⟩; refine ⟨_, rfl, ?_⟩; have n0_ := Aside0.mk (Kd.R_below (pr_ HO_485001.out) hb); have n1_ := Aside0.mk (bb_ BK484.out hb); have n2_ := Aside0.mk (below_step (pb1_ HB.out GE484.out) hb); clear HO_485001; clear BK484; clear HB; have HO_485001 := n0_; have BK484 := n1_; have HB := n2_; clear n0_ n1_ n2_; (try clear hb); (try clear hb2); (try clear hk); (try clear hi)))
  (try simp only [Act.put, List.setIfInBounds_toArray, List.set_cons_zero, List.set_cons_succ])
  have H := HS_.out
  clear HS_
  by_cases c167 : t486 = true
  rotate_left
  · replace c167 := Bool.eq_false_iff.mpr c167
    subst c167
    rw [if_neg (show ¬ (false = true) by decide)] at H
    have H' := Aside0.mk H
    clear H
    go_wp2
    go_roundg kj10
    case measure => have := HK1.out; have := HJ10.out; omega
    case rel => exact ⟨(x6_1), (wrap64 (x7_1 + 1)), el_, el_, H', ⟨by have := HK1.out; have := HJ10.out; omega⟩, ⟨pr_ HO_485001.out⟩, ⟨pk_ BK484.out⟩, ⟨pb1_ HB.out GE484.out⟩⟩
  subst c167
  rw [if_pos rfl] at H
  have H' := Aside0.mk H
  clear H
  go_wp2
  go_roundg kj10
  case measure => have := HK1.out; have := HJ10.out; omega
  case rel => exact ⟨(wrap64 (x6_1 + 1)), (wrap64 (x7_1 + 1)), el_, el_, H', ⟨by have := HK1.out; have := HJ10.out; omega⟩, ⟨pr_ HO_485001.out⟩, ⟨pk_ BK484.out⟩, ⟨pb1_ HB.out GE484.out⟩⟩

/-- THE ONE PURE STATEMENT of laws_FnRollouts: yours. -/
def laws_FnRollouts.Pure : Prop := ∀ (l0 : List Int), l0.length ≤ maxLen → l0.length * 1 ≤ 140737488351232 → (∀ x ∈ l0, (Lit.int .u8 x).wf = true) → ∃ k, laws_FnRollouts.f k l0 = some true
theorem laws_FnRollouts.walk (P : laws_FnRollouts.Pure) (a0 : Option Addr) (len0 cap0 : Nat) (z0 : List Int) (w : World) (w0 : (a0 = none ∧ len0 = 0 ∧ cap0 = 0 ∧ z0 = []) ∨ ∃ x, a0 = some x ∧ len0 ≤ cap0 ∧ cap0 ≤ maxLen ∧ z0.length = cap0 ∧ (∀ i, i < z0.length → w.cell? (x.add i) = some (.int .u8 (z0.getD i 0))) ∧ ∀ n ∈ z0, (Lit.int .u8 n).wf = true) (y0 : len0 * 1 ≤ 140737488351232) :
    Calls Try.prog 9 #[.slice a0 len0 cap0] w fun e w' => e = .returned (.bool true) ∧ Below w.heap.size w w' := by
  obtain ⟨l0, rfl, hr0, hm0, hw0, hc0⟩ := ReadsInt.ofRowC w0
  obtain ⟨k, h⟩ := P l0 hm0 y0 hw0
  refine (laws_FnRollouts.calls k _ _ l0 true w (Kd.C_of_reads (d := (0 : Int)) (h1 := fun _ => rfl) hr0) hc0 h).mono ?_
  rintro e w' ⟨rfl, hd⟩
  exact ⟨rfl, hd⟩

end Go.Proofs.Ytlcmkgbabffmeaa.Print
