-- Written by a program of this session (printx.py) out of the translation; Lean checks it.
import Derived.Test.YtdoefkloanpliaaPrint0
import Derived.Test.YtdoefkloanpliaaPrint2
import Derived.Test.YtdoefkloanpliaaPrint3
import Derived.Test.YtdoefkloanpliaaPrint4
import Derived.Test.YtdoefkloanpliaaPrint5
import Derived.Test.YtdoefkloanpliaaPrint8
import Derived.Test.YtdoefkloanpliaaPrint9
namespace Go.Proofs.Ytdoefkloanpliaa.Print
open Go.RowKit Go.Proofs.YtdoefkloanpliaaW.PrintWords Go.Proofs.YtdoefkloanpliaaW.PrintLast Go.Proofs.YtdoefkloanpliaaW.PrintMore Go.Proofs.Ytdoefkloanpliaa.Short
attribute [local go_sem] max2_int min2_int max_two min_two max_three min_three max_four min_four   -- for this text's walks alone
set_option linter.unusedVariables false
set_option linter.unusedSimpArgs false

/-! ### laws_FnRetired: function 8 -/
mutual
def laws_FnRetired.j0 : Nat → List Int → List (List Int) → Int → List Int → Bool → Bool → Option (Bool)
  | 0, _, _, _, _, _, _ => none
  | k + 1, x3, x4, x5, x7, x8, x45 => if x45 = true then (some false) else (if x8 = true then ((laws_contains.f k x7 x5).bind fun t511 => (if t511 = true then (laws_FnRetired.j1 k x3 x4 x5 true) else ((impl_AreVersions.f k x7).bind fun t512 => (if t512 = true then ((impl_AllReach.f k x3 x4).bind fun t513 => (if t513 = true then ((impl_AllReach.f k x7 x4).bind fun t514 => (laws_FnRetired.j1 k x3 x4 x5 (!t514))) else (laws_FnRetired.j1 k x3 x4 x5 false))) else (laws_FnRetired.j1 k x3 x4 x5 true))))) else (laws_FnRetired.j1 k x3 x4 x5 false))
def laws_FnRetired.j1 : Nat → List Int → List (List Int) → Int → Bool → Option (Bool)
  | 0, _, _, _, _ => none
  | k + 1, x3, x4, x5, x67 => if x67 = true then (some false) else ((impl_Stranded.f k x3 x4 x5).bind fun t515 => (laws_FnRetired.l0 k x3 x4 x5 t515 0 1))
def laws_FnRetired.l0 : Nat → List Int → List (List Int) → Int → List Int → Int → Int → Option (Bool)
  | 0, _, _, _, _, _, _ => none
  | k + 1, x3, x4, x5, x9, x10, x11 => if x11 ≤ 9 then ((impl_UseOf.f k x3 x4 x11).bind fun t518 => (laws_FnRetired.l0 k x3 x4 x5 x9 (wrap64 (x10 + t518)) (wrap64 (x11 + 1)))) else ((impl_UseOf.f k x3 x4 x5).bind fun t519 => (if (x9.length : Int) ≤ t519 then (if x10 ≤ (x4.length : Int) then ((impl_AllReach.f k x3 x4).bind fun t520 => ((impl_AreVersions.f k x3).bind fun t521 => (if t521 = true then (some (t520 == (x10 == (x4.length : Int)))) else (some (t520 == false))))) else (some false)) else (some false)))
end
def laws_FnRetired.f (k : Nat) (l0 : List Int) : Option (Bool) := (laws_big.f l0).bind fun t496 => (if t496 = true then (some true) else ((spec_DrawRetireVersion.f k l0).bind fun bt497 => ((impl_RetireVersion.f k bt497.1 bt497.2.1 bt497.2.2.1 bt497.2.2.2).bind fun bt505 => ((impl_MayRetire.f k bt497.1 bt497.2.1 bt497.2.2.1 bt497.2.2.2).bind fun t509 => (if (bt505.2 != t509) = true then (laws_FnRetired.j0 k bt497.1 bt497.2.1 bt497.2.2.1 bt505.1 bt505.2 true) else (if bt505.2 = true then (laws_FnRetired.j0 k bt497.1 bt497.2.1 bt497.2.2.1 bt505.1 bt505.2 false) else ((impl_EqualInts.f k bt505.1 bt497.1).bind fun t510 => (laws_FnRetired.j0 k bt497.1 bt497.2.1 bt497.2.2.1 bt505.1 bt505.2 (!t510)))))))))
theorem laws_FnRetired.mono_l : ∀ k, (∀ y0 y1 y2 y3 y4 y5, LeO (laws_FnRetired.j0 k y0 y1 y2 y3 y4 y5) (laws_FnRetired.j0 (k + 1) y0 y1 y2 y3 y4 y5)) ∧ (∀ y0 y1 y2 y3, LeO (laws_FnRetired.j1 k y0 y1 y2 y3) (laws_FnRetired.j1 (k + 1) y0 y1 y2 y3)) ∧ (∀ y0 y1 y2 y3 y4 y5, LeO (laws_FnRetired.l0 k y0 y1 y2 y3 y4 y5) (laws_FnRetired.l0 (k + 1) y0 y1 y2 y3 y4 y5))
  | 0 => ⟨fun _ _ _ _ _ _ r h => by simp [laws_FnRetired.j0] at h, fun _ _ _ _ r h => by simp [laws_FnRetired.j1] at h, fun _ _ _ _ _ _ r h => by simp [laws_FnRetired.l0] at h⟩
  | k + 1 => by
    obtain ⟨ih0, ih1, ih2⟩ := laws_FnRetired.mono_l k
    refine ⟨?_, ?_, ?_⟩
    · intro y0 y1 y2 y3 y4 y5
      unfold laws_FnRetired.j0
      repeat' first
      | (with_reducible exact ih0 _ _ _ _ _ _)
      | (with_reducible exact ih1 _ _ _ _)
      | (with_reducible exact ih2 _ _ _ _ _ _)
      | (with_reducible exact impl_AllReach.mono _ _ _)
      | (with_reducible exact impl_AreVersions.mono _ _)
      | (with_reducible exact impl_EqualInts.mono _ _ _)
      | (with_reducible exact impl_MayRetire.mono _ _ _ _ _)
      | (with_reducible exact impl_RetireVersion.mono _ _ _ _ _)
      | (with_reducible exact impl_Stranded.mono _ _ _ _)
      | (with_reducible exact impl_UseOf.mono _ _ _ _)
      | (with_reducible exact laws_contains.mono _ _ _)
      | (with_reducible exact spec_DrawRetireVersion.mono _ _)
      | (with_reducible exact LeO.refl _)
      | (with_reducible exact LeO.none _)
      | (with_reducible refine LeO.ite ?_ ?_)
      | (with_reducible refine LeO.bind ?_ (fun _ => ?_))
      | exact ih0 _ _ _ _ _ _
      | exact ih1 _ _ _ _
      | exact ih2 _ _ _ _ _ _
      | exact impl_AllReach.mono _ _ _
      | exact impl_AreVersions.mono _ _
      | exact impl_EqualInts.mono _ _ _
      | exact impl_MayRetire.mono _ _ _ _ _
      | exact impl_RetireVersion.mono _ _ _ _ _
      | exact impl_Stranded.mono _ _ _ _
      | exact impl_UseOf.mono _ _ _ _
      | exact laws_contains.mono _ _ _
      | exact spec_DrawRetireVersion.mono _ _
      | exact LeO.none _
      | refine LeO.ite ?_ ?_
      | refine LeO.bind ?_ (fun _ => ?_)
    · intro y0 y1 y2 y3
      unfold laws_FnRetired.j1
      repeat' first
      | (with_reducible exact ih0 _ _ _ _ _ _)
      | (with_reducible exact ih1 _ _ _ _)
      | (with_reducible exact ih2 _ _ _ _ _ _)
      | (with_reducible exact impl_AllReach.mono _ _ _)
      | (with_reducible exact impl_AreVersions.mono _ _)
      | (with_reducible exact impl_EqualInts.mono _ _ _)
      | (with_reducible exact impl_MayRetire.mono _ _ _ _ _)
      | (with_reducible exact impl_RetireVersion.mono _ _ _ _ _)
      | (with_reducible exact impl_Stranded.mono _ _ _ _)
      | (with_reducible exact impl_UseOf.mono _ _ _ _)
      | (with_reducible exact laws_contains.mono _ _ _)
      | (with_reducible exact spec_DrawRetireVersion.mono _ _)
      | (with_reducible exact LeO.refl _)
      | (with_reducible exact LeO.none _)
      | (with_reducible refine LeO.ite ?_ ?_)
      | (with_reducible refine LeO.bind ?_ (fun _ => ?_))
      | exact ih0 _ _ _ _ _ _
      | exact ih1 _ _ _ _
      | exact ih2 _ _ _ _ _ _
      | exact impl_AllReach.mono _ _ _
      | exact impl_AreVersions.mono _ _
      | exact impl_EqualInts.mono _ _ _
      | exact impl_MayRetire.mono _ _ _ _ _
      | exact impl_RetireVersion.mono _ _ _ _ _
      | exact impl_Stranded.mono _ _ _ _
      | exact impl_UseOf.mono _ _ _ _
      | exact laws_contains.mono _ _ _
      | exact spec_DrawRetireVersion.mono _ _
      | exact LeO.none _
      | refine LeO.ite ?_ ?_
      | refine LeO.bind ?_ (fun _ => ?_)
    · intro y0 y1 y2 y3 y4 y5
      unfold laws_FnRetired.l0
      repeat' first
      | (with_reducible exact ih0 _ _ _ _ _ _)
      | (with_reducible exact ih1 _ _ _ _)
      | (with_reducible exact ih2 _ _ _ _ _ _)
      | (with_reducible exact impl_AllReach.mono _ _ _)
      | (with_reducible exact impl_AreVersions.mono _ _)
      | (with_reducible exact impl_EqualInts.mono _ _ _)
      | (with_reducible exact impl_MayRetire.mono _ _ _ _ _)
      | (with_reducible exact impl_RetireVersion.mono _ _ _ _ _)
      | (with_reducible exact impl_Stranded.mono _ _ _ _)
      | (with_reducible exact impl_UseOf.mono _ _ _ _)
      | (with_reducible exact laws_contains.mono _ _ _)
      | (with_reducible exact spec_DrawRetireVersion.mono _ _)
      | (with_reducible exact LeO.refl _)
      | (with_reducible exact LeO.none _)
      | (with_reducible refine LeO.ite ?_ ?_)
      | (with_reducible refine LeO.bind ?_ (fun _ => ?_))
      | exact ih0 _ _ _ _ _ _
      | exact ih1 _ _ _ _
      | exact ih2 _ _ _ _ _ _
      | exact impl_AllReach.mono _ _ _
      | exact impl_AreVersions.mono _ _
      | exact impl_EqualInts.mono _ _ _
      | exact impl_MayRetire.mono _ _ _ _ _
      | exact impl_RetireVersion.mono _ _ _ _ _
      | exact impl_Stranded.mono _ _ _ _
      | exact impl_UseOf.mono _ _ _ _
      | exact laws_contains.mono _ _ _
      | exact spec_DrawRetireVersion.mono _ _
      | exact LeO.none _
      | refine LeO.ite ?_ ?_
      | refine LeO.bind ?_ (fun _ => ?_)
theorem laws_FnRetired.mono : ∀ a0 k, LeO (laws_FnRetired.f k a0) (laws_FnRetired.f (k + 1) a0) := by
  intro a0 k
  obtain ⟨ih0, ih1, ih2⟩ := laws_FnRetired.mono_l k
  unfold laws_FnRetired.f
  repeat' first
      | (with_reducible exact ih0 _ _ _ _ _ _)
      | (with_reducible exact ih1 _ _ _ _)
      | (with_reducible exact ih2 _ _ _ _ _ _)
      | (with_reducible exact impl_AllReach.mono _ _ _)
      | (with_reducible exact impl_AreVersions.mono _ _)
      | (with_reducible exact impl_EqualInts.mono _ _ _)
      | (with_reducible exact impl_MayRetire.mono _ _ _ _ _)
      | (with_reducible exact impl_RetireVersion.mono _ _ _ _ _)
      | (with_reducible exact impl_Stranded.mono _ _ _ _)
      | (with_reducible exact impl_UseOf.mono _ _ _ _)
      | (with_reducible exact laws_contains.mono _ _ _)
      | (with_reducible exact spec_DrawRetireVersion.mono _ _)
      | (with_reducible exact LeO.refl _)
      | (with_reducible exact LeO.none _)
      | (with_reducible refine LeO.ite ?_ ?_)
      | (with_reducible refine LeO.bind ?_ (fun _ => ?_))
      | exact ih0 _ _ _ _ _ _
      | exact ih1 _ _ _ _
      | exact ih2 _ _ _ _ _ _
      | exact impl_AllReach.mono _ _ _
      | exact impl_AreVersions.mono _ _
      | exact impl_EqualInts.mono _ _ _
      | exact impl_MayRetire.mono _ _ _ _ _
      | exact impl_RetireVersion.mono _ _ _ _ _
      | exact impl_Stranded.mono _ _ _ _
      | exact impl_UseOf.mono _ _ _ _
      | exact laws_contains.mono _ _ _
      | exact spec_DrawRetireVersion.mono _ _
      | exact LeO.none _
      | refine LeO.ite ?_ ?_
      | refine LeO.bind ?_ (fun _ => ?_)
set_option maxHeartbeats 8000000 in
set_option maxRecDepth 100000 in
theorem laws_FnRetired.calls (k : Nat) (A0 : Option Addr) (c0 : Nat) (l0 : List Int) (r : Bool) (w : World) (hr0 : Kd.C (Kd.int .u8) w A0 l0.length l0) (hc0 : l0.length ≤ c0) (h : laws_FnRetired.f k l0 = some r) :
    Calls Try.prog 8 #[.slice A0 l0.length c0] w fun e w' => e = .returned (.bool r) ∧ Below w.heap.size w w' := by
  have HR0 := Aside0.mk hr0
  have HC0 := Aside0.mk hc0
  clear hr0 hc0
  have HB := Aside0.mk (Below.refl w.heap.size w)
  have H : ((laws_big.f l0).bind fun t496 => (if t496 = true then (some true) else ((spec_DrawRetireVersion.f k l0).bind fun bt497 => ((impl_RetireVersion.f k bt497.1 bt497.2.1 bt497.2.2.1 bt497.2.2.2).bind fun bt505 => ((impl_MayRetire.f k bt497.1 bt497.2.1 bt497.2.2.1 bt497.2.2.2).bind fun t509 => (if (bt505.2 != t509) = true then (laws_FnRetired.j0 k bt497.1 bt497.2.1 bt497.2.2.1 bt505.1 bt505.2 true) else (if bt505.2 = true then (laws_FnRetired.j0 k bt497.1 bt497.2.1 bt497.2.2.1 bt505.1 bt505.2 false) else ((impl_EqualInts.f k bt505.1 bt497.1).bind fun t510 => (laws_FnRetired.j0 k bt497.1 bt497.2.1 bt497.2.2.1 bt505.1 bt505.2 (!t510)))))))))) = some r := h
  clear h
  replace H := Option.bind_eq_some_iff.mp H
  obtain ⟨t496, A20, H⟩ := H
  (try dsimp only at H)
  have A2 := Aside0.mk A20
  clear A20
  have HS_ := Aside0.mk H
  clear H
  go_enter Try.func8, Try.ntmps8
  go_upto_if 13 with (first | ((with_reducible refine gate_callee (f := 33) rfl ?_); refine goesL_ (some 13) rfl rfl Try.func33 (by kernel_rfl) rfl #[.slice A0 l0.length c0] rfl mp_ ?_; (with_reducible refine (laws_big.calls _ _ l0 t496 _ ?side1 ?side2 A2.out).mono ?_); (case side1 => exact pc_ HR0.out); (case side2 => exact HC0.out); rintro e w' ⟨rfl, ⟨nd, rfl⟩⟩; refine ⟨_, rfl, ?_⟩))
  (try simp only [Act.put, List.setIfInBounds_toArray, List.set_cons_zero, List.set_cons_succ])
  have H := HS_.out
  clear HS_
  by_cases c3 : t496 = true
  · subst c3
    rw [if_pos rfl] at H
    obtain rfl := Option.some.inj H
    go_wp2
    go_ret
    exact ⟨er_, pb_ HB.out⟩
  replace c3 := Bool.eq_false_iff.mpr c3
  subst c3
  rw [if_neg (show ¬ (false = true) by decide)] at H
  replace H := Option.bind_eq_some_iff.mp H
  obtain ⟨⟨t497, t498, t499, t500⟩, A40, H⟩ := H
  (try dsimp only at H)
  have A4 := Aside0.mk A40
  clear A40
  replace H := Option.bind_eq_some_iff.mp H
  obtain ⟨⟨t505, t506⟩, A50, H⟩ := H
  (try dsimp only at H)
  have A5 := Aside0.mk A50
  clear A50
  have HC6 := Aside0.mk H
  clear H
  go_upto_region 5 with (first | ((with_reducible refine gate_callee (f := 34) rfl ?_); refine goesL_ (some 16) rfl rfl Try.func34 (by kernel_rfl) rfl #[.slice A0 l0.length c0] rfl mp_ ?_; (with_reducible refine (spec_DrawRetireVersion.calls k _ _ l0 t497 t498 t499 t500 _ ?side1 ?side2 A4.out).mono ?_); (case side1 => exact pc_ (Kd.C_below HR0.out HB.out)); (case side2 => exact HC0.out); rintro e w7 ⟨v501, v503, rfl, ho0, ho1, hb⟩; refine ⟨_, rfl, ?_⟩; have n0_ := Aside0.mk (Kd.R_lower ho0 (below_size (pb_ HB.out))); have n1_ := Aside0.mk (Kd.S_lower ho1 (below_size (pb_ HB.out))); have n2_ := Aside0.mk (below_step (pb_ HB.out) hb); clear HB; have HO502 := n0_; have HO504 := n1_; have HB := n2_; clear n0_ n1_ n2_; (try clear hb); (try clear hb2); (try clear hk); (try clear hi); (try clear ho0); (try clear ho1); obtain ⟨Ao8, co8, eo8⟩ := Kd.R_slice HO502.out; subst eo8; obtain ⟨Ao9, co9, eo9⟩ := Kd.S_slice HO504.out; subst eo9) | ((with_reducible refine gate_callee (f := 32) rfl ?_); refine goesL_ (some 26) rfl rfl Try.func32 (by kernel_rfl) rfl #[.slice Ao8 t497.length co8, .slice Ao9 t498.length co9, .int .i64 t499, .int .i64 t500] rfl mp_ ?_; (with_reducible refine (impl_RetireVersion.calls k _ _ t497 _ _ t498 t499 t500 t505 t506 _ ?side1 ?side2 ?side3 ?side4 A5.out).mono ?_); (case side1 => exact pc_ ((Kd.R_reads' HO502.out).2.2)); (case side2 => exact (Kd.R_reads' HO502.out).2.1); (case side3 => exact pc_ ((Kd.S_reads' HO504.out).2.2)); (case side4 => exact (Kd.S_reads' HO504.out).2.1); rintro e w10 ⟨v507, rfl, ho0, hb⟩; refine ⟨_, rfl, ?_⟩; have n0_ := Aside0.mk (Kd.R_elder' (pr_ HO502.out) (Kd.R_base ho0) hb); have n1_ := Aside0.mk (Kd.S_elder' (ps_ HO504.out) (Kd.R_base ho0) hb); have n2_ := Aside0.mk (Kd.R_lower (Kd.R_new' ho0 (Kd.R_lt (pr_ HO502.out))) (below_size (pb_ HB.out))); have n3_ := Aside0.mk (below_step (pb_ HB.out) hb); clear HO502; clear HO504; clear HB; have HO502 := n0_; have HO504 := n1_; have HO508 := n2_; have HB := n3_; clear n0_ n1_ n2_ n3_; (try clear hb); (try clear hb2); (try clear hk); (try clear hi); (try clear ho0)))
  (try simp only [Act.put, List.setIfInBounds_toArray, List.set_cons_zero, List.set_cons_succ])
  go_cut [45] (fun v45 wc => ∃ (kq : Nat) (x45_5 : Bool), v45 = .bool x45_5 ∧ Aside0 (laws_FnRetired.j0 kq t497 t498 t499 t505 t506 x45_5 = some r) ∧ Aside0 (kq ≤ k) ∧ Aside0 (Kd.R (Kd.int .i64) 3 wc w.heap.size (fun k_ => some k_ ≠ (v507 : Value).ownBlock) (.slice Ao8 t497.length co8) t497) ∧ Aside0 (Kd.S (Kd.slice 3 (Kd.int .i64)) 22 wc w.heap.size (fun k_ => some k_ ≠ ((.slice Ao8 t497.length co8) : Value).ownBlock ∧ some k_ ≠ (v507 : Value).ownBlock) (.slice Ao9 t498.length co9) t498) ∧ Aside0 (Kd.R (Kd.int .i64) 3 wc w.heap.size (fun k_ => some k_ ≠ ((.slice Ao8 t497.length co8) : Value).ownBlock) v507 t505) ∧ Aside0 (Below w.heap.size w wc))
  case first =>
    have H := HC6.out
    clear HC6
    replace H := Option.bind_eq_some_iff.mp H
    obtain ⟨t509, A110, H⟩ := H
    (try dsimp only at H)
    have A11 := Aside0.mk A110
    clear A110
    by_cases c12 : (t506 != t509) = true
    · rw [if_pos c12] at H
      have c12b0 : (t506 != t509) = true := c12
      (try (have c12b1 : decide (t506 = t509) = false := by simpa using c12))
      (try (have c12b2 : (t506 == t509) = false := by simpa using c12))
      (try (have c12b3 : ¬ (t506 = t509) := by simpa using c12))
      clear c12
      (first | rw [c12b0] | (simp only [i64_w, i32_w]; rw [c12b0]) | (have c_ := c12b0; rw [bne] at c_; rw [c_]; clear c_) | rw [c12b1] | rw [c12b2] | skip)
      have H' := Aside0.mk H
      clear H
      go_wp2_with (first | ((with_reducible refine gate_callee (f := 30) rfl ?_); refine goesL_ (some 34) rfl rfl Try.func30 (by kernel_rfl) rfl #[.slice Ao8 t497.length co8, .slice Ao9 t498.length co9, .int .i64 t499, .int .i64 t500] rfl mp_ ?_; (with_reducible refine (impl_MayRetire.calls k _ _ t497 _ _ t498 t499 t500 t509 _ ?side1 ?side2 ?side3 ?side4 A11.out).mono ?_); (case side1 => exact pc_ ((Kd.R_reads' HO502.out).2.2)); (case side2 => exact (Kd.R_reads' HO502.out).2.1); (case side3 => exact pc_ ((Kd.S_reads' HO504.out).2.2)); (case side4 => exact (Kd.S_reads' HO504.out).2.1); rintro e w13 ⟨rfl, hb⟩; refine ⟨_, rfl, ?_⟩; have n0_ := Aside0.mk (Kd.R_below (pr_ HO502.out) hb); have n1_ := Aside0.mk (Kd.S_below (ps_ HO504.out) hb); have n2_ := Aside0.mk (Kd.R_below (pr_ HO508.out) hb); have n3_ := Aside0.mk (below_step (pb_ HB.out) hb); clear HO502; clear HO504; clear HO508; clear HB; have HO502 := n0_; have HO504 := n1_; have HO508 := n2_; have HB := n3_; clear n0_ n1_ n2_ n3_; (try clear hb); (try clear hb2); (try clear hk); (try clear hi)))
      go_meet
      case rel => exact ⟨_, (true), el_, H', ⟨by first | omega | exact Nat.le_refl _⟩, ⟨pr_ (Kd.R_mono HO502.out (fun _ hk => hk.2))⟩, ⟨ps_ HO504.out⟩, ⟨pr_ (Kd.R_mono HO508.out (fun _ hk => hk.2))⟩, ⟨pb_ HB.out⟩⟩
    rw [if_neg c12] at H
    have c12b0 : (t506 != t509) = false := by simpa using c12
    (try (have c12b1 : decide (t506 = t509) = true := by simpa using c12))
    (try (have c12b2 : (t506 == t509) = true := by simpa using c12))
    clear c12
    (first | rw [c12b0] | (simp only [i64_w, i32_w]; rw [c12b0]) | (have c_ := c12b0; rw [bne] at c_; rw [c_]; clear c_) | rw [c12b1] | rw [c12b2] | skip)
    by_cases c14 : t506 = true
    · subst c14
      rw [if_pos rfl] at H
      have H' := Aside0.mk H
      clear H
      go_wp2_with (first | ((with_reducible refine gate_callee (f := 30) rfl ?_); refine goesL_ (some 34) rfl rfl Try.func30 (by kernel_rfl) rfl #[.slice Ao8 t497.length co8, .slice Ao9 t498.length co9, .int .i64 t499, .int .i64 t500] rfl mp_ ?_; (with_reducible refine (impl_MayRetire.calls k _ _ t497 _ _ t498 t499 t500 t509 _ ?side1 ?side2 ?side3 ?side4 A11.out).mono ?_); (case side1 => exact pc_ ((Kd.R_reads' HO502.out).2.2)); (case side2 => exact (Kd.R_reads' HO502.out).2.1); (case side3 => exact pc_ ((Kd.S_reads' HO504.out).2.2)); (case side4 => exact (Kd.S_reads' HO504.out).2.1); rintro e w15 ⟨rfl, hb⟩; refine ⟨_, rfl, ?_⟩; have n0_ := Aside0.mk (Kd.R_below (pr_ HO502.out) hb); have n1_ := Aside0.mk (Kd.S_below (ps_ HO504.out) hb); have n2_ := Aside0.mk (Kd.R_below (pr_ HO508.out) hb); have n3_ := Aside0.mk (below_step (pb_ HB.out) hb); clear HO502; clear HO504; clear HO508; clear HB; have HO502 := n0_; have HO504 := n1_; have HO508 := n2_; have HB := n3_; clear n0_ n1_ n2_ n3_; (try clear hb); (try clear hb2); (try clear hk); (try clear hi)))
      go_meet
      case rel => exact ⟨_, (false), el_, H', ⟨by first | omega | exact Nat.le_refl _⟩, ⟨pr_ (Kd.R_mono HO502.out (fun _ hk => hk.2))⟩, ⟨ps_ HO504.out⟩, ⟨pr_ (Kd.R_mono HO508.out (fun _ hk => hk.2))⟩, ⟨pb_ HB.out⟩⟩
    replace c14 := Bool.eq_false_iff.mpr c14
    subst c14
    rw [if_neg (show ¬ (false = true) by decide)] at H
    replace H := Option.bind_eq_some_iff.mp H
    obtain ⟨t510, A160, H⟩ := H
    replace H : (laws_FnRetired.j0 k t497 t498 t499 t505 false (!t510)) = some r := H
    have A16 := Aside0.mk A160
    clear A160
    have H' := Aside0.mk H
    clear H
    go_wp2_with (first | ((with_reducible refine gate_callee (f := 30) rfl ?_); refine goesL_ (some 34) rfl rfl Try.func30 (by kernel_rfl) rfl #[.slice Ao8 t497.length co8, .slice Ao9 t498.length co9, .int .i64 t499, .int .i64 t500] rfl mp_ ?_; (with_reducible refine (impl_MayRetire.calls k _ _ t497 _ _ t498 t499 t500 t509 _ ?side1 ?side2 ?side3 ?side4 A11.out).mono ?_); (case side1 => exact pc_ ((Kd.R_reads' HO502.out).2.2)); (case side2 => exact (Kd.R_reads' HO502.out).2.1); (case side3 => exact pc_ ((Kd.S_reads' HO504.out).2.2)); (case side4 => exact (Kd.S_reads' HO504.out).2.1); rintro e w17 ⟨rfl, hb⟩; refine ⟨_, rfl, ?_⟩; have n0_ := Aside0.mk (Kd.R_below (pr_ HO502.out) hb); have n1_ := Aside0.mk (Kd.S_below (ps_ HO504.out) hb); have n2_ := Aside0.mk (Kd.R_below (pr_ HO508.out) hb); have n3_ := Aside0.mk (below_step (pb_ HB.out) hb); clear HO502; clear HO504; clear HO508; clear HB; have HO502 := n0_; have HO504 := n1_; have HO508 := n2_; have HB := n3_; clear n0_ n1_ n2_ n3_; (try clear hb); (try clear hb2); (try clear hk); (try clear hi); obtain ⟨Ao18, co18, eo18⟩ := Kd.R_slice HO508.out; subst eo18) | (go_at_call 35; (with_reducible refine (impl_EqualInts.calls k _ _ t505 _ _ t497 t510 _ ?side1 ?side2 ?side3 ?side4 A16.out).mono ?_); (case side1 => exact pc_ ((Kd.R_reads' HO508.out).2.2)); (case side2 => exact (Kd.R_reads' HO508.out).2.1); (case side3 => exact pc_ ((Kd.R_reads' HO502.out).2.2)); (case side4 => exact (Kd.R_reads' HO502.out).2.1); rintro e w' ⟨rfl, ⟨nd, rfl⟩⟩))
    go_meet
    case rel => exact ⟨_, (!t510), el_, H', ⟨by first | omega | exact Nat.le_refl _⟩, ⟨pr_ (Kd.R_mono HO502.out (fun _ hk => hk.2))⟩, ⟨ps_ HO504.out⟩, ⟨pr_ (Kd.R_mono HO508.out (fun _ hk => hk.2))⟩, ⟨pb_ HB.out⟩⟩
  clear HC6
  try clear c1
  try clear p2
  try clear c3
  try clear c8
  try clear c12
  try clear c12b0
  try clear c12b1
  try clear c12b2
  try clear c14
  obtain ⟨kq, x45_5, rfl, HA, HJ5, HO_3, HO_4, HO_7, HB⟩ := hcut
  rcases kq with _ | kj5
  · exact absurd HA.out (by simp [laws_FnRetired.j0])
  have H := HA.out
  clear HA
  simp only [laws_FnRetired.j0] at H
  by_cases c19 : x45_5 = true
  · subst c19
    rw [if_pos rfl] at H
    obtain rfl := Option.some.inj H
    go_wp2
    go_ret
    exact ⟨er_, pb_ HB.out⟩
  replace c19 := Bool.eq_false_iff.mpr c19
  subst c19
  rw [if_neg (show ¬ (false = true) by decide)] at H
  have HC20 := Aside0.mk H
  clear H
  go_upto_region 7 with (fail)
  go_cut [67] (fun v67 wc => ∃ (kq : Nat) (x67_19 : Bool), v67 = .bool x67_19 ∧ Aside0 (laws_FnRetired.j1 kq t497 t498 t499 x67_19 = some r) ∧ Aside0 (kq ≤ kj5) ∧ Aside0 (Kd.R (Kd.int .i64) 3 wc w.heap.size (fun _ => True) (.slice Ao8 t497.length co8) t497) ∧ Aside0 (Kd.S (Kd.slice 3 (Kd.int .i64)) 22 wc w.heap.size (fun k_ => some k_ ≠ ((.slice Ao8 t497.length co8) : Value).ownBlock) (.slice Ao9 t498.length co9) t498) ∧ Aside0 (Below w.heap.size w wc))
  case first =>
    have H := HC20.out
    clear HC20
    by_cases c21 : t506 = true
    rotate_left
    · replace c21 := Bool.eq_false_iff.mpr c21
      subst c21
      rw [if_neg (show ¬ (false = true) by decide)] at H
      have H' := Aside0.mk H
      clear H
      go_wp2
      go_meet
      case rel => exact ⟨_, (false), el_, H', ⟨by have := HJ5.out; first | omega | exact Nat.le_refl _⟩, ⟨pr_ (Kd.R_mono HO_3.out (fun _ hk => trivial))⟩, ⟨ps_ (Kd.S_mono HO_4.out (fun _ hk => hk.1))⟩, ⟨pb_ HB.out⟩⟩
    subst c21
    rw [if_pos rfl] at H
    replace H := Option.bind_eq_some_iff.mp H
    obtain ⟨t511, A220, H⟩ := H
    (try dsimp only at H)
    have A22 := Aside0.mk A220
    clear A220
    by_cases c23 : t511 = true
    · subst c23
      rw [if_pos rfl] at H
      have H' := Aside0.mk H
      clear H
      obtain ⟨Ao24, co24, eo24⟩ := Kd.R_slice HO_7.out
      subst eo24
      go_wp2_with (first | (go_at_call 36; (with_reducible refine (laws_contains.calls kj5 _ _ t505 t499 true _ ?side1 ?side2 A22.out).mono ?_); (case side1 => exact pc_ ((Kd.R_reads' HO_7.out).2.2)); (case side2 => exact (Kd.R_reads' HO_7.out).2.1); rintro e w' ⟨rfl, ⟨nd, rfl⟩⟩))
      go_meet
      case rel => exact ⟨_, (true), el_, H', ⟨by have := HJ5.out; first | omega | exact Nat.le_refl _⟩, ⟨pr_ (Kd.R_mono HO_3.out (fun _ hk => trivial))⟩, ⟨ps_ (Kd.S_mono HO_4.out (fun _ hk => hk.1))⟩, ⟨pb_ HB.out⟩⟩
    replace c23 := Bool.eq_false_iff.mpr c23
    subst c23
    rw [if_neg (show ¬ (false = true) by decide)] at H
    replace H := Option.bind_eq_some_iff.mp H
    obtain ⟨t512, A250, H⟩ := H
    (try dsimp only at H)
    have A25 := Aside0.mk A250
    clear A250
    by_cases c26 : t512 = true
    rotate_left
    · replace c26 := Bool.eq_false_iff.mpr c26
      subst c26
      rw [if_neg (show ¬ (false = true) by decide)] at H
      have H' := Aside0.mk H
      clear H
      obtain ⟨Ao27, co27, eo27⟩ := Kd.R_slice HO_7.out
      subst eo27
      go_wp2_with (first | (go_at_call 36; (with_reducible refine (laws_contains.calls kj5 _ _ t505 t499 false _ ?side1 ?side2 A22.out).mono ?_); (case side1 => exact pc_ ((Kd.R_reads' HO_7.out).2.2)); (case side2 => exact (Kd.R_reads' HO_7.out).2.1); rintro e w' ⟨rfl, ⟨nd, rfl⟩⟩) | (go_at_call 37; (with_reducible refine (impl_AreVersions.calls kj5 _ _ t505 false _ ?side1 ?side2 A25.out).mono ?_); (case side1 => exact pc_ ((Kd.R_reads' HO_7.out).2.2)); (case side2 => exact (Kd.R_reads' HO_7.out).2.1); rintro e w' ⟨rfl, ⟨nd, rfl⟩⟩))
      go_meet
      case rel => exact ⟨_, (true), el_, H', ⟨by have := HJ5.out; first | omega | exact Nat.le_refl _⟩, ⟨pr_ (Kd.R_mono HO_3.out (fun _ hk => trivial))⟩, ⟨ps_ (Kd.S_mono HO_4.out (fun _ hk => hk.1))⟩, ⟨pb_ HB.out⟩⟩
    subst c26
    rw [if_pos rfl] at H
    replace H := Option.bind_eq_some_iff.mp H
    obtain ⟨t513, A280, H⟩ := H
    (try dsimp only at H)
    have A28 := Aside0.mk A280
    clear A280
    by_cases c29 : t513 = true
    rotate_left
    · replace c29 := Bool.eq_false_iff.mpr c29
      subst c29
      rw [if_neg (show ¬ (false = true) by decide)] at H
      have H' := Aside0.mk H
      clear H
      obtain ⟨Ao30, co30, eo30⟩ := Kd.R_slice HO_7.out
      subst eo30
      go_wp2_with (first | (go_at_call 36; (with_reducible refine (laws_contains.calls kj5 _ _ t505 t499 false _ ?side1 ?side2 A22.out).mono ?_); (case side1 => exact pc_ ((Kd.R_reads' HO_7.out).2.2)); (case side2 => exact (Kd.R_reads' HO_7.out).2.1); rintro e w' ⟨rfl, ⟨nd, rfl⟩⟩) | (go_at_call 37; (with_reducible refine (impl_AreVersions.calls kj5 _ _ t505 true _ ?side1 ?side2 A25.out).mono ?_); (case side1 => exact pc_ ((Kd.R_reads' HO_7.out).2.2)); (case side2 => exact (Kd.R_reads' HO_7.out).2.1); rintro e w' ⟨rfl, ⟨nd, rfl⟩⟩) | (go_at_call 23; (with_reducible refine (impl_AllReach.calls kj5 _ _ t497 _ _ t498 false _ ?side1 ?side2 ?side3 ?side4 A28.out).mono ?_); (case side1 => exact pc_ ((Kd.R_reads' HO_3.out).2.2)); (case side2 => exact (Kd.R_reads' HO_3.out).2.1); (case side3 => exact pc_ ((Kd.S_reads' HO_4.out).2.2)); (case side4 => exact (Kd.S_reads' HO_4.out).2.1); rintro e w31 ⟨rfl, hb⟩; have n0_ := Aside0.mk (Kd.R_below (pr_ HO_3.out) hb); have n1_ := Aside0.mk (Kd.S_below (ps_ HO_4.out) hb); have n2_ := Aside0.mk (Kd.R_below (pr_ HO_7.out) hb); have n3_ := Aside0.mk (below_step (pb_ HB.out) hb); clear HO_3; clear HO_4; clear HO_7; clear HB; have HO_3 := n0_; have HO_4 := n1_; have HO_7 := n2_; have HB := n3_; clear n0_ n1_ n2_ n3_; (try clear hb); (try clear hb2); (try clear hk); (try clear hi)))
      go_meet
      case rel => exact ⟨_, (false), el_, H', ⟨by have := HJ5.out; first | omega | exact Nat.le_refl _⟩, ⟨pr_ (Kd.R_mono HO_3.out (fun _ hk => trivial))⟩, ⟨ps_ (Kd.S_mono HO_4.out (fun _ hk => hk.1))⟩, ⟨pb_ HB.out⟩⟩
    subst c29
    rw [if_pos rfl] at H
    replace H := Option.bind_eq_some_iff.mp H
    obtain ⟨t514, A320, H⟩ := H
    replace H : (laws_FnRetired.j1 kj5 t497 t498 t499 (!t514)) = some r := H
    have A32 := Aside0.mk A320
    clear A320
    have H' := Aside0.mk H
    clear H
    obtain ⟨Ao33, co33, eo33⟩ := Kd.R_slice HO_7.out
    subst eo33
    go_wp2_with (first | (go_at_call 36; (with_reducible refine (laws_contains.calls kj5 _ _ t505 t499 false _ ?side1 ?side2 A22.out).mono ?_); (case side1 => exact pc_ ((Kd.R_reads' HO_7.out).2.2)); (case side2 => exact (Kd.R_reads' HO_7.out).2.1); rintro e w' ⟨rfl, ⟨nd, rfl⟩⟩) | (go_at_call 37; (with_reducible refine (impl_AreVersions.calls kj5 _ _ t505 true _ ?side1 ?side2 A25.out).mono ?_); (case side1 => exact pc_ ((Kd.R_reads' HO_7.out).2.2)); (case side2 => exact (Kd.R_reads' HO_7.out).2.1); rintro e w' ⟨rfl, ⟨nd, rfl⟩⟩) | (go_at_call 23; (with_reducible refine (impl_AllReach.calls kj5 _ _ t497 _ _ t498 true _ ?side1 ?side2 ?side3 ?side4 A28.out).mono ?_); (case side1 => exact pc_ ((Kd.R_reads' HO_3.out).2.2)); (case side2 => exact (Kd.R_reads' HO_3.out).2.1); (case side3 => exact pc_ ((Kd.S_reads' HO_4.out).2.2)); (case side4 => exact (Kd.S_reads' HO_4.out).2.1); rintro e w34 ⟨rfl, hb⟩; have n0_ := Aside0.mk (Kd.R_below (pr_ HO_3.out) hb); have n1_ := Aside0.mk (Kd.S_below (ps_ HO_4.out) hb); have n2_ := Aside0.mk (Kd.R_below (pr_ HO_7.out) hb); have n3_ := Aside0.mk (below_step (pb_ HB.out) hb); clear HO_3; clear HO_4; clear HO_7; clear HB; have HO_3 := n0_; have HO_4 := n1_; have HO_7 := n2_; have HB := n3_; clear n0_ n1_ n2_ n3_; (try clear hb); (try clear hb2); (try clear hk); (try clear hi)) | (go_at_call 23; (with_reducible refine (impl_AllReach.calls kj5 _ _ t505 _ _ t498 t514 _ ?side1 ?side2 ?side3 ?side4 A32.out).mono ?_); (case side1 => exact pc_ ((Kd.R_reads' HO_7.out).2.2)); (case side2 => exact (Kd.R_reads' HO_7.out).2.1); (case side3 => exact pc_ ((Kd.S_reads' HO_4.out).2.2)); (case side4 => exact (Kd.S_reads' HO_4.out).2.1); rintro e w35 ⟨rfl, hb⟩; have n0_ := Aside0.mk (Kd.R_below (pr_ HO_3.out) hb); have n1_ := Aside0.mk (Kd.S_below (ps_ HO_4.out) hb); have n2_ := Aside0.mk (Kd.R_below (pr_ HO_7.out) hb); have n3_ := Aside0.mk (below_step (pb_ HB.out) hb); clear HO_3; clear HO_4; clear HO_7; clear HB; have HO_3 := n0_; have HO_4 := n1_; have HO_7 := n2_; have HB := n3_; clear n0_ n1_ n2_ n3_; (try clear hb); (try clear hb2); (try clear hk); (try clear hi)))
    go_meet
    case rel => exact ⟨_, (!t514), el_, H', ⟨by have := HJ5.out; first | omega | exact Nat.le_refl _⟩, ⟨pr_ (Kd.R_mono HO_3.out (fun _ hk => trivial))⟩, ⟨ps_ (Kd.S_mono HO_4.out (fun _ hk => hk.1))⟩, ⟨pb_ HB.out⟩⟩
  clear HC20
  try clear c1
  try clear c2
  try clear p2
  try clear c3
  try clear c8
  try clear c12
  try clear c12b0
  try clear c12b1
  try clear c12b2
  try clear c14
  try clear c19
  try clear c21
  try clear c23
  try clear c26
  try clear c29
  try clear c30
  try clear c32
  try clear c33
  try clear c34
  try clear p2
  obtain ⟨kq, x67_19, rfl, HA, HJ19, HO_3, HO_4, HB⟩ := hcut
  rcases kq with _ | kj19
  · exact absurd HA.out (by simp [laws_FnRetired.j1])
  have H := HA.out
  clear HA
  simp only [laws_FnRetired.j1] at H
  by_cases c36 : x67_19 = true
  · subst c36
    rw [if_pos rfl] at H
    obtain rfl := Option.some.inj H
    go_wp2
    go_ret
    exact ⟨er_, pb_ HB.out⟩
  replace c36 := Bool.eq_false_iff.mpr c36
  subst c36
  rw [if_neg (show ¬ (false = true) by decide)] at H
  replace H := Option.bind_eq_some_iff.mp H
  obtain ⟨t515, A370, H⟩ := H
  replace H : (laws_FnRetired.l0 kj19 t497 t498 t499 t515 0 1) = some r := H
  have A37 := Aside0.mk A370
  clear A370
  have H' := Aside0.mk H
  clear H
  go_wp2_with (first | ((with_reducible refine gate_callee (f := 25) rfl ?_); refine goesL_ (some 71) rfl rfl Try.func25 (by kernel_rfl) rfl #[.slice Ao8 t497.length co8, .slice Ao9 t498.length co9, .int .i64 t499] rfl mp_ ?_; (with_reducible refine (impl_Stranded.calls kj19 _ _ t497 _ _ t498 t499 t515 _ ?side1 ?side2 ?side3 ?side4 A37.out).mono ?_); (case side1 => exact pc_ ((Kd.R_reads' HO_3.out).2.2)); (case side2 => exact (Kd.R_reads' HO_3.out).2.1); (case side3 => exact pc_ ((Kd.S_reads' HO_4.out).2.2)); (case side4 => exact (Kd.S_reads' HO_4.out).2.1); rintro e w38 ⟨v516, rfl, ho0, hb⟩; refine ⟨_, rfl, ?_⟩; have n0_ := Aside0.mk (Kd.R_elder' (pr_ HO_3.out) (Kd.R_base ho0) hb); have n1_ := Aside0.mk (Kd.S_elder' (ps_ HO_4.out) (Kd.R_base ho0) hb); have n2_ := Aside0.mk (Kd.R_lower (Kd.R_new' ho0 (Kd.R_lt (pr_ HO_3.out))) (below_size (pb_ HB.out))); have n3_ := Aside0.mk (below_step (pb_ HB.out) hb); clear HO_3; clear HO_4; clear HB; have HO_3 := n0_; have HO_4 := n1_; have HO517 := n2_; have HB := n3_; clear n0_ n1_ n2_ n3_; (try clear hb); (try clear hb2); (try clear hk); (try clear hi); (try clear ho0)))
  (try simp only [Act.put, List.setIfInBounds_toArray, List.set_cons_zero, List.set_cons_succ])
  go_loopg [10, 11] kj19 (fun kq v10 v11 w' => ∃ (x10_3 : Int) (x11_3 : Int), v10 = .int .i64 x10_3 ∧ v11 = .int .i64 x11_3 ∧ Aside0 (laws_FnRetired.l0 kq t497 t498 t499 t515 x10_3 x11_3 = some r) ∧ Aside0 (kq ≤ kj19) ∧ Aside0 (Kd.R (Kd.int .i64) 3 w' w.heap.size (fun k_ => some k_ ≠ (v516 : Value).ownBlock) (.slice Ao8 t497.length co8) t497) ∧ Aside0 (Kd.S (Kd.slice 3 (Kd.int .i64)) 22 w' w.heap.size (fun k_ => some k_ ≠ ((.slice Ao8 t497.length co8) : Value).ownBlock ∧ some k_ ≠ (v516 : Value).ownBlock) (.slice Ao9 t498.length co9) t498) ∧ Aside0 (Kd.R (Kd.int .i64) 3 w' w.heap.size (fun k_ => some k_ ≠ ((.slice Ao8 t497.length co8) : Value).ownBlock) v516 t515) ∧ Aside0 (Below w.heap.size w w'))
  case atStart => exact ⟨(0), (1), el_, el_, H', ⟨Nat.le_refl _⟩, ⟨pr_ (Kd.R_mono HO_3.out (fun _ hk => hk.2))⟩, ⟨ps_ HO_4.out⟩, ⟨pr_ (Kd.R_mono HO517.out (fun _ hk => hk.2))⟩, ⟨pb_ HB.out⟩⟩
  clear H'
  try clear c1
  try clear c2
  try clear p2
  try clear c3
  try clear c8
  try clear c12
  try clear c12b0
  try clear c12b1
  try clear c12b2
  try clear c14
  try clear c19
  try clear c21
  try clear c23
  try clear c25
  try clear c26
  try clear c29
  try clear c30
  try clear c32
  try clear c33
  try clear c34
  try clear c36
  try clear p2
  obtain ⟨x10_3, x11_3, rfl, rfl, HA, HK3, HO_3, HO_4, HO_9, HB⟩ := hrel
  rcases gk with _ | k3
  · exact absurd HA.out (by simp [laws_FnRetired.l0])
  have H := HA.out
  clear HA
  simp only [laws_FnRetired.l0] at H
  by_cases c39 : x11_3 ≤ 9
  · rw [if_pos c39] at H
    have c39b0 : decide (x11_3 ≤ 9) = true := decide_eq_true c39
    clear c39
    replace H := Option.bind_eq_some_iff.mp H
    obtain ⟨t518, A400, H⟩ := H
    (try dsimp only at H)
    have A40 := Aside0.mk A400
    clear A400
    have H' := Aside0.mk H
    clear H
    go_wp2_with (first | ((with_reducible refine gate_callee (f := 19) rfl ?_); refine goesL_ (some 80) rfl rfl Try.func19 (by kernel_rfl) rfl #[.slice Ao8 t497.length co8, .slice Ao9 t498.length co9, .int .i64 x11_3] rfl mp_ ?_; (with_reducible refine (impl_UseOf.calls k3 _ _ t497 _ _ t498 x11_3 t518 _ ?side1 ?side2 ?side3 ?side4 A40.out).mono ?_); (case side1 => exact pc_ ((Kd.R_reads' HO_3.out).2.2)); (case side2 => exact (Kd.R_reads' HO_3.out).2.1); (case side3 => exact pc_ ((Kd.S_reads' HO_4.out).2.2)); (case side4 => exact (Kd.S_reads' HO_4.out).2.1); rintro e w41 ⟨rfl, hb⟩; refine ⟨_, rfl, ?_⟩; have n0_ := Aside0.mk (Kd.R_below (pr_ HO_3.out) hb); have n1_ := Aside0.mk (Kd.S_below (ps_ HO_4.out) hb); have n2_ := Aside0.mk (Kd.R_below (pr_ HO_9.out) hb); have n3_ := Aside0.mk (below_step (pb_ HB.out) hb); clear HO_3; clear HO_4; clear HO_9; clear HB; have HO_3 := n0_; have HO_4 := n1_; have HO_9 := n2_; have HB := n3_; clear n0_ n1_ n2_ n3_; (try clear hb); (try clear hb2); (try clear hk); (try clear hi)))
    go_roundg k3
    case measure => have := HJ5.out; have := HJ19.out; have := HK3.out; omega
    case rel => exact ⟨(wrap64 (x10_3 + t518)), (wrap64 (x11_3 + 1)), el_, el_, H', ⟨by have := HJ5.out; have := HJ19.out; have := HK3.out; omega⟩, ⟨pr_ HO_3.out⟩, ⟨ps_ HO_4.out⟩, ⟨pr_ HO_9.out⟩, ⟨pb_ HB.out⟩⟩
  rw [if_neg c39] at H
  have c39b0 : decide (x11_3 ≤ 9) = false := decide_eq_false c39
  clear c39
  replace H := Option.bind_eq_some_iff.mp H
  obtain ⟨t519, A420, H⟩ := H
  (try dsimp only at H)
  have A42 := Aside0.mk A420
  clear A420
  by_cases c43 : (t515.length : Int) ≤ t519
  rotate_left
  · rw [if_neg c43] at H
    have c43b0 : decide ((t515.length : Int) ≤ t519) = false := decide_eq_false c43
    clear c43
    obtain rfl := Option.some.inj H
    obtain ⟨Ao44, co44, eo44⟩ := Kd.R_slice HO_9.out
    subst eo44
    go_wp2_with (first | ((with_reducible refine gate_callee (f := 19) rfl ?_); refine goesL_ (some 87) rfl rfl Try.func19 (by kernel_rfl) rfl #[.slice Ao8 t497.length co8, .slice Ao9 t498.length co9, .int .i64 t499] rfl mp_ ?_; (with_reducible refine (impl_UseOf.calls k3 _ _ t497 _ _ t498 t499 t519 _ ?side1 ?side2 ?side3 ?side4 A42.out).mono ?_); (case side1 => exact pc_ ((Kd.R_reads' HO_3.out).2.2)); (case side2 => exact (Kd.R_reads' HO_3.out).2.1); (case side3 => exact pc_ ((Kd.S_reads' HO_4.out).2.2)); (case side4 => exact (Kd.S_reads' HO_4.out).2.1); rintro e w45 ⟨rfl, hb⟩; refine ⟨_, rfl, ?_⟩; have n0_ := Aside0.mk (Kd.R_below (pr_ HO_3.out) hb); have n1_ := Aside0.mk (Kd.S_below (ps_ HO_4.out) hb); have n2_ := Aside0.mk (Kd.R_below (pr_ HO_9.out) hb); have n3_ := Aside0.mk (below_step (pb_ HB.out) hb); clear HO_3; clear HO_4; clear HO_9; clear HB; have HO_3 := n0_; have HO_4 := n1_; have HO_9 := n2_; have HB := n3_; clear n0_ n1_ n2_ n3_; (try clear hb); (try clear hb2); (try clear hk); (try clear hi)))
    go_ret
    exact ⟨er_, pb_ HB.out⟩
  rw [if_pos c43] at H
  have c43b0 : decide ((t515.length : Int) ≤ t519) = true := decide_eq_true c43
  clear c43
  by_cases c46 : x10_3 ≤ (t498.length : Int)
  rotate_left
  · rw [if_neg c46] at H
    have c46b0 : decide (x10_3 ≤ (t498.length : Int)) = false := decide_eq_false c46
    clear c46
    obtain rfl := Option.some.inj H
    obtain ⟨Ao47, co47, eo47⟩ := Kd.R_slice HO_9.out
    subst eo47
    go_wp2_with (first | ((with_reducible refine gate_callee (f := 19) rfl ?_); refine goesL_ (some 87) rfl rfl Try.func19 (by kernel_rfl) rfl #[.slice Ao8 t497.length co8, .slice Ao9 t498.length co9, .int .i64 t499] rfl mp_ ?_; (with_reducible refine (impl_UseOf.calls k3 _ _ t497 _ _ t498 t499 t519 _ ?side1 ?side2 ?side3 ?side4 A42.out).mono ?_); (case side1 => exact pc_ ((Kd.R_reads' HO_3.out).2.2)); (case side2 => exact (Kd.R_reads' HO_3.out).2.1); (case side3 => exact pc_ ((Kd.S_reads' HO_4.out).2.2)); (case side4 => exact (Kd.S_reads' HO_4.out).2.1); rintro e w48 ⟨rfl, hb⟩; refine ⟨_, rfl, ?_⟩; have n0_ := Aside0.mk (Kd.R_below (pr_ HO_3.out) hb); have n1_ := Aside0.mk (Kd.S_below (ps_ HO_4.out) hb); have n2_ := Aside0.mk (Kd.R_below (pr_ HO_9.out) hb); have n3_ := Aside0.mk (below_step (pb_ HB.out) hb); clear HO_3; clear HO_4; clear HO_9; clear HB; have HO_3 := n0_; have HO_4 := n1_; have HO_9 := n2_; have HB := n3_; clear n0_ n1_ n2_ n3_; (try clear hb); (try clear hb2); (try clear hk); (try clear hi)))
    go_ret
    exact ⟨er_, pb_ HB.out⟩
  rw [if_pos c46] at H
  have c46b0 : decide (x10_3 ≤ (t498.length : Int)) = true := decide_eq_true c46
  clear c46
  replace H := Option.bind_eq_some_iff.mp H
  obtain ⟨t520, A490, H⟩ := H
  (try dsimp only at H)
  have A49 := Aside0.mk A490
  clear A490
  replace H := Option.bind_eq_some_iff.mp H
  obtain ⟨t521, A500, H⟩ := H
  (try dsimp only at H)
  have A50 := Aside0.mk A500
  clear A500
  by_cases c51 : t521 = true
  rotate_left
  · replace c51 := Bool.eq_false_iff.mpr c51
    subst c51
    rw [if_neg (show ¬ (false = true) by decide)] at H
    obtain rfl := Option.some.inj H
    obtain ⟨Ao52, co52, eo52⟩ := Kd.R_slice HO_9.out
    subst eo52
    go_wp2_with (first | ((with_reducible refine gate_callee (f := 19) rfl ?_); refine goesL_ (some 87) rfl rfl Try.func19 (by kernel_rfl) rfl #[.slice Ao8 t497.length co8, .slice Ao9 t498.length co9, .int .i64 t499] rfl mp_ ?_; (with_reducible refine (impl_UseOf.calls k3 _ _ t497 _ _ t498 t499 t519 _ ?side1 ?side2 ?side3 ?side4 A42.out).mono ?_); (case side1 => exact pc_ ((Kd.R_reads' HO_3.out).2.2)); (case side2 => exact (Kd.R_reads' HO_3.out).2.1); (case side3 => exact pc_ ((Kd.S_reads' HO_4.out).2.2)); (case side4 => exact (Kd.S_reads' HO_4.out).2.1); rintro e w53 ⟨rfl, hb⟩; refine ⟨_, rfl, ?_⟩; have n0_ := Aside0.mk (Kd.R_below (pr_ HO_3.out) hb); have n1_ := Aside0.mk (Kd.S_below (ps_ HO_4.out) hb); have n2_ := Aside0.mk (Kd.R_below (pr_ HO_9.out) hb); have n3_ := Aside0.mk (below_step (pb_ HB.out) hb); clear HO_3; clear HO_4; clear HO_9; clear HB; have HO_3 := n0_; have HO_4 := n1_; have HO_9 := n2_; have HB := n3_; clear n0_ n1_ n2_ n3_; (try clear hb); (try clear hb2); (try clear hk); (try clear hi)) | (go_at_call 23; (with_reducible refine (impl_AllReach.calls k3 _ _ t497 _ _ t498 t520 _ ?side1 ?side2 ?side3 ?side4 A49.out).mono ?_); (case side1 => exact pc_ ((Kd.R_reads' HO_3.out).2.2)); (case side2 => exact (Kd.R_reads' HO_3.out).2.1); (case side3 => exact pc_ ((Kd.S_reads' HO_4.out).2.2)); (case side4 => exact (Kd.S_reads' HO_4.out).2.1); rintro e w54 ⟨rfl, hb⟩; have n0_ := Aside0.mk (Kd.R_below (pr_ HO_3.out) hb); have n1_ := Aside0.mk (Kd.S_below (ps_ HO_4.out) hb); have n2_ := Aside0.mk (Kd.R_below (pr_ HO_9.out) hb); have n3_ := Aside0.mk (below_step (pb_ HB.out) hb); clear HO_3; clear HO_4; clear HO_9; clear HB; have HO_3 := n0_; have HO_4 := n1_; have HO_9 := n2_; have HB := n3_; clear n0_ n1_ n2_ n3_; (try clear hb); (try clear hb2); (try clear hk); (try clear hi)) | (go_at_call 37; (with_reducible refine (impl_AreVersions.calls k3 _ _ t497 false _ ?side1 ?side2 A50.out).mono ?_); (case side1 => exact pc_ ((Kd.R_reads' HO_3.out).2.2)); (case side2 => exact (Kd.R_reads' HO_3.out).2.1); rintro e w' ⟨rfl, ⟨nd, rfl⟩⟩))
    go_ret
    exact ⟨er_, pb_ HB.out⟩
  subst c51
  rw [if_pos rfl] at H
  obtain rfl := Option.some.inj H
  obtain ⟨Ao55, co55, eo55⟩ := Kd.R_slice HO_9.out
  subst eo55
  go_wp2_with (first | ((with_reducible refine gate_callee (f := 19) rfl ?_); refine goesL_ (some 87) rfl rfl Try.func19 (by kernel_rfl) rfl #[.slice Ao8 t497.length co8, .slice Ao9 t498.length co9, .int .i64 t499] rfl mp_ ?_; (with_reducible refine (impl_UseOf.calls k3 _ _ t497 _ _ t498 t499 t519 _ ?side1 ?side2 ?side3 ?side4 A42.out).mono ?_); (case side1 => exact pc_ ((Kd.R_reads' HO_3.out).2.2)); (case side2 => exact (Kd.R_reads' HO_3.out).2.1); (case side3 => exact pc_ ((Kd.S_reads' HO_4.out).2.2)); (case side4 => exact (Kd.S_reads' HO_4.out).2.1); rintro e w56 ⟨rfl, hb⟩; refine ⟨_, rfl, ?_⟩; have n0_ := Aside0.mk (Kd.R_below (pr_ HO_3.out) hb); have n1_ := Aside0.mk (Kd.S_below (ps_ HO_4.out) hb); have n2_ := Aside0.mk (Kd.R_below (pr_ HO_9.out) hb); have n3_ := Aside0.mk (below_step (pb_ HB.out) hb); clear HO_3; clear HO_4; clear HO_9; clear HB; have HO_3 := n0_; have HO_4 := n1_; have HO_9 := n2_; have HB := n3_; clear n0_ n1_ n2_ n3_; (try clear hb); (try clear hb2); (try clear hk); (try clear hi)) | (go_at_call 23; (with_reducible refine (impl_AllReach.calls k3 _ _ t497 _ _ t498 t520 _ ?side1 ?side2 ?side3 ?side4 A49.out).mono ?_); (case side1 => exact pc_ ((Kd.R_reads' HO_3.out).2.2)); (case side2 => exact (Kd.R_reads' HO_3.out).2.1); (case side3 => exact pc_ ((Kd.S_reads' HO_4.out).2.2)); (case side4 => exact (Kd.S_reads' HO_4.out).2.1); rintro e w57 ⟨rfl, hb⟩; have n0_ := Aside0.mk (Kd.R_below (pr_ HO_3.out) hb); have n1_ := Aside0.mk (Kd.S_below (ps_ HO_4.out) hb); have n2_ := Aside0.mk (Kd.R_below (pr_ HO_9.out) hb); have n3_ := Aside0.mk (below_step (pb_ HB.out) hb); clear HO_3; clear HO_4; clear HO_9; clear HB; have HO_3 := n0_; have HO_4 := n1_; have HO_9 := n2_; have HB := n3_; clear n0_ n1_ n2_ n3_; (try clear hb); (try clear hb2); (try clear hk); (try clear hi)) | (go_at_call 37; (with_reducible refine (impl_AreVersions.calls k3 _ _ t497 true _ ?side1 ?side2 A50.out).mono ?_); (case side1 => exact pc_ ((Kd.R_reads' HO_3.out).2.2)); (case side2 => exact (Kd.R_reads' HO_3.out).2.1); rintro e w' ⟨rfl, ⟨nd, rfl⟩⟩))
  go_ret
  exact ⟨er_, pb_ HB.out⟩

/-- THE ONE PURE STATEMENT of laws_FnRetired: yours. -/
def laws_FnRetired.Pure : Prop := ∀ (l0 : List Int), l0.length ≤ maxLen → l0.length * 1 ≤ 140737488351232 → (∀ x ∈ l0, (Lit.int .u8 x).wf = true) → ∃ k, laws_FnRetired.f k l0 = some true
theorem laws_FnRetired.walk (P : laws_FnRetired.Pure) (a0 : Option Addr) (len0 cap0 : Nat) (z0 : List Int) (w : World) (w0 : (a0 = none ∧ len0 = 0 ∧ cap0 = 0 ∧ z0 = []) ∨ ∃ x, a0 = some x ∧ len0 ≤ cap0 ∧ cap0 ≤ maxLen ∧ z0.length = cap0 ∧ (∀ i, i < z0.length → w.cell? (x.add i) = some (.int .u8 (z0.getD i 0))) ∧ ∀ n ∈ z0, (Lit.int .u8 n).wf = true) (y0 : len0 * 1 ≤ 140737488351232) :
    Calls Try.prog 8 #[.slice a0 len0 cap0] w fun e w' => e = .returned (.bool true) ∧ Below w.heap.size w w' := by
  obtain ⟨l0, rfl, hr0, hm0, hw0, hc0⟩ := ReadsInt.ofRowC w0
  obtain ⟨k, h⟩ := P l0 hm0 y0 hw0
  refine (laws_FnRetired.calls k _ _ l0 true w (Kd.C_of_reads (d := (0 : Int)) (h1 := fun _ => rfl) hr0) hc0 h).mono ?_
  rintro e w' ⟨rfl, hd⟩
  exact ⟨rfl, hd⟩

end Go.Proofs.Ytdoefkloanpliaa.Print
