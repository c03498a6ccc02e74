-- Written by a program of this session (printx.py) out of the translation; Lean checks it.
import Derived.Test.YtdoefkloanpliaaPrint0
import Derived.Test.YtdoefkloanpliaaPrint1
import Derived.Test.YtdoefkloanpliaaPrint5
import Derived.Test.YtdoefkloanpliaaPrint8
import Derived.Test.YtdoefkloanpliaaPrint10
import Derived.Test.YtdoefkloanpliaaPrint12
namespace Go.Proofs.Ytdoefkloanpliaa.Print
open Go.RowKit Go.Proofs.YtdoefkloanpliaaW.PrintWords Go.Proofs.YtdoefkloanpliaaW.PrintLast Go.Proofs.YtdoefkloanpliaaW.PrintMore Go.Proofs.Ytdoefkloanpliaa.Short
attribute [local go_sem] max2_int min2_int max_two min_two max_three min_three max_four min_four   -- for this text's walks alone
set_option linter.unusedVariables false
set_option linter.unusedSimpArgs false

/-! ### laws_FnHardened: function 14 -/
mutual
def laws_FnHardened.j0 : Nat → List Int → List (S67) → List Int → Bool → Option (Bool)
  | 0, _, _, _, _ => none
  | k + 1, x0, x3, x6, x42 => if x42 = true then (some false) else (laws_FnHardened.l0 k x0 x3 x6 0)
def laws_FnHardened.l0 : Nat → List Int → List (S67) → List Int → Int → Option (Bool)
  | 0, _, _, _, _ => none
  | k + 1, x0, x3, x6, x7 => if x7 < (x6.length : Int) then (if 0 ≤ x7 then (if 0 ≤ (rd x6 x7) then (if (rd x6 x7) < (x3.length : Int) then ((impl_RefusesGrease.f k ((rd_T67 x3 (rd x6 x7)).f0) ((rd_T67 x3 (rd x6 x7)).f1) ((rd_T67 x3 (rd x6 x7)).f2) ((rd_T67 x3 (rd x6 x7)).f3)).bind fun t581 => (if t581 = true then ((impl_IsClear.f ((rd_T67 x3 (rd x6 x7)).f0) ((rd_T67 x3 (rd x6 x7)).f1) ((rd_T67 x3 (rd x6 x7)).f2) ((rd_T67 x3 (rd x6 x7)).f3)).bind fun t584 => (if t584 = true then (some false) else (laws_FnHardened.l0 k x0 x3 x6 (wrap64 (x7 + 1))))) else (some false))) else (none)) else (none)) else (none)) else ((spec_DrawFindSeed.f k x0).bind fun bt585 => ((impl_FindSeed.f k bt585.1 bt585.2.1 bt585.2.2).bind fun t592 => (if t592 = (-1) then (some true) else (if t592 < bt585.2.2 then ((impl_GreaseLost.f k bt585.1 bt585.2.1 t592).bind fun t593 => (if t593 = true then ((impl_HardnessOf.f k bt585.1 bt585.2.1).bind fun t594 => (some (decide (t594 > 0)))) else (some false))) else (some false)))))
end
def laws_FnHardened.f (k : Nat) (l0 : List Int) : Option (Bool) := (laws_big.f l0).bind fun t567 => (if t567 = true then (some true) else ((spec_DrawHardnessOf.f k l0).bind fun bt568 => ((impl_HardnessOf.f k bt568.1 bt568.2).bind fun t574 => ((impl_HardenedBoxes.f k bt568.1).bind fun t575 => ((impl_IsOpenPath.f k bt568.1 bt568.2).bind fun t578 => (if t578 = true then (if t574 > 0 then (if (t575.length : Int) > 0 then (if t574 < 0 then (laws_FnHardened.j0 k l0 bt568.1 t575 true) else (laws_FnHardened.j0 k l0 bt568.1 t575 (decide (t574 > 16)))) else (laws_FnHardened.j0 k l0 bt568.1 t575 true)) else (if (t575.length : Int) > 0 then (laws_FnHardened.j0 k l0 bt568.1 t575 true) else (if t574 < 0 then (laws_FnHardened.j0 k l0 bt568.1 t575 true) else (laws_FnHardened.j0 k l0 bt568.1 t575 (decide (t574 > 16)))))) else (if t574 < 0 then (laws_FnHardened.j0 k l0 bt568.1 t575 true) else (laws_FnHardened.j0 k l0 bt568.1 t575 (decide (t574 > 16))))))))))
theorem laws_FnHardened.mono_l : ∀ k, (∀ y0 y1 y2 y3, LeO (laws_FnHardened.j0 k y0 y1 y2 y3) (laws_FnHardened.j0 (k + 1) y0 y1 y2 y3)) ∧ (∀ y0 y1 y2 y3, LeO (laws_FnHardened.l0 k y0 y1 y2 y3) (laws_FnHardened.l0 (k + 1) y0 y1 y2 y3))
  | 0 => ⟨fun _ _ _ _ r h => by simp [laws_FnHardened.j0] at h, fun _ _ _ _ r h => by simp [laws_FnHardened.l0] at h⟩
  | k + 1 => by
    obtain ⟨ih0, ih1⟩ := laws_FnHardened.mono_l k
    refine ⟨?_, ?_⟩
    · intro y0 y1 y2 y3
      unfold laws_FnHardened.j0
      repeat' first
      | (with_reducible exact ih0 _ _ _ _)
      | (with_reducible exact ih1 _ _ _ _)
      | (with_reducible exact impl_FindSeed.mono _ _ _ _)
      | (with_reducible exact impl_GreaseLost.mono _ _ _ _)
      | (with_reducible exact impl_HardenedBoxes.mono _ _)
      | (with_reducible exact impl_HardnessOf.mono _ _ _)
      | (with_reducible exact impl_IsOpenPath.mono _ _ _)
      | (with_reducible exact impl_RefusesGrease.mono _ _ _ _ _)
      | (with_reducible exact spec_DrawFindSeed.mono _ _)
      | (with_reducible exact spec_DrawHardnessOf.mono _ _)
      | (with_reducible exact LeO.refl _)
      | (with_reducible exact LeO.none _)
      | (with_reducible refine LeO.ite ?_ ?_)
      | (with_reducible refine LeO.bind ?_ (fun _ => ?_))
      | exact ih0 _ _ _ _
      | exact ih1 _ _ _ _
      | exact impl_FindSeed.mono _ _ _ _
      | exact impl_GreaseLost.mono _ _ _ _
      | exact impl_HardenedBoxes.mono _ _
      | exact impl_HardnessOf.mono _ _ _
      | exact impl_IsOpenPath.mono _ _ _
      | exact impl_RefusesGrease.mono _ _ _ _ _
      | exact spec_DrawFindSeed.mono _ _
      | exact spec_DrawHardnessOf.mono _ _
      | exact LeO.none _
      | refine LeO.ite ?_ ?_
      | refine LeO.bind ?_ (fun _ => ?_)
    · intro y0 y1 y2 y3
      unfold laws_FnHardened.l0
      repeat' first
      | (with_reducible exact ih0 _ _ _ _)
      | (with_reducible exact ih1 _ _ _ _)
      | (with_reducible exact impl_FindSeed.mono _ _ _ _)
      | (with_reducible exact impl_GreaseLost.mono _ _ _ _)
      | (with_reducible exact impl_HardenedBoxes.mono _ _)
      | (with_reducible exact impl_HardnessOf.mono _ _ _)
      | (with_reducible exact impl_IsOpenPath.mono _ _ _)
      | (with_reducible exact impl_RefusesGrease.mono _ _ _ _ _)
      | (with_reducible exact spec_DrawFindSeed.mono _ _)
      | (with_reducible exact spec_DrawHardnessOf.mono _ _)
      | (with_reducible exact LeO.refl _)
      | (with_reducible exact LeO.none _)
      | (with_reducible refine LeO.ite ?_ ?_)
      | (with_reducible refine LeO.bind ?_ (fun _ => ?_))
      | exact ih0 _ _ _ _
      | exact ih1 _ _ _ _
      | exact impl_FindSeed.mono _ _ _ _
      | exact impl_GreaseLost.mono _ _ _ _
      | exact impl_HardenedBoxes.mono _ _
      | exact impl_HardnessOf.mono _ _ _
      | exact impl_IsOpenPath.mono _ _ _
      | exact impl_RefusesGrease.mono _ _ _ _ _
      | exact spec_DrawFindSeed.mono _ _
      | exact spec_DrawHardnessOf.mono _ _
      | exact LeO.none _
      | refine LeO.ite ?_ ?_
      | refine LeO.bind ?_ (fun _ => ?_)
theorem laws_FnHardened.mono : ∀ a0 k, LeO (laws_FnHardened.f k a0) (laws_FnHardened.f (k + 1) a0) := by
  intro a0 k
  obtain ⟨ih0, ih1⟩ := laws_FnHardened.mono_l k
  unfold laws_FnHardened.f
  repeat' first
      | (with_reducible exact ih0 _ _ _ _)
      | (with_reducible exact ih1 _ _ _ _)
      | (with_reducible exact impl_FindSeed.mono _ _ _ _)
      | (with_reducible exact impl_GreaseLost.mono _ _ _ _)
      | (with_reducible exact impl_HardenedBoxes.mono _ _)
      | (with_reducible exact impl_HardnessOf.mono _ _ _)
      | (with_reducible exact impl_IsOpenPath.mono _ _ _)
      | (with_reducible exact impl_RefusesGrease.mono _ _ _ _ _)
      | (with_reducible exact spec_DrawFindSeed.mono _ _)
      | (with_reducible exact spec_DrawHardnessOf.mono _ _)
      | (with_reducible exact LeO.refl _)
      | (with_reducible exact LeO.none _)
      | (with_reducible refine LeO.ite ?_ ?_)
      | (with_reducible refine LeO.bind ?_ (fun _ => ?_))
      | exact ih0 _ _ _ _
      | exact ih1 _ _ _ _
      | exact impl_FindSeed.mono _ _ _ _
      | exact impl_GreaseLost.mono _ _ _ _
      | exact impl_HardenedBoxes.mono _ _
      | exact impl_HardnessOf.mono _ _ _
      | exact impl_IsOpenPath.mono _ _ _
      | exact impl_RefusesGrease.mono _ _ _ _ _
      | exact spec_DrawFindSeed.mono _ _
      | exact spec_DrawHardnessOf.mono _ _
      | exact LeO.none _
      | refine LeO.ite ?_ ?_
      | refine LeO.bind ?_ (fun _ => ?_)
set_option maxHeartbeats 8000000 in
set_option maxRecDepth 100000 in
theorem laws_FnHardened.calls (k : Nat) (A0 : Option Addr) (c0 : Nat) (l0 : List Int) (r : Bool) (w : World) (hr0 : Kd.C (Kd.int .u8) w A0 l0.length l0) (hc0 : l0.length ≤ c0) (h : laws_FnHardened.f k l0 = some r) :
    Calls Try.prog 14 #[.slice A0 l0.length c0] w fun e w' => e = .returned (.bool r) ∧ Below w.heap.size w w' := by
  have hu67 := Try.underlying67
  have HR0 := Aside0.mk hr0
  have HC0 := Aside0.mk hc0
  clear hr0 hc0
  have HB := Aside0.mk (Below.refl w.heap.size w)
  have H : ((laws_big.f l0).bind fun t567 => (if t567 = true then (some true) else ((spec_DrawHardnessOf.f k l0).bind fun bt568 => ((impl_HardnessOf.f k bt568.1 bt568.2).bind fun t574 => ((impl_HardenedBoxes.f k bt568.1).bind fun t575 => ((impl_IsOpenPath.f k bt568.1 bt568.2).bind fun t578 => (if t578 = true then (if t574 > 0 then (if (t575.length : Int) > 0 then (if t574 < 0 then (laws_FnHardened.j0 k l0 bt568.1 t575 true) else (laws_FnHardened.j0 k l0 bt568.1 t575 (decide (t574 > 16)))) else (laws_FnHardened.j0 k l0 bt568.1 t575 true)) else (if (t575.length : Int) > 0 then (laws_FnHardened.j0 k l0 bt568.1 t575 true) else (if t574 < 0 then (laws_FnHardened.j0 k l0 bt568.1 t575 true) else (laws_FnHardened.j0 k l0 bt568.1 t575 (decide (t574 > 16)))))) else (if t574 < 0 then (laws_FnHardened.j0 k l0 bt568.1 t575 true) else (laws_FnHardened.j0 k l0 bt568.1 t575 (decide (t574 > 16))))))))))) = some r := h
  clear h
  replace H := Option.bind_eq_some_iff.mp H
  obtain ⟨t567, A20, H⟩ := H
  (try dsimp only at H)
  have A2 := Aside0.mk A20
  clear A20
  have HS_ := Aside0.mk H
  clear H
  go_enter Try.func14, Try.ntmps14
  go_upto_if 13 with (first | ((with_reducible refine gate_callee (f := 33) rfl ?_); refine goesL_ (some 13) rfl rfl Try.func33 (by kernel_rfl) rfl #[.slice A0 l0.length c0] rfl mp_ ?_; (with_reducible refine (laws_big.calls _ _ l0 t567 _ ?side1 ?side2 A2.out).mono ?_); (case side1 => exact pc_ HR0.out); (case side2 => exact HC0.out); rintro e w' ⟨rfl, ⟨nd, rfl⟩⟩; refine ⟨_, rfl, ?_⟩))
  (try simp only [Act.put, List.setIfInBounds_toArray, List.set_cons_zero, List.set_cons_succ])
  have H := HS_.out
  clear HS_
  by_cases c3 : t567 = true
  · subst c3
    rw [if_pos rfl] at H
    obtain rfl := Option.some.inj H
    go_wp2
    go_ret
    exact ⟨er_, pb_ HB.out⟩
  replace c3 := Bool.eq_false_iff.mpr c3
  subst c3
  rw [if_neg (show ¬ (false = true) by decide)] at H
  replace H := Option.bind_eq_some_iff.mp H
  obtain ⟨⟨t568, t569⟩, A40, H⟩ := H
  (try dsimp only at H)
  have A4 := Aside0.mk A40
  clear A40
  replace H := Option.bind_eq_some_iff.mp H
  obtain ⟨t574, A50, H⟩ := H
  (try dsimp only at H)
  have A5 := Aside0.mk A50
  clear A50
  replace H := Option.bind_eq_some_iff.mp H
  obtain ⟨t575, A60, H⟩ := H
  (try dsimp only at H)
  have A6 := Aside0.mk A60
  clear A60
  have HC7 := Aside0.mk H
  clear H
  go_upto_region 6 with (first | ((with_reducible refine gate_callee (f := 61) rfl ?_); refine goesL_ (some 16) rfl rfl Try.func61 (by kernel_rfl) rfl #[.slice A0 l0.length c0] rfl mp_ ?_; (with_reducible refine (spec_DrawHardnessOf.calls k _ _ l0 t568 t569 _ ?side1 ?side2 A4.out).mono ?_); (case side1 => exact pc_ (Kd.C_below HR0.out HB.out)); (case side2 => exact HC0.out); rintro e w8 ⟨v570, v572, rfl, ho0, ho1, hb⟩; refine ⟨_, rfl, ?_⟩; have n0_ := Aside0.mk (Kd.S_lower ho0 (below_size (pb_ HB.out))); have n1_ := Aside0.mk (Kd.R_lower ho1 (below_size (pb_ HB.out))); have n2_ := Aside0.mk (below_step (pb_ HB.out) hb); clear HB; have HO571 := n0_; have HO573 := n1_; have HB := n2_; clear n0_ n1_ n2_; (try clear hb); (try clear hb2); (try clear hk); (try clear hi); (try clear ho0); (try clear ho1); obtain ⟨Ao9, co9, eo9⟩ := Kd.S_slice HO571.out; subst eo9; obtain ⟨Ao10, co10, eo10⟩ := Kd.R_slice HO573.out; subst eo10) | ((with_reducible refine gate_callee (f := 62) rfl ?_); refine goesL_ (some 21) rfl rfl Try.func62 (by kernel_rfl) rfl #[.slice Ao9 t568.length co9, .slice Ao10 t569.length co10] rfl mp_ ?_; (with_reducible refine (impl_HardnessOf.calls k _ _ t568 _ _ t569 t574 _ ?side1 ?side2 ?side3 ?side4 A5.out).mono ?_); (case side1 => exact pc_ ((Kd.S_reads' HO571.out).2.2)); (case side2 => exact (Kd.S_reads' HO571.out).2.1); (case side3 => exact pc_ ((Kd.R_reads' HO573.out).2.2)); (case side4 => exact (Kd.R_reads' HO573.out).2.1); rintro e w11 ⟨rfl, hb⟩; refine ⟨_, rfl, ?_⟩; have n0_ := Aside0.mk (Kd.S_below (ps_ HO571.out) hb); have n1_ := Aside0.mk (Kd.R_below (pr_ HO573.out) hb); have n2_ := Aside0.mk (below_step (pb_ HB.out) hb); clear HO571; clear HO573; clear HB; have HO571 := n0_; have HO573 := n1_; have HB := n2_; clear n0_ n1_ n2_; (try clear hb); (try clear hb2); (try clear hk); (try clear hi)) | ((with_reducible refine gate_callee (f := 58) rfl ?_); refine goesL_ (some 23) rfl rfl Try.func58 (by kernel_rfl) rfl #[.slice Ao9 t568.length co9] rfl mp_ ?_; (with_reducible refine (impl_HardenedBoxes.calls k _ _ t568 t575 _ ?side1 ?side2 A6.out).mono ?_); (case side1 => exact pc_ ((Kd.S_reads' HO571.out).2.2)); (case side2 => exact (Kd.S_reads' HO571.out).2.1); rintro e w12 ⟨v576, rfl, ho0, hb⟩; refine ⟨_, rfl, ?_⟩; have n0_ := Aside0.mk (Kd.S_elder' (ps_ HO571.out) (Kd.R_base ho0) hb); have n1_ := Aside0.mk (Kd.R_elder' (pr_ HO573.out) (Kd.R_base ho0) hb); have n2_ := Aside0.mk (Kd.R_lower (Kd.R_new' ho0 (Kd.R_lt (pr_ HO573.out))) (below_size (pb_ HB.out))); have n3_ := Aside0.mk (below_step (pb_ HB.out) hb); clear HO571; clear HO573; clear HB; have HO571 := n0_; have HO573 := n1_; have HO577 := n2_; have HB := n3_; clear n0_ n1_ n2_ n3_; (try clear hb); (try clear hb2); (try clear hk); (try clear hi); (try clear ho0)))
  (try simp only [Act.put, List.setIfInBounds_toArray, List.set_cons_zero, List.set_cons_succ])
  go_cut [42] (fun v42 wc => ∃ (kq : Nat) (x42_6 : Bool), v42 = .bool x42_6 ∧ Aside0 (laws_FnHardened.j0 kq l0 t568 t575 x42_6 = some r) ∧ Aside0 (kq ≤ k) ∧ Aside0 (Kd.S k67 67 wc w.heap.size (fun k_ => some k_ ≠ (v576 : Value).ownBlock) (.slice Ao9 t568.length co9) t568) ∧ Aside0 (Kd.R (Kd.int .i64) 3 wc w.heap.size (fun _ => True) v576 t575) ∧ Aside0 (Below w.heap.size w wc))
  case first =>
    have H := HC7.out
    clear HC7
    replace H := Option.bind_eq_some_iff.mp H
    obtain ⟨t578, A130, H⟩ := H
    (try dsimp only at H)
    have A13 := Aside0.mk A130
    clear A130
    by_cases c14 : t578 = true
    rotate_left
    · replace c14 := Bool.eq_false_iff.mpr c14
      subst c14
      rw [if_neg (show ¬ (false = true) by decide)] at H
      by_cases c15 : t574 < 0
      rotate_left
      · rw [if_neg c15] at H
        have c15b0 : decide (t574 < 0) = false := decide_eq_false c15
        clear c15
        (first | rw [c15b0] | (simp only [i64_w, i32_w]; rw [c15b0]) | skip)
        have H' := Aside0.mk H
        clear H
        go_wp2_with (first | ((with_reducible refine gate_callee (f := 63) rfl ?_); refine goesL_ (some 26) rfl rfl Try.func63 (by kernel_rfl) rfl #[.slice Ao9 t568.length co9, .slice Ao10 t569.length co10] rfl mp_ ?_; (with_reducible refine (impl_IsOpenPath.calls k _ _ t568 _ _ t569 false _ ?side1 ?side2 ?side3 ?side4 A13.out).mono ?_); (case side1 => exact pc_ ((Kd.S_reads' HO571.out).2.2)); (case side2 => exact (Kd.S_reads' HO571.out).2.1); (case side3 => exact pc_ ((Kd.R_reads' HO573.out).2.2)); (case side4 => exact (Kd.R_reads' HO573.out).2.1); rintro e w16 ⟨rfl, hb⟩; refine ⟨_, rfl, ?_⟩; have n0_ := Aside0.mk (Kd.S_below (ps_ HO571.out) hb); have n1_ := Aside0.mk (Kd.R_below (pr_ HO573.out) hb); have n2_ := Aside0.mk (Kd.R_below (pr_ HO577.out) hb); have n3_ := Aside0.mk (below_step (pb_ HB.out) hb); clear HO571; clear HO573; clear HO577; clear HB; have HO571 := n0_; have HO573 := n1_; have HO577 := n2_; have HB := n3_; clear n0_ n1_ n2_ n3_; (try clear hb); (try clear hb2); (try clear hk); (try clear hi)))
        go_meet
        case rel => exact ⟨_, (decide (t574 > 16)), el_, H', ⟨by first | omega | exact Nat.le_refl _⟩, ⟨ps_ (Kd.S_mono HO571.out (fun _ hk => hk.2))⟩, ⟨pr_ (Kd.R_mono HO577.out (fun _ hk => trivial))⟩, ⟨pb_ HB.out⟩⟩
      rw [if_pos c15] at H
      have c15b0 : decide (t574 < 0) = true := decide_eq_true c15
      clear c15
      (first | rw [c15b0] | (simp only [i64_w, i32_w]; rw [c15b0]) | skip)
      have H' := Aside0.mk H
      clear H
      go_wp2_with (first | ((with_reducible refine gate_callee (f := 63) rfl ?_); refine goesL_ (some 26) rfl rfl Try.func63 (by kernel_rfl) rfl #[.slice Ao9 t568.length co9, .slice Ao10 t569.length co10] rfl mp_ ?_; (with_reducible refine (impl_IsOpenPath.calls k _ _ t568 _ _ t569 false _ ?side1 ?side2 ?side3 ?side4 A13.out).mono ?_); (case side1 => exact pc_ ((Kd.S_reads' HO571.out).2.2)); (case side2 => exact (Kd.S_reads' HO571.out).2.1); (case side3 => exact pc_ ((Kd.R_reads' HO573.out).2.2)); (case side4 => exact (Kd.R_reads' HO573.out).2.1); rintro e w17 ⟨rfl, hb⟩; refine ⟨_, rfl, ?_⟩; have n0_ := Aside0.mk (Kd.S_below (ps_ HO571.out) hb); have n1_ := Aside0.mk (Kd.R_below (pr_ HO573.out) hb); have n2_ := Aside0.mk (Kd.R_below (pr_ HO577.out) hb); have n3_ := Aside0.mk (below_step (pb_ HB.out) hb); clear HO571; clear HO573; clear HO577; clear HB; have HO571 := n0_; have HO573 := n1_; have HO577 := n2_; have HB := n3_; clear n0_ n1_ n2_ n3_; (try clear hb); (try clear hb2); (try clear hk); (try clear hi)))
      go_meet
      case rel => exact ⟨_, (true), el_, H', ⟨by first | omega | exact Nat.le_refl _⟩, ⟨ps_ (Kd.S_mono HO571.out (fun _ hk => hk.2))⟩, ⟨pr_ (Kd.R_mono HO577.out (fun _ hk => trivial))⟩, ⟨pb_ HB.out⟩⟩
    subst c14
    rw [if_pos rfl] at H
    by_cases c18 : t574 > 0
    rotate_left
    · rw [if_neg c18] at H
      have c18b0 : decide (0 < t574) = false := decide_eq_false c18
      clear c18
      by_cases c19 : (t575.length : Int) > 0
      · rw [if_pos c19] at H
        have c19b0 : decide (0 < (t575.length : Int)) = true := decide_eq_true c19
        have c19b1 : decide (0 < t575.length) = true := decide_eq_true (by omega)
        clear c19
        have H' := Aside0.mk H
        clear H
        go_wp2_with (first | ((with_reducible refine gate_callee (f := 63) rfl ?_); refine goesL_ (some 26) rfl rfl Try.func63 (by kernel_rfl) rfl #[.slice Ao9 t568.length co9, .slice Ao10 t569.length co10] rfl mp_ ?_; (with_reducible refine (impl_IsOpenPath.calls k _ _ t568 _ _ t569 true _ ?side1 ?side2 ?side3 ?side4 A13.out).mono ?_); (case side1 => exact pc_ ((Kd.S_reads' HO571.out).2.2)); (case side2 => exact (Kd.S_reads' HO571.out).2.1); (case side3 => exact pc_ ((Kd.R_reads' HO573.out).2.2)); (case side4 => exact (Kd.R_reads' HO573.out).2.1); rintro e w20 ⟨rfl, hb⟩; refine ⟨_, rfl, ?_⟩; have n0_ := Aside0.mk (Kd.S_below (ps_ HO571.out) hb); have n1_ := Aside0.mk (Kd.R_below (pr_ HO573.out) hb); have n2_ := Aside0.mk (Kd.R_below (pr_ HO577.out) hb); have n3_ := Aside0.mk (below_step (pb_ HB.out) hb); clear HO571; clear HO573; clear HO577; clear HB; have HO571 := n0_; have HO573 := n1_; have HO577 := n2_; have HB := n3_; clear n0_ n1_ n2_ n3_; (try clear hb); (try clear hb2); (try clear hk); (try clear hi); obtain ⟨Ao21, co21, eo21⟩ := Kd.R_slice HO577.out; subst eo21))
        go_meet
        case rel => exact ⟨_, (true), el_, H', ⟨by first | omega | exact Nat.le_refl _⟩, ⟨ps_ (Kd.S_mono HO571.out (fun _ hk => hk.2))⟩, ⟨pr_ (Kd.R_mono HO577.out (fun _ hk => trivial))⟩, ⟨pb_ HB.out⟩⟩
      rw [if_neg c19] at H
      have c19b0 : decide (0 < (t575.length : Int)) = false := decide_eq_false c19
      have c19b1 : decide (0 < t575.length) = false := decide_eq_false (by omega)
      clear c19
      by_cases c22 : t574 < 0
      rotate_left
      · rw [if_neg c22] at H
        have c22b0 : decide (t574 < 0) = false := decide_eq_false c22
        clear c22
        have H' := Aside0.mk H
        clear H
        go_wp2_with (first | ((with_reducible refine gate_callee (f := 63) rfl ?_); refine goesL_ (some 26) rfl rfl Try.func63 (by kernel_rfl) rfl #[.slice Ao9 t568.length co9, .slice Ao10 t569.length co10] rfl mp_ ?_; (with_reducible refine (impl_IsOpenPath.calls k _ _ t568 _ _ t569 true _ ?side1 ?side2 ?side3 ?side4 A13.out).mono ?_); (case side1 => exact pc_ ((Kd.S_reads' HO571.out).2.2)); (case side2 => exact (Kd.S_reads' HO571.out).2.1); (case side3 => exact pc_ ((Kd.R_reads' HO573.out).2.2)); (case side4 => exact (Kd.R_reads' HO573.out).2.1); rintro e w23 ⟨rfl, hb⟩; refine ⟨_, rfl, ?_⟩; have n0_ := Aside0.mk (Kd.S_below (ps_ HO571.out) hb); have n1_ := Aside0.mk (Kd.R_below (pr_ HO573.out) hb); have n2_ := Aside0.mk (Kd.R_below (pr_ HO577.out) hb); have n3_ := Aside0.mk (below_step (pb_ HB.out) hb); clear HO571; clear HO573; clear HO577; clear HB; have HO571 := n0_; have HO573 := n1_; have HO577 := n2_; have HB := n3_; clear n0_ n1_ n2_ n3_; (try clear hb); (try clear hb2); (try clear hk); (try clear hi); obtain ⟨Ao24, co24, eo24⟩ := Kd.R_slice HO577.out; subst eo24))
        go_meet
        case rel => exact ⟨_, (decide (t574 > 16)), el_, H', ⟨by first | omega | exact Nat.le_refl _⟩, ⟨ps_ (Kd.S_mono HO571.out (fun _ hk => hk.2))⟩, ⟨pr_ (Kd.R_mono HO577.out (fun _ hk => trivial))⟩, ⟨pb_ HB.out⟩⟩
      rw [if_pos c22] at H
      have c22b0 : decide (t574 < 0) = true := decide_eq_true c22
      clear c22
      have H' := Aside0.mk H
      clear H
      go_wp2_with (first | ((with_reducible refine gate_callee (f := 63) rfl ?_); refine goesL_ (some 26) rfl rfl Try.func63 (by kernel_rfl) rfl #[.slice Ao9 t568.length co9, .slice Ao10 t569.length co10] rfl mp_ ?_; (with_reducible refine (impl_IsOpenPath.calls k _ _ t568 _ _ t569 true _ ?side1 ?side2 ?side3 ?side4 A13.out).mono ?_); (case side1 => exact pc_ ((Kd.S_reads' HO571.out).2.2)); (case side2 => exact (Kd.S_reads' HO571.out).2.1); (case side3 => exact pc_ ((Kd.R_reads' HO573.out).2.2)); (case side4 => exact (Kd.R_reads' HO573.out).2.1); rintro e w25 ⟨rfl, hb⟩; refine ⟨_, rfl, ?_⟩; have n0_ := Aside0.mk (Kd.S_below (ps_ HO571.out) hb); have n1_ := Aside0.mk (Kd.R_below (pr_ HO573.out) hb); have n2_ := Aside0.mk (Kd.R_below (pr_ HO577.out) hb); have n3_ := Aside0.mk (below_step (pb_ HB.out) hb); clear HO571; clear HO573; clear HO577; clear HB; have HO571 := n0_; have HO573 := n1_; have HO577 := n2_; have HB := n3_; clear n0_ n1_ n2_ n3_; (try clear hb); (try clear hb2); (try clear hk); (try clear hi); obtain ⟨Ao26, co26, eo26⟩ := Kd.R_slice HO577.out; subst eo26))
      go_meet
      case rel => exact ⟨_, (true), el_, H', ⟨by first | omega | exact Nat.le_refl _⟩, ⟨ps_ (Kd.S_mono HO571.out (fun _ hk => hk.2))⟩, ⟨pr_ (Kd.R_mono HO577.out (fun _ hk => trivial))⟩, ⟨pb_ HB.out⟩⟩
    rw [if_pos c18] at H
    have c18b0 : decide (0 < t574) = true := decide_eq_true c18
    clear c18
    by_cases c27 : (t575.length : Int) > 0
    rotate_left
    · rw [if_neg c27] at H
      have c27b0 : decide (0 < (t575.length : Int)) = false := decide_eq_false c27
      have c27b1 : decide (0 < t575.length) = false := decide_eq_false (by omega)
      clear c27
      have H' := Aside0.mk H
      clear H
      go_wp2_with (first | ((with_reducible refine gate_callee (f := 63) rfl ?_); refine goesL_ (some 26) rfl rfl Try.func63 (by kernel_rfl) rfl #[.slice Ao9 t568.length co9, .slice Ao10 t569.length co10] rfl mp_ ?_; (with_reducible refine (impl_IsOpenPath.calls k _ _ t568 _ _ t569 true _ ?side1 ?side2 ?side3 ?side4 A13.out).mono ?_); (case side1 => exact pc_ ((Kd.S_reads' HO571.out).2.2)); (case side2 => exact (Kd.S_reads' HO571.out).2.1); (case side3 => exact pc_ ((Kd.R_reads' HO573.out).2.2)); (case side4 => exact (Kd.R_reads' HO573.out).2.1); rintro e w28 ⟨rfl, hb⟩; refine ⟨_, rfl, ?_⟩; have n0_ := Aside0.mk (Kd.S_below (ps_ HO571.out) hb); have n1_ := Aside0.mk (Kd.R_below (pr_ HO573.out) hb); have n2_ := Aside0.mk (Kd.R_below (pr_ HO577.out) hb); have n3_ := Aside0.mk (below_step (pb_ HB.out) hb); clear HO571; clear HO573; clear HO577; clear HB; have HO571 := n0_; have HO573 := n1_; have HO577 := n2_; have HB := n3_; clear n0_ n1_ n2_ n3_; (try clear hb); (try clear hb2); (try clear hk); (try clear hi); obtain ⟨Ao29, co29, eo29⟩ := Kd.R_slice HO577.out; subst eo29))
      go_meet
      case rel => exact ⟨_, (true), el_, H', ⟨by first | omega | exact Nat.le_refl _⟩, ⟨ps_ (Kd.S_mono HO571.out (fun _ hk => hk.2))⟩, ⟨pr_ (Kd.R_mono HO577.out (fun _ hk => trivial))⟩, ⟨pb_ HB.out⟩⟩
    rw [if_pos c27] at H
    have c27b0 : decide (0 < (t575.length : Int)) = true := decide_eq_true c27
    have c27b1 : decide (0 < t575.length) = true := decide_eq_true (by omega)
    clear c27
    by_cases c30 : t574 < 0
    rotate_left
    · rw [if_neg c30] at H
      have c30b0 : decide (t574 < 0) = false := decide_eq_false c30
      clear c30
      have H' := Aside0.mk H
      clear H
      go_wp2_with (first | ((with_reducible refine gate_callee (f := 63) rfl ?_); refine goesL_ (some 26) rfl rfl Try.func63 (by kernel_rfl) rfl #[.slice Ao9 t568.length co9, .slice Ao10 t569.length co10] rfl mp_ ?_; (with_reducible refine (impl_IsOpenPath.calls k _ _ t568 _ _ t569 true _ ?side1 ?side2 ?side3 ?side4 A13.out).mono ?_); (case side1 => exact pc_ ((Kd.S_reads' HO571.out).2.2)); (case side2 => exact (Kd.S_reads' HO571.out).2.1); (case side3 => exact pc_ ((Kd.R_reads' HO573.out).2.2)); (case side4 => exact (Kd.R_reads' HO573.out).2.1); rintro e w31 ⟨rfl, hb⟩; refine ⟨_, rfl, ?_⟩; have n0_ := Aside0.mk (Kd.S_below (ps_ HO571.out) hb); have n1_ := Aside0.mk (Kd.R_below (pr_ HO573.out) hb); have n2_ := Aside0.mk (Kd.R_below (pr_ HO577.out) hb); have n3_ := Aside0.mk (below_step (pb_ HB.out) hb); clear HO571; clear HO573; clear HO577; clear HB; have HO571 := n0_; have HO573 := n1_; have HO577 := n2_; have HB := n3_; clear n0_ n1_ n2_ n3_; (try clear hb); (try clear hb2); (try clear hk); (try clear hi); obtain ⟨Ao32, co32, eo32⟩ := Kd.R_slice HO577.out; subst eo32))
      go_meet
      case rel => exact ⟨_, (decide (t574 > 16)), el_, H', ⟨by first | omega | exact Nat.le_refl _⟩, ⟨ps_ (Kd.S_mono HO571.out (fun _ hk => hk.2))⟩, ⟨pr_ (Kd.R_mono HO577.out (fun _ hk => trivial))⟩, ⟨pb_ HB.out⟩⟩
    rw [if_pos c30] at H
    have c30b0 : decide (t574 < 0) = true := decide_eq_true c30
    clear c30
    have H' := Aside0.mk H
    clear H
    go_wp2_with (first | ((with_reducible refine gate_callee (f := 63) rfl ?_); refine goesL_ (some 26) rfl rfl Try.func63 (by kernel_rfl) rfl #[.slice Ao9 t568.length co9, .slice Ao10 t569.length co10] rfl mp_ ?_; (with_reducible refine (impl_IsOpenPath.calls k _ _ t568 _ _ t569 true _ ?side1 ?side2 ?side3 ?side4 A13.out).mono ?_); (case side1 => exact pc_ ((Kd.S_reads' HO571.out).2.2)); (case side2 => exact (Kd.S_reads' HO571.out).2.1); (case side3 => exact pc_ ((Kd.R_reads' HO573.out).2.2)); (case side4 => exact (Kd.R_reads' HO573.out).2.1); rintro e w33 ⟨rfl, hb⟩; refine ⟨_, rfl, ?_⟩; have n0_ := Aside0.mk (Kd.S_below (ps_ HO571.out) hb); have n1_ := Aside0.mk (Kd.R_below (pr_ HO573.out) hb); have n2_ := Aside0.mk (Kd.R_below (pr_ HO577.out) hb); have n3_ := Aside0.mk (below_step (pb_ HB.out) hb); clear HO571; clear HO573; clear HO577; clear HB; have HO571 := n0_; have HO573 := n1_; have HO577 := n2_; have HB := n3_; clear n0_ n1_ n2_ n3_; (try clear hb); (try clear hb2); (try clear hk); (try clear hi); obtain ⟨Ao34, co34, eo34⟩ := Kd.R_slice HO577.out; subst eo34))
    go_meet
    case rel => exact ⟨_, (true), el_, H', ⟨by first | omega | exact Nat.le_refl _⟩, ⟨ps_ (Kd.S_mono HO571.out (fun _ hk => hk.2))⟩, ⟨pr_ (Kd.R_mono HO577.out (fun _ hk => trivial))⟩, ⟨pb_ HB.out⟩⟩
  clear HC7
  try clear c1
  try clear c2
  try clear p2
  try clear c3
  try clear c5
  try clear c6
  try clear c14
  try clear c15
  try clear c15b0
  try clear c18
  try clear c18b0
  try clear c19
  try clear c19b0
  try clear c19b1
  try clear c22
  try clear c22b0
  try clear c27
  try clear c27b0
  try clear c27b1
  try clear c30
  try clear c30b0
  try clear c33
  obtain ⟨kq, x42_6, rfl, HA, HJ6, HO_3, HO_6, HB⟩ := hcut
  rcases kq with _ | kj6
  · exact absurd HA.out (by simp [laws_FnHardened.j0])
  have H := HA.out
  clear HA
  simp only [laws_FnHardened.j0] at H
  by_cases c35 : x42_6 = true
  rotate_left
  · replace c35 := Bool.eq_false_iff.mpr c35
    subst c35
    rw [if_neg (show ¬ (false = true) by decide)] at H
    have H' := Aside0.mk H
    clear H
    go_wp2
    go_loopg [7] kj6 (fun kq v7 w' => ∃ (x7_2 : Int), v7 = .int .i64 x7_2 ∧ Aside0 (laws_FnHardened.l0 kq l0 t568 t575 x7_2 = some r) ∧ Aside0 (kq ≤ kj6) ∧ Aside0 (Kd.S k67 67 w' w.heap.size (fun k_ => some k_ ≠ (v576 : Value).ownBlock) (.slice Ao9 t568.length co9) t568) ∧ Aside0 (Kd.R (Kd.int .i64) 3 w' w.heap.size (fun _ => True) v576 t575) ∧ Aside0 (Below w.heap.size w w'))
    case atStart => exact ⟨(0), el_, H', ⟨Nat.le_refl _⟩, ⟨ps_ HO_3.out⟩, ⟨pr_ HO_6.out⟩, ⟨pb_ HB.out⟩⟩
    clear H'
    try clear c1
    try clear c2
    try clear p2
    try clear c3
    try clear c5
    try clear c6
    try clear c14
    try clear c15
    try clear c15b0
    try clear c18
    try clear c18b0
    try clear c19
    try clear c19b0
    try clear c19b1
    try clear c22
    try clear c22b0
    try clear c27
    try clear c27b0
    try clear c27b1
    try clear c30
    try clear c30b0
    try clear c33
    try clear c35
    try clear p2
    obtain ⟨x7_2, rfl, HA, HK2, HO_3, HO_6, HB⟩ := hrel
    rcases gk with _ | k2
    · exact absurd HA.out (by simp [laws_FnHardened.l0])
    have H := HA.out
    clear HA
    simp only [laws_FnHardened.l0] at H
    by_cases c36 : x7_2 < (t575.length : Int)
    rotate_left
    · rw [if_neg c36] at H
      have c36b0 : decide (x7_2 < (t575.length : Int)) = false := decide_eq_false c36
      clear c36
      replace H := Option.bind_eq_some_iff.mp H
      obtain ⟨⟨t585, t586, t587⟩, A370, H⟩ := H
      (try dsimp only at H)
      have A37 := Aside0.mk A370
      clear A370
      have HS_ := Aside0.mk H
      clear H
      obtain ⟨Ao38, co38, eo38⟩ := Kd.R_slice HO_6.out
      subst eo38
      go_upto_region 14 with (first | ((with_reducible refine gate_callee (f := 65) rfl ?_); refine goesL_ (some 70) rfl rfl Try.func65 (by kernel_rfl) rfl #[.slice A0 l0.length c0] rfl mp_ ?_; (with_reducible refine (spec_DrawFindSeed.calls k2 _ _ l0 t585 t586 t587 _ ?side1 ?side2 A37.out).mono ?_); (case side1 => exact pc_ (Kd.C_below HR0.out HB.out)); (case side2 => exact HC0.out); rintro e w39 ⟨v588, v590, rfl, ho0, ho1, hb⟩; refine ⟨_, rfl, ?_⟩; have n0_ := Aside0.mk (Kd.S_mono (Kd.S_told (Kd.S_told (Kd.S_old (ps_ HO_3.out) hb) (Kd.S_base ho0)) (Kd.R_base ho1)) (fun _ h_ => h_.1)); have n1_ := Aside0.mk (Kd.R_elder' (pr_ HO_6.out) (Kd.R_base ho1) hb); have n2_ := Aside0.mk (Kd.S_lower (Kd.S_new' (Kd.S_new' ho0 (Kd.S_lt (ps_ HO_3.out))) (Kd.R_lt (pr_ HO_6.out))) (below_size (pb_ HB.out))); have n3_ := Aside0.mk (Kd.R_lower (Kd.R_new' ho1 (Kd.R_lt (pr_ HO_6.out))) (below_size (pb_ HB.out))); have n4_ := Aside0.mk (below_step (pb_ HB.out) hb); clear HO_3; clear HO_6; clear HB; have HO_3 := n0_; have HO_6 := n1_; have HO589 := n2_; have HO591 := n3_; have HB := n4_; clear n0_ n1_ n2_ n3_ n4_; (try clear hb); (try clear hb2); (try clear hk); (try clear hi); (try clear ho0); (try clear ho1)))
      (try simp only [Act.put, List.setIfInBounds_toArray, List.set_cons_zero, List.set_cons_succ])
      have H := HS_.out
      clear HS_
      replace H := Option.bind_eq_some_iff.mp H
      obtain ⟨t592, A400, H⟩ := H
      (try dsimp only at H)
      have A40 := Aside0.mk A400
      clear A400
      have HS_ := Aside0.mk H
      clear H
      obtain ⟨Ao41, co41, eo41⟩ := Kd.S_slice HO589.out
      subst eo41
      obtain ⟨Ao42, co42, eo42⟩ := Kd.R_slice HO591.out
      subst eo42
      go_upto_region 15 with (first | ((with_reducible refine gate_callee (f := 66) rfl ?_); refine goesL_ (some 77) rfl rfl Try.func66 (by kernel_rfl) rfl #[.slice Ao41 t585.length co41, .slice Ao42 t586.length co42, .int .i64 t587] rfl mp_ ?_; (with_reducible refine (impl_FindSeed.calls k2 _ _ t585 _ _ t586 t587 t592 _ ?side1 ?side2 ?side3 ?side4 A40.out).mono ?_); (case side1 => exact pc_ ((Kd.S_reads' HO589.out).2.2)); (case side2 => exact (Kd.S_reads' HO589.out).2.1); (case side3 => exact pc_ ((Kd.R_reads' HO591.out).2.2)); (case side4 => exact (Kd.R_reads' HO591.out).2.1); rintro e w43 ⟨rfl, hb⟩; refine ⟨_, rfl, ?_⟩; have n0_ := Aside0.mk (Kd.S_below (ps_ HO_3.out) hb); have n1_ := Aside0.mk (Kd.R_below (pr_ HO_6.out) hb); have n2_ := Aside0.mk (Kd.S_below (ps_ HO589.out) hb); have n3_ := Aside0.mk (Kd.R_below (pr_ HO591.out) hb); have n4_ := Aside0.mk (below_step (pb_ HB.out) hb); clear HO_3; clear HO_6; clear HO589; clear HO591; clear HB; have HO_3 := n0_; have HO_6 := n1_; have HO589 := n2_; have HO591 := n3_; have HB := n4_; clear n0_ n1_ n2_ n3_ n4_; (try clear hb); (try clear hb2); (try clear hk); (try clear hi)))
      (try simp only [Act.put, List.setIfInBounds_toArray, List.set_cons_zero, List.set_cons_succ])
      have H := HS_.out
      clear HS_
      by_cases c44 : t592 = (-1)
      · rw [if_pos c44] at H
        have c44b0 : (t592 == (-1)) = true := beq_iff_eq.mpr c44
        have c44b1 : (t592 != (-1)) = false := bne_eq_false_iff_eq.mpr c44
        clear c44
        (first | rw [c44b0] | (simp only [i64_w, i32_w]; rw [c44b0]) | rw [c44b1] | (have c_ := c44b1; rw [bne] at c_; rw [c_]; clear c_) | skip)
        obtain rfl := Option.some.inj H
        go_wp2
        go_ret
        exact ⟨er_, pb_ HB.out⟩
      rw [if_neg c44] at H
      have c44b0 : (t592 == (-1)) = false := beq_eq_false_iff_ne.mpr c44
      have c44b1 : (t592 != (-1)) = true := bne_iff_ne.mpr c44
      (first | rw [c44b0] | (simp only [i64_w, i32_w]; rw [c44b0]) | rw [c44b1] | (have c_ := c44b1; rw [bne] at c_; rw [c_]; clear c_) | skip)
      by_cases c45 : t592 < t587
      rotate_left
      · rw [if_neg c45] at H
        have c45b0 : decide (t592 < t587) = false := decide_eq_false c45
        clear c45
        obtain rfl := Option.some.inj H
        go_wp2
        go_ret
        exact ⟨er_, pb_ HB.out⟩
      rw [if_pos c45] at H
      have c45b0 : decide (t592 < t587) = true := decide_eq_true c45
      clear c45
      replace H := Option.bind_eq_some_iff.mp H
      obtain ⟨t593, A460, H⟩ := H
      (try dsimp only at H)
      have A46 := Aside0.mk A460
      clear A460
      by_cases c47 : t593 = true
      rotate_left
      · replace c47 := Bool.eq_false_iff.mpr c47
        subst c47
        rw [if_neg (show ¬ (false = true) by decide)] at H
        obtain rfl := Option.some.inj H
        go_wp2_with (first | (go_at_call 67; (with_reducible refine (impl_GreaseLost.calls k2 _ _ t585 _ _ t586 t592 false _ ?side1 ?side2 ?side3 ?side4 A46.out).mono ?_); (case side1 => exact pc_ ((Kd.S_reads' HO589.out).2.2)); (case side2 => exact (Kd.S_reads' HO589.out).2.1); (case side3 => exact pc_ ((Kd.R_reads' HO591.out).2.2)); (case side4 => exact (Kd.R_reads' HO591.out).2.1); rintro e w48 ⟨rfl, hb⟩; have n0_ := Aside0.mk (Kd.S_below (ps_ HO_3.out) hb); have n1_ := Aside0.mk (Kd.R_below (pr_ HO_6.out) hb); have n2_ := Aside0.mk (Kd.S_below (ps_ HO589.out) hb); have n3_ := Aside0.mk (Kd.R_below (pr_ HO591.out) hb); have n4_ := Aside0.mk (below_step (pb_ HB.out) hb); clear HO_3; clear HO_6; clear HO589; clear HO591; clear HB; have HO_3 := n0_; have HO_6 := n1_; have HO589 := n2_; have HO591 := n3_; have HB := n4_; clear n0_ n1_ n2_ n3_ n4_; (try clear hb); (try clear hb2); (try clear hk); (try clear hi)))
        go_ret
        exact ⟨er_, pb_ HB.out⟩
      subst c47
      rw [if_pos rfl] at H
      replace H := Option.bind_eq_some_iff.mp H
      obtain ⟨t594, A490, H⟩ := H
      replace H : (some (decide (t594 > 0))) = some r := H
      have A49 := Aside0.mk A490
      clear A490
      obtain rfl := Option.some.inj H
      go_wp2_with (first | (go_at_call 67; (with_reducible refine (impl_GreaseLost.calls k2 _ _ t585 _ _ t586 t592 true _ ?side1 ?side2 ?side3 ?side4 A46.out).mono ?_); (case side1 => exact pc_ ((Kd.S_reads' HO589.out).2.2)); (case side2 => exact (Kd.S_reads' HO589.out).2.1); (case side3 => exact pc_ ((Kd.R_reads' HO591.out).2.2)); (case side4 => exact (Kd.R_reads' HO591.out).2.1); rintro e w50 ⟨rfl, hb⟩; have n0_ := Aside0.mk (Kd.S_below (ps_ HO_3.out) hb); have n1_ := Aside0.mk (Kd.R_below (pr_ HO_6.out) hb); have n2_ := Aside0.mk (Kd.S_below (ps_ HO589.out) hb); have n3_ := Aside0.mk (Kd.R_below (pr_ HO591.out) hb); have n4_ := Aside0.mk (below_step (pb_ HB.out) hb); clear HO_3; clear HO_6; clear HO589; clear HO591; clear HB; have HO_3 := n0_; have HO_6 := n1_; have HO589 := n2_; have HO591 := n3_; have HB := n4_; clear n0_ n1_ n2_ n3_ n4_; (try clear hb); (try clear hb2); (try clear hk); (try clear hi)) | (go_at_call 62; (with_reducible refine (impl_HardnessOf.calls k2 _ _ t585 _ _ t586 t594 _ ?side1 ?side2 ?side3 ?side4 A49.out).mono ?_); (case side1 => exact pc_ ((Kd.S_reads' HO589.out).2.2)); (case side2 => exact (Kd.S_reads' HO589.out).2.1); (case side3 => exact pc_ ((Kd.R_reads' HO591.out).2.2)); (case side4 => exact (Kd.R_reads' HO591.out).2.1); rintro e w51 ⟨rfl, hb⟩; have n0_ := Aside0.mk (Kd.S_below (ps_ HO_3.out) hb); have n1_ := Aside0.mk (Kd.R_below (pr_ HO_6.out) hb); have n2_ := Aside0.mk (Kd.S_below (ps_ HO589.out) hb); have n3_ := Aside0.mk (Kd.R_below (pr_ HO591.out) hb); have n4_ := Aside0.mk (below_step (pb_ HB.out) hb); clear HO_3; clear HO_6; clear HO589; clear HO591; clear HB; have HO_3 := n0_; have HO_6 := n1_; have HO589 := n2_; have HO591 := n3_; have HB := n4_; clear n0_ n1_ n2_ n3_ n4_; (try clear hb); (try clear hb2); (try clear hk); (try clear hi)))
      go_ret
      exact ⟨er_, pb_ HB.out⟩
    rw [if_pos c36] at H
    have c36b0 : decide (x7_2 < (t575.length : Int)) = true := decide_eq_true c36
    clear c36
    by_cases c52 : 0 ≤ x7_2
    rotate_left
    · rw [if_neg c52] at H
      exact absurd H (by simp)
    rw [if_pos c52] at H
    have c52b0 : decide (0 ≤ x7_2) = true := decide_eq_true c52
    clear c52
    by_cases c53 : 0 ≤ (rd t575 x7_2)
    rotate_left
    · rw [if_neg c53] at H
      exact absurd H (by simp)
    rw [if_pos c53] at H
    have c53b0 : decide (0 ≤ (rd t575 x7_2)) = true := decide_eq_true c53
    clear c53
    by_cases c54 : (rd t575 x7_2) < (t568.length : Int)
    rotate_left
    · rw [if_neg c54] at H
      exact absurd H (by simp)
    rw [if_pos c54] at H
    have c54b0 : decide ((rd t575 x7_2) < (t568.length : Int)) = true := decide_eq_true c54
    clear c54
    replace H := Option.bind_eq_some_iff.mp H
    obtain ⟨t581, A550, H⟩ := H
    (try dsimp only at H)
    have A55 := Aside0.mk A550
    clear A550
    by_cases c56 : t581 = true
    rotate_left
    · replace c56 := Bool.eq_false_iff.mpr c56
      subst c56
      rw [if_neg (show ¬ (false = true) by decide)] at H
      obtain rfl := Option.some.inj H
      obtain ⟨Ao57, co57, eo57⟩ := Kd.R_slice HO_6.out
      subst eo57
      have p579 : 0 ≤ (x7_2 : Int) := dt_
      have q579 : x7_2 < (t575.length : Int) := dt_
      obtain ⟨ad579, e579, hx579_0⟩ := Kd.at_int (Kd.R_reads' HO_6.out).2.2 x7_2 p579 q579
      cases e579
      replace p579 := eq_true p579
      replace q579 := eq_true q579
      have p580 : 0 ≤ ((rd t575 x7_2) : Int) := dt_
      have q580 : (rd t575 x7_2) < (t568.length : Int) := dt_
      obtain ⟨ad580, A580_1, c580_1, A580_2, c580_2, e580, hx580_0, hx580_1, hx580_2, hx580_3, hl580_1, hi580_1, hl580_2, hi580_2⟩ := at_T67 (Kd.S_reads' HO_3.out).2.2 (rd t575 x7_2) p580 q580
      cases e580
      obtain ⟨ce580, hce580, hMe580, hcc580⟩ := Kd.S_get HO_3.out z67 (rd t575 x7_2) p580 (by first | exact q580 | exact dt_ | (have e_ := (Kd.S_reads' HO_3.out).1; omega))
      obtain ⟨ve580_1, ve580_2, rfl, ge580_1, ge580_2⟩ := k67_openM hMe580
      have hv580_1 := hcc580 1 _ rfl
      rw [add_field _ _ 1 (by omega)] at hv580_1
      replace hv580_1 := Option.some.inj (hv580_1.symm.trans hx580_1)
      rw [hv580_1] at ge580_1
      have HL580_1 := Aside0.mk (show Kd.R (Kd.int .i64) 3 _ _ _ _ ((rd_T67 t568 (rd t575 x7_2)).f1) from ge580_1)
      clear hv580_1 ge580_1
      have hv580_2 := hcc580 2 _ rfl
      rw [add_field _ _ 2 (by omega)] at hv580_2
      replace hv580_2 := Option.some.inj (hv580_2.symm.trans hx580_2)
      rw [hv580_2] at ge580_2
      have HL580_2 := Aside0.mk (show Kd.R (Kd.int .i64) 3 _ _ _ _ ((rd_T67 t568 (rd t575 x7_2)).f2) from ge580_2)
      clear hv580_2 ge580_2
      clear hcc580 hce580
      have HR580_1 := Aside0.mk hi580_1
      have HC580_1 := Aside0.mk hl580_1
      clear hi580_1 hl580_1
      have HR580_2 := Aside0.mk hi580_2
      have HC580_2 := Aside0.mk hl580_2
      clear hi580_2 hl580_2
      replace p580 := eq_true p580
      replace q580 := eq_true q580
      go_wp2_with (first | ((with_reducible refine gate_callee (f := 53) rfl ?_); refine goesL_ (some 56) rfl rfl Try.func53 (by kernel_rfl) rfl #[.agg #[.int .i64 ((rd_T67 t568 (rd t575 x7_2)).f0), .slice A580_1 ((rd_T67 t568 (rd t575 x7_2)).f1).length c580_1, .slice A580_2 ((rd_T67 t568 (rd t575 x7_2)).f2).length c580_2, .bool ((rd_T67 t568 (rd t575 x7_2)).f3)]] rfl mp_ ?_; (with_reducible refine (impl_RefusesGrease.calls k2 ((rd_T67 t568 (rd t575 x7_2)).f0) _ _ ((rd_T67 t568 (rd t575 x7_2)).f1) _ _ ((rd_T67 t568 (rd t575 x7_2)).f2) ((rd_T67 t568 (rd t575 x7_2)).f3) false _ ?side1 ?side2 ?side3 ?side4 A55.out).mono ?_); (case side1 => repeat (first | exact (by repeat (first | (with_reducible exact HR580_1.out) | (with_reducible refine Kd.C_alloc ?_ _) | (with_reducible refine Kd.C_drewN ?_ _) | (with_reducible refine Kd.C_drew ?_) | exact HR580_1.out)) | (with_reducible refine Kd.C_alloc ?_ _) | (with_reducible refine Kd.C_drewN ?_ _) | (with_reducible refine Kd.C_drew ?_))); (case side2 => exact HC580_1.out); (case side3 => repeat (first | exact (by repeat (first | (with_reducible exact HR580_2.out) | (with_reducible refine Kd.C_alloc ?_ _) | (with_reducible refine Kd.C_drewN ?_ _) | (with_reducible refine Kd.C_drew ?_) | exact HR580_2.out)) | (with_reducible refine Kd.C_alloc ?_ _) | (with_reducible refine Kd.C_drewN ?_ _) | (with_reducible refine Kd.C_drew ?_))); (case side4 => exact HC580_2.out); rintro e w58 ⟨rfl, hb⟩; refine ⟨_, rfl, ?_⟩; have n0_ := Aside0.mk (Kd.S_below (ps_ HO_3.out) hb); have n1_ := Aside0.mk (Kd.R_below (pr_ HO_6.out) hb); have n2_ := Aside0.mk (Kd.R_below (pr_ HL580_1.out) hb); have n3_ := Aside0.mk (Kd.R_below (pr_ HL580_2.out) hb); have n4_ := Aside0.mk (Kd.C_below (by repeat (first | (with_reducible exact HR580_1.out) | (with_reducible refine Kd.C_alloc ?_ _) | (with_reducible refine Kd.C_drewN ?_ _) | (with_reducible refine Kd.C_drew ?_) | exact HR580_1.out)) hb); have n5_ := Aside0.mk (Kd.C_below (by repeat (first | (with_reducible exact HR580_2.out) | (with_reducible refine Kd.C_alloc ?_ _) | (with_reducible refine Kd.C_drewN ?_ _) | (with_reducible refine Kd.C_drew ?_) | exact HR580_2.out)) hb); have n6_ := Aside0.mk (below_step (pb_ HB.out) hb); clear HO_3; clear HO_6; clear HL580_1; clear HL580_2; clear HR580_1; clear HR580_2; clear HB; have HO_3 := n0_; have HO_6 := n1_; have HL580_1 := n2_; have HL580_2 := n3_; have HR580_1 := n4_; have HR580_2 := n5_; have HB := n6_; clear n0_ n1_ n2_ n3_ n4_ n5_ n6_; (try clear hb); (try clear hb2); (try clear hk); (try clear hi)))
      go_ret
      exact ⟨er_, pb_ HB.out⟩
    subst c56
    rw [if_pos rfl] at H
    replace H := Option.bind_eq_some_iff.mp H
    obtain ⟨t584, A590, H⟩ := H
    (try dsimp only at H)
    have A59 := Aside0.mk A590
    clear A590
    have HS_ := Aside0.mk H
    clear H
    obtain ⟨Ao60, co60, eo60⟩ := Kd.R_slice HO_6.out
    subst eo60
    have p579 : 0 ≤ (x7_2 : Int) := dt_
    have q579 : x7_2 < (t575.length : Int) := dt_
    obtain ⟨ad579, e579, hx579_0⟩ := Kd.at_int (Kd.R_reads' HO_6.out).2.2 x7_2 p579 q579
    cases e579
    replace p579 := eq_true p579
    replace q579 := eq_true q579
    have p580 : 0 ≤ ((rd t575 x7_2) : Int) := dt_
    have q580 : (rd t575 x7_2) < (t568.length : Int) := dt_
    obtain ⟨ad580, A580_1, c580_1, A580_2, c580_2, e580, hx580_0, hx580_1, hx580_2, hx580_3, hl580_1, hi580_1, hl580_2, hi580_2⟩ := at_T67 (Kd.S_reads' HO_3.out).2.2 (rd t575 x7_2) p580 q580
    cases e580
    obtain ⟨ce580, hce580, hMe580, hcc580⟩ := Kd.S_get HO_3.out z67 (rd t575 x7_2) p580 (by first | exact q580 | exact dt_ | (have e_ := (Kd.S_reads' HO_3.out).1; omega))
    obtain ⟨ve580_1, ve580_2, rfl, ge580_1, ge580_2⟩ := k67_openM hMe580
    have hv580_1 := hcc580 1 _ rfl
    rw [add_field _ _ 1 (by omega)] at hv580_1
    replace hv580_1 := Option.some.inj (hv580_1.symm.trans hx580_1)
    rw [hv580_1] at ge580_1
    have HL580_1 := Aside0.mk (show Kd.R (Kd.int .i64) 3 _ _ _ _ ((rd_T67 t568 (rd t575 x7_2)).f1) from ge580_1)
    clear hv580_1 ge580_1
    have hv580_2 := hcc580 2 _ rfl
    rw [add_field _ _ 2 (by omega)] at hv580_2
    replace hv580_2 := Option.some.inj (hv580_2.symm.trans hx580_2)
    rw [hv580_2] at ge580_2
    have HL580_2 := Aside0.mk (show Kd.R (Kd.int .i64) 3 _ _ _ _ ((rd_T67 t568 (rd t575 x7_2)).f2) from ge580_2)
    clear hv580_2 ge580_2
    clear hcc580 hce580
    have HR580_1 := Aside0.mk hi580_1
    have HC580_1 := Aside0.mk hl580_1
    clear hi580_1 hl580_1
    have HR580_2 := Aside0.mk hi580_2
    have HC580_2 := Aside0.mk hl580_2
    clear hi580_2 hl580_2
    replace p580 := eq_true p580
    replace q580 := eq_true q580
    go_upto_if 67 with (first | ((with_reducible refine gate_callee (f := 53) rfl ?_); refine goesL_ (some 56) rfl rfl Try.func53 (by kernel_rfl) rfl #[.agg #[.int .i64 ((rd_T67 t568 (rd t575 x7_2)).f0), .slice A580_1 ((rd_T67 t568 (rd t575 x7_2)).f1).length c580_1, .slice A580_2 ((rd_T67 t568 (rd t575 x7_2)).f2).length c580_2, .bool ((rd_T67 t568 (rd t575 x7_2)).f3)]] rfl mp_ ?_; (with_reducible refine (impl_RefusesGrease.calls k2 ((rd_T67 t568 (rd t575 x7_2)).f0) _ _ ((rd_T67 t568 (rd t575 x7_2)).f1) _ _ ((rd_T67 t568 (rd t575 x7_2)).f2) ((rd_T67 t568 (rd t575 x7_2)).f3) true _ ?side1 ?side2 ?side3 ?side4 A55.out).mono ?_); (case side1 => repeat (first | exact (by repeat (first | (with_reducible exact HR580_1.out) | (with_reducible refine Kd.C_alloc ?_ _) | (with_reducible refine Kd.C_drewN ?_ _) | (with_reducible refine Kd.C_drew ?_) | exact HR580_1.out)) | (with_reducible refine Kd.C_alloc ?_ _) | (with_reducible refine Kd.C_drewN ?_ _) | (with_reducible refine Kd.C_drew ?_))); (case side2 => exact HC580_1.out); (case side3 => repeat (first | exact (by repeat (first | (with_reducible exact HR580_2.out) | (with_reducible refine Kd.C_alloc ?_ _) | (with_reducible refine Kd.C_drewN ?_ _) | (with_reducible refine Kd.C_drew ?_) | exact HR580_2.out)) | (with_reducible refine Kd.C_alloc ?_ _) | (with_reducible refine Kd.C_drewN ?_ _) | (with_reducible refine Kd.C_drew ?_))); (case side4 => exact HC580_2.out); rintro e w61 ⟨rfl, hb⟩; refine ⟨_, rfl, ?_⟩; have n0_ := Aside0.mk (Kd.S_below (ps_ HO_3.out) hb); have n1_ := Aside0.mk (Kd.R_below (pr_ HO_6.out) hb); have n2_ := Aside0.mk (Kd.R_below (pr_ HL580_1.out) hb); have n3_ := Aside0.mk (Kd.R_below (pr_ HL580_2.out) hb); have n4_ := Aside0.mk (Kd.C_below (by repeat (first | (with_reducible exact HR580_1.out) | (with_reducible refine Kd.C_alloc ?_ _) | (with_reducible refine Kd.C_drewN ?_ _) | (with_reducible refine Kd.C_drew ?_) | exact HR580_1.out)) hb); have n5_ := Aside0.mk (Kd.C_below (by repeat (first | (with_reducible exact HR580_2.out) | (with_reducible refine Kd.C_alloc ?_ _) | (with_reducible refine Kd.C_drewN ?_ _) | (with_reducible refine Kd.C_drew ?_) | exact HR580_2.out)) hb); have n6_ := Aside0.mk (below_step (pb_ HB.out) hb); clear HO_3; clear HO_6; clear HL580_1; clear HL580_2; clear HR580_1; clear HR580_2; clear HB; have HO_3 := n0_; have HO_6 := n1_; have HL580_1 := n2_; have HL580_2 := n3_; have HR580_1 := n4_; have HR580_2 := n5_; have HB := n6_; clear n0_ n1_ n2_ n3_ n4_ n5_ n6_; (try clear hb); (try clear hb2); (try clear hk); (try clear hi); have p582 : 0 ≤ (x7_2 : Int) := dt_; have q582 : x7_2 < (t575.length : Int) := dt_; obtain ⟨ad582, e582, hx582_0⟩ := Kd.at_int (Kd.R_reads' HO_6.out).2.2 x7_2 p582 q582; obtain rfl : ad579 = ad582 := (by injection e582); replace p582 := eq_true p582; replace q582 := eq_true q582; have p583 : 0 ≤ ((rd t575 x7_2) : Int) := dt_; have q583 : (rd t575 x7_2) < (t568.length : Int) := dt_; obtain ⟨ad583, A583_1, c583_1, A583_2, c583_2, e583, hx583_0, hx583_1, hx583_2, hx583_3, hl583_1, hi583_1, hl583_2, hi583_2⟩ := at_T67 (Kd.S_reads' HO_3.out).2.2 (rd t575 x7_2) p583 q583; obtain rfl : ad580 = ad583 := (by injection e583); obtain ⟨ce583, hce583, hMe583, hcc583⟩ := Kd.S_get HO_3.out z67 (rd t575 x7_2) p583 (by first | exact q583 | exact dt_ | (have e_ := (Kd.S_reads' HO_3.out).1; omega)); obtain ⟨ve583_1, ve583_2, rfl, ge583_1, ge583_2⟩ := k67_openM hMe583; have hv583_1 := hcc583 1 _ rfl; rw [add_field _ _ 1 (by omega)] at hv583_1; replace hv583_1 := Option.some.inj (hv583_1.symm.trans hx583_1); rw [hv583_1] at ge583_1; have HL583_1 := Aside0.mk (show Kd.R (Kd.int .i64) 3 _ _ _ _ ((rd_T67 t568 (rd t575 x7_2)).f1) from ge583_1); clear hv583_1 ge583_1; have hv583_2 := hcc583 2 _ rfl; rw [add_field _ _ 2 (by omega)] at hv583_2; replace hv583_2 := Option.some.inj (hv583_2.symm.trans hx583_2); rw [hv583_2] at ge583_2; have HL583_2 := Aside0.mk (show Kd.R (Kd.int .i64) 3 _ _ _ _ ((rd_T67 t568 (rd t575 x7_2)).f2) from ge583_2); clear hv583_2 ge583_2; clear hcc583 hce583; have HR583_1 := Aside0.mk hi583_1; have HC583_1 := Aside0.mk hl583_1; clear hi583_1 hl583_1; have HR583_2 := Aside0.mk hi583_2; have HC583_2 := Aside0.mk hl583_2; clear hi583_2 hl583_2; replace p583 := eq_true p583; replace q583 := eq_true q583) | (go_at_call 64; (with_reducible refine (impl_IsClear.calls ((rd_T67 t568 (rd t575 x7_2)).f0) _ _ ((rd_T67 t568 (rd t575 x7_2)).f1) _ _ ((rd_T67 t568 (rd t575 x7_2)).f2) ((rd_T67 t568 (rd t575 x7_2)).f3) t584 _ ?side1 ?side2 ?side3 ?side4 A59.out).mono ?_); (case side1 => repeat (first | exact (by repeat (first | (with_reducible exact HR583_1.out) | (with_reducible refine Kd.C_alloc ?_ _) | (with_reducible refine Kd.C_drewN ?_ _) | (with_reducible refine Kd.C_drew ?_) | exact HR583_1.out)) | (with_reducible refine Kd.C_alloc ?_ _) | (with_reducible refine Kd.C_drewN ?_ _) | (with_reducible refine Kd.C_drew ?_))); (case side2 => exact HC583_1.out); (case side3 => repeat (first | exact (by repeat (first | (with_reducible exact HR583_2.out) | (with_reducible refine Kd.C_alloc ?_ _) | (with_reducible refine Kd.C_drewN ?_ _) | (with_reducible refine Kd.C_drew ?_) | exact HR583_2.out)) | (with_reducible refine Kd.C_alloc ?_ _) | (with_reducible refine Kd.C_drewN ?_ _) | (with_reducible refine Kd.C_drew ?_))); (case side4 => exact HC583_2.out); rintro e w62 ⟨rfl, hb⟩; have n0_ := Aside0.mk (Kd.S_below (ps_ HO_3.out) hb); have n1_ := Aside0.mk (Kd.R_below (pr_ HO_6.out) hb); have n2_ := Aside0.mk (Kd.R_below (pr_ HL580_1.out) hb); have n3_ := Aside0.mk (Kd.R_below (pr_ HL580_2.out) hb); have n4_ := Aside0.mk (Kd.R_below (pr_ HL583_1.out) hb); have n5_ := Aside0.mk (Kd.R_below (pr_ HL583_2.out) hb); have n6_ := Aside0.mk (Kd.C_below (by repeat (first | (with_reducible exact HR580_1.out) | (with_reducible refine Kd.C_alloc ?_ _) | (with_reducible refine Kd.C_drewN ?_ _) | (with_reducible refine Kd.C_drew ?_) | exact HR580_1.out)) hb); have n7_ := Aside0.mk (Kd.C_below (by repeat (first | (with_reducible exact HR580_2.out) | (with_reducible refine Kd.C_alloc ?_ _) | (with_reducible refine Kd.C_drewN ?_ _) | (with_reducible refine Kd.C_drew ?_) | exact HR580_2.out)) hb); have n8_ := Aside0.mk (Kd.C_below (by repeat (first | (with_reducible exact HR583_1.out) | (with_reducible refine Kd.C_alloc ?_ _) | (with_reducible refine Kd.C_drewN ?_ _) | (with_reducible refine Kd.C_drew ?_) | exact HR583_1.out)) hb); have n9_ := Aside0.mk (Kd.C_below (by repeat (first | (with_reducible exact HR583_2.out) | (with_reducible refine Kd.C_alloc ?_ _) | (with_reducible refine Kd.C_drewN ?_ _) | (with_reducible refine Kd.C_drew ?_) | exact HR583_2.out)) hb); have n10_ := Aside0.mk (below_step (pb_ HB.out) hb); clear HO_3; clear HO_6; clear HL580_1; clear HL580_2; clear HL583_1; clear HL583_2; clear HR580_1; clear HR580_2; clear HR583_1; clear HR583_2; clear HB; have HO_3 := n0_; have HO_6 := n1_; have HL580_1 := n2_; have HL580_2 := n3_; have HL583_1 := n4_; have HL583_2 := n5_; have HR580_1 := n6_; have HR580_2 := n7_; have HR583_1 := n8_; have HR583_2 := n9_; have HB := n10_; clear n0_ n1_ n2_ n3_ n4_ n5_ n6_ n7_ n8_ n9_ n10_; (try clear hb); (try clear hb2); (try clear hk); (try clear hi)))
    (try simp only [Act.put, List.setIfInBounds_toArray, List.set_cons_zero, List.set_cons_succ])
    have H := HS_.out
    clear HS_
    by_cases c63 : t584 = true
    rotate_left
    · replace c63 := Bool.eq_false_iff.mpr c63
      subst c63
      rw [if_neg (show ¬ (false = true) by decide)] at H
      have H' := Aside0.mk H
      clear H
      go_wp2
      go_roundg k2
      case measure => have := HJ6.out; have := HK2.out; omega
      case rel => exact ⟨(wrap64 (x7_2 + 1)), el_, H', ⟨by have := HJ6.out; have := HK2.out; omega⟩, ⟨ps_ HO_3.out⟩, ⟨pr_ HO_6.out⟩, ⟨pb_ HB.out⟩⟩
    subst c63
    rw [if_pos rfl] at H
    obtain rfl := Option.some.inj H
    go_wp2
    go_ret
    exact ⟨er_, pb_ HB.out⟩
  subst c35
  rw [if_pos rfl] at H
  obtain rfl := Option.some.inj H
  go_wp2
  go_ret
  exact ⟨er_, pb_ HB.out⟩

/-- THE ONE PURE STATEMENT of laws_FnHardened: yours. -/
def laws_FnHardened.Pure : Prop := ∀ (l0 : List Int), l0.length ≤ maxLen → l0.length * 1 ≤ 140737488351232 → (∀ x ∈ l0, (Lit.int .u8 x).wf = true) → ∃ k, laws_FnHardened.f k l0 = some true
theorem laws_FnHardened.walk (P : laws_FnHardened.Pure) (a0 : Option Addr) (len0 cap0 : Nat) (z0 : List Int) (w : World) (w0 : (a0 = none ∧ len0 = 0 ∧ cap0 = 0 ∧ z0 = []) ∨ ∃ x, a0 = some x ∧ len0 ≤ cap0 ∧ cap0 ≤ maxLen ∧ z0.length = cap0 ∧ (∀ i, i < z0.length → w.cell? (x.add i) = some (.int .u8 (z0.getD i 0))) ∧ ∀ n ∈ z0, (Lit.int .u8 n).wf = true) (y0 : len0 * 1 ≤ 140737488351232) :
    Calls Try.prog 14 #[.slice a0 len0 cap0] w fun e w' => e = .returned (.bool true) ∧ Below w.heap.size w w' := by
  obtain ⟨l0, rfl, hr0, hm0, hw0, hc0⟩ := ReadsInt.ofRowC w0
  obtain ⟨k, h⟩ := P l0 hm0 y0 hw0
  refine (laws_FnHardened.calls k _ _ l0 true w (Kd.C_of_reads (d := (0 : Int)) (h1 := fun _ => rfl) hr0) hc0 h).mono ?_
  rintro e w' ⟨rfl, hd⟩
  exact ⟨rfl, hd⟩

end Go.Proofs.Ytdoefkloanpliaa.Print
