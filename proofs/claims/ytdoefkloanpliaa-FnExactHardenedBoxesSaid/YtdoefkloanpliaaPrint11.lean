-- Written by a program of this session (printx.py) out of the translation; Lean checks it.
import Derived.Test.YtdoefkloanpliaaPrint0
import Derived.Test.YtdoefkloanpliaaPrint1
import Derived.Test.YtdoefkloanpliaaPrint4
import Derived.Test.YtdoefkloanpliaaPrint9
import Derived.Test.YtdoefkloanpliaaPrint10
namespace Go.Proofs.Ytdoefkloanpliaa.Print
open Go.RowKit Go.Proofs.YtdoefkloanpliaaW.PrintWords Go.Proofs.YtdoefkloanpliaaW.PrintLast Go.Proofs.YtdoefkloanpliaaW.PrintMore Go.Proofs.Ytdoefkloanpliaa.Short
attribute [local go_sem] max2_int min2_int max_two min_two max_three min_three max_four min_four   -- for this text's walks alone
set_option linter.unusedVariables false
set_option linter.unusedSimpArgs false

/-! ### laws_FnExactHardenedBoxes: function 13 -/
def laws_FnExactHardenedBoxes.j0 : Nat → List (S64) → List Int → List Int → Bool → Option (Bool)
  | 0, _, _, _, _ => none
  | k + 1, x0, x4, x6, x42 => if x42 = true then (some false) else ((laws_markIntS.f k x6 1).bind fun bt373 => ((laws_heldIntS.f k bt373.2 1).bind fun t375 => (if t375 < 0 then (some false) else (if t375 = bt373.1 then ((laws_toBoxS.f k x0).bind fun t376 => ((impl_HardenedBoxes.f k t376).bind fun t379 => ((laws_eqIntS.f k t379 x4).bind fun t382 => (if t382 = true then ((laws_heldIntS.f k bt373.2 1).bind fun t383 => (if t383 < 0 then (some false) else (if t383 = bt373.1 then (some true) else (some false)))) else (some false))))) else (some false)))))
def laws_FnExactHardenedBoxes.f (k : Nat) (l0 : List (S64)) : Option (Bool) := (laws_szBoxS.f k l0 1048576).bind fun t353 => (if t353 < 0 then (some true) else ((laws_toBoxS.f k l0).bind fun t354 => ((spec_HardenedBoxes.f k t354).bind fun t357 => ((laws_toBoxS.f k l0).bind fun t360 => ((impl_HardenedBoxes.f k t360).bind fun t363 => ((laws_eqIntS.f k t363 t357).bind fun t366 => (if t366 = true then ((laws_toBoxS.f k l0).bind fun t367 => ((laws_eqBoxS.f k t360 t367).bind fun t370 => (if t370 = true then ((laws_markBoxS.f k t360 1).bind fun t371 => (if t371 < 0 then (laws_FnExactHardenedBoxes.j0 k l0 t357 t363 true) else ((laws_eqIntS.f k t363 t357).bind fun t372 => (laws_FnExactHardenedBoxes.j0 k l0 t357 t363 (!t372))))) else (some false)))) else (some false))))))))
theorem laws_FnExactHardenedBoxes.mono_l : ∀ k, (∀ y0 y1 y2 y3, LeO (laws_FnExactHardenedBoxes.j0 k y0 y1 y2 y3) (laws_FnExactHardenedBoxes.j0 (k + 1) y0 y1 y2 y3))
  | 0 => fun _ _ _ _ r h => by simp [laws_FnExactHardenedBoxes.j0] at h
  | k + 1 => by
    have ih0 := laws_FnExactHardenedBoxes.mono_l k
    · intro y0 y1 y2 y3
      unfold laws_FnExactHardenedBoxes.j0
      repeat' first
      | (with_reducible exact ih0 _ _ _ _)
      | (with_reducible exact impl_HardenedBoxes.mono _ _)
      | (with_reducible exact laws_eqBoxS.mono _ _ _)
      | (with_reducible exact laws_eqIntS.mono _ _ _)
      | (with_reducible exact laws_heldIntS.mono _ _ _)
      | (with_reducible exact laws_markBoxS.mono _ _ _)
      | (with_reducible exact laws_markIntS.mono _ _ _)
      | (with_reducible exact laws_szBoxS.mono _ _ _)
      | (with_reducible exact laws_toBoxS.mono _ _)
      | (with_reducible exact spec_HardenedBoxes.mono _ _)
      | (with_reducible exact LeO.refl _)
      | (with_reducible exact LeO.none _)
      | (with_reducible refine LeO.ite ?_ ?_)
      | (with_reducible refine LeO.bind ?_ (fun _ => ?_))
      | exact ih0 _ _ _ _
      | exact impl_HardenedBoxes.mono _ _
      | exact laws_eqBoxS.mono _ _ _
      | exact laws_eqIntS.mono _ _ _
      | exact laws_heldIntS.mono _ _ _
      | exact laws_markBoxS.mono _ _ _
      | exact laws_markIntS.mono _ _ _
      | exact laws_szBoxS.mono _ _ _
      | exact laws_toBoxS.mono _ _
      | exact spec_HardenedBoxes.mono _ _
      | exact LeO.none _
      | refine LeO.ite ?_ ?_
      | refine LeO.bind ?_ (fun _ => ?_)
theorem laws_FnExactHardenedBoxes.mono : ∀ a0 k, LeO (laws_FnExactHardenedBoxes.f k a0) (laws_FnExactHardenedBoxes.f (k + 1) a0) := by
  intro a0 k
  have ih0 := laws_FnExactHardenedBoxes.mono_l k
  unfold laws_FnExactHardenedBoxes.f
  repeat' first
      | (with_reducible exact ih0 _ _ _ _)
      | (with_reducible exact impl_HardenedBoxes.mono _ _)
      | (with_reducible exact laws_eqBoxS.mono _ _ _)
      | (with_reducible exact laws_eqIntS.mono _ _ _)
      | (with_reducible exact laws_heldIntS.mono _ _ _)
      | (with_reducible exact laws_markBoxS.mono _ _ _)
      | (with_reducible exact laws_markIntS.mono _ _ _)
      | (with_reducible exact laws_szBoxS.mono _ _ _)
      | (with_reducible exact laws_toBoxS.mono _ _)
      | (with_reducible exact spec_HardenedBoxes.mono _ _)
      | (with_reducible exact LeO.refl _)
      | (with_reducible exact LeO.none _)
      | (with_reducible refine LeO.ite ?_ ?_)
      | (with_reducible refine LeO.bind ?_ (fun _ => ?_))
      | exact ih0 _ _ _ _
      | exact impl_HardenedBoxes.mono _ _
      | exact laws_eqBoxS.mono _ _ _
      | exact laws_eqIntS.mono _ _ _
      | exact laws_heldIntS.mono _ _ _
      | exact laws_markBoxS.mono _ _ _
      | exact laws_markIntS.mono _ _ _
      | exact laws_szBoxS.mono _ _ _
      | exact laws_toBoxS.mono _ _
      | exact spec_HardenedBoxes.mono _ _
      | exact LeO.none _
      | refine LeO.ite ?_ ?_
      | refine LeO.bind ?_ (fun _ => ?_)
set_option maxHeartbeats 8000000 in
set_option maxRecDepth 100000 in
theorem laws_FnExactHardenedBoxes.calls (k : Nat) (A0 : Option Addr) (c0 : Nat) (l0 : List (S64)) (r : Bool) (w : World) (hr0 : Kd.C k64 w A0 l0.length l0) (hc0 : l0.length ≤ c0) (h : laws_FnExactHardenedBoxes.f k l0 = some r) :
    Calls Try.prog 13 #[.slice A0 l0.length c0] w fun e w' => e = .returned (.bool r) ∧ Below w.heap.size w w' := by
  have HR0 := Aside0.mk hr0
  have HC0 := Aside0.mk hc0
  clear hr0 hc0
  have HB := Aside0.mk (Below.refl w.heap.size w)
  have H : ((laws_szBoxS.f k l0 1048576).bind fun t353 => (if t353 < 0 then (some true) else ((laws_toBoxS.f k l0).bind fun t354 => ((spec_HardenedBoxes.f k t354).bind fun t357 => ((laws_toBoxS.f k l0).bind fun t360 => ((impl_HardenedBoxes.f k t360).bind fun t363 => ((laws_eqIntS.f k t363 t357).bind fun t366 => (if t366 = true then ((laws_toBoxS.f k l0).bind fun t367 => ((laws_eqBoxS.f k t360 t367).bind fun t370 => (if t370 = true then ((laws_markBoxS.f k t360 1).bind fun t371 => (if t371 < 0 then (laws_FnExactHardenedBoxes.j0 k l0 t357 t363 true) else ((laws_eqIntS.f k t363 t357).bind fun t372 => (laws_FnExactHardenedBoxes.j0 k l0 t357 t363 (!t372))))) else (some false)))) else (some false))))))))) = some r := h
  clear h
  replace H := Option.bind_eq_some_iff.mp H
  obtain ⟨t353, A20, H⟩ := H
  (try dsimp only at H)
  have A2 := Aside0.mk A20
  clear A20
  have HS_ := Aside0.mk H
  clear H
  go_enter Try.func13, Try.ntmps13
  go_upto_if 15 with (first | ((with_reducible refine gate_callee (f := 55) rfl ?_); refine goesL_ (some 13) rfl rfl Try.func55 (by kernel_rfl) rfl #[.slice A0 l0.length c0, .int .i64 1048576] rfl mp_ ?_; (with_reducible refine (laws_szBoxS.calls k _ _ l0 1048576 t353 _ ?side1 ?side2 A2.out).mono ?_); (case side1 => exact pc_ HR0.out); (case side2 => exact HC0.out); rintro e w3 ⟨rfl, hb⟩; refine ⟨_, rfl, ?_⟩; have n0_ := Aside0.mk (below_step (pb_ HB.out) hb); clear HB; have HB := n0_; clear n0_; (try clear hb); (try clear hb2); (try clear hk); (try clear hi)))
  (try simp only [Act.put, List.setIfInBounds_toArray, List.set_cons_zero, List.set_cons_succ])
  have H := HS_.out
  clear HS_
  by_cases c4 : t353 < 0
  · rw [if_pos c4] at H
    have c4b0 : decide (t353 < 0) = true := decide_eq_true c4
    clear c4
    (first | rw [c4b0] | (simp only [i64_w, i32_w]; rw [c4b0]) | skip)
    obtain rfl := Option.some.inj H
    go_wp2
    go_ret
    exact ⟨er_, pb_ HB.out⟩
  rw [if_neg c4] at H
  have c4b0 : decide (t353 < 0) = false := decide_eq_false c4
  clear c4
  (first | rw [c4b0] | (simp only [i64_w, i32_w]; rw [c4b0]) | skip)
  replace H := Option.bind_eq_some_iff.mp H
  obtain ⟨t354, A50, H⟩ := H
  (try dsimp only at H)
  have A5 := Aside0.mk A50
  clear A50
  replace H := Option.bind_eq_some_iff.mp H
  obtain ⟨t357, A60, H⟩ := H
  (try dsimp only at H)
  have A6 := Aside0.mk A60
  clear A60
  have HS_ := Aside0.mk H
  clear H
  go_upto_region 6 with (first | ((with_reducible refine gate_callee (f := 57) rfl ?_); refine goesL_ (some 17) rfl rfl Try.func57 (by kernel_rfl) rfl #[.slice A0 l0.length c0] rfl mp_ ?_; (with_reducible refine (laws_toBoxS.calls k _ _ l0 t354 _ ?side1 ?side2 A5.out).mono ?_); (case side1 => exact pc_ (Kd.C_below HR0.out HB.out)); (case side2 => exact HC0.out); rintro e w7 ⟨v355, rfl, ho0, hb⟩; refine ⟨_, rfl, ?_⟩; have n0_ := Aside0.mk (Kd.S_lower ho0 (below_size (pb_ HB.out))); have n1_ := Aside0.mk (below_step (pb_ HB.out) hb); clear HB; have HO356 := n0_; have HB := n1_; clear n0_ n1_; (try clear hb); (try clear hb2); (try clear hk); (try clear hi); (try clear ho0); obtain ⟨Ao8, co8, eo8⟩ := Kd.S_slice HO356.out; subst eo8) | ((with_reducible refine gate_callee (f := 56) rfl ?_); refine goesL_ (some 18) rfl rfl Try.func56 (by kernel_rfl) rfl #[.slice Ao8 t354.length co8] rfl mp_ ?_; (with_reducible refine (spec_HardenedBoxes.calls k _ _ t354 t357 _ ?side1 ?side2 A6.out).mono ?_); (case side1 => exact pc_ ((Kd.S_reads' HO356.out).2.2)); (case side2 => exact (Kd.S_reads' HO356.out).2.1); rintro e w9 ⟨v358, rfl, ho0, hb⟩; refine ⟨_, rfl, ?_⟩; have n0_ := Aside0.mk (Kd.S_elder' (ps_ HO356.out) (Kd.R_base ho0) hb); have n1_ := Aside0.mk (Kd.R_lower ho0 (below_size (pb_ HB.out))); have n2_ := Aside0.mk (below_step (pb_ HB.out) hb); clear HO356; clear HB; have HO356 := n0_; have HO359 := n1_; have HB := n2_; clear n0_ n1_ n2_; (try clear hb); (try clear hb2); (try clear hk); (try clear hi); (try clear ho0)))
  (try simp only [Act.put, List.setIfInBounds_toArray, List.set_cons_zero, List.set_cons_succ])
  have H := HS_.out
  clear HS_
  replace H := Option.bind_eq_some_iff.mp H
  obtain ⟨t360, A100, H⟩ := H
  (try dsimp only at H)
  have A10 := Aside0.mk A100
  clear A100
  have HS_ := Aside0.mk H
  clear H
  go_upto_region 7 with (first | ((with_reducible refine gate_callee (f := 57) rfl ?_); refine goesL_ (some 20) rfl rfl Try.func57 (by kernel_rfl) rfl #[.slice A0 l0.length c0] rfl mp_ ?_; (with_reducible refine (laws_toBoxS.calls k _ _ l0 t360 _ ?side1 ?side2 A10.out).mono ?_); (case side1 => exact pc_ (Kd.C_below HR0.out HB.out)); (case side2 => exact HC0.out); rintro e w11 ⟨v361, rfl, ho0, hb⟩; refine ⟨_, rfl, ?_⟩; have n0_ := Aside0.mk (Kd.S_elder' (ps_ HO356.out) (Kd.S_base ho0) hb); have n1_ := Aside0.mk (Kd.R_below (pr_ HO359.out) hb); have n2_ := Aside0.mk (Kd.S_lower (Kd.S_new' (Kd.S_new' ho0 (Kd.S_lt (ps_ HO356.out))) (Kd.R_lt (pr_ HO359.out))) (below_size (pb_ HB.out))); have n3_ := Aside0.mk (below_step (pb_ HB.out) hb); clear HO356; clear HO359; clear HB; have HO356 := n0_; have HO359 := n1_; have HO362 := n2_; have HB := n3_; clear n0_ n1_ n2_ n3_; (try clear hb); (try clear hb2); (try clear hk); (try clear hi); (try clear ho0)))
  (try simp only [Act.put, List.setIfInBounds_toArray, List.set_cons_zero, List.set_cons_succ])
  have H := HS_.out
  clear HS_
  replace H := Option.bind_eq_some_iff.mp H
  obtain ⟨t363, A120, H⟩ := H
  (try dsimp only at H)
  have A12 := Aside0.mk A120
  clear A120
  have HS_ := Aside0.mk H
  clear H
  obtain ⟨Ao13, co13, eo13⟩ := Kd.S_slice HO362.out
  subst eo13
  go_upto_region 8 with (first | ((with_reducible refine gate_callee (f := 58) rfl ?_); refine goesL_ (some 22) rfl rfl Try.func58 (by kernel_rfl) rfl #[.slice Ao13 t360.length co13] rfl mp_ ?_; (with_reducible refine (impl_HardenedBoxes.calls k _ _ t360 t363 _ ?side1 ?side2 A12.out).mono ?_); (case side1 => exact pc_ ((Kd.S_reads' HO362.out).2.2)); (case side2 => exact (Kd.S_reads' HO362.out).2.1); rintro e w14 ⟨v364, rfl, ho0, hb⟩; refine ⟨_, rfl, ?_⟩; have n0_ := Aside0.mk (Kd.S_elder' (ps_ HO356.out) (Kd.R_base ho0) hb); have n1_ := Aside0.mk (Kd.R_elder' (pr_ HO359.out) (Kd.R_base ho0) hb); have n2_ := Aside0.mk (Kd.S_elder' (ps_ HO362.out) (Kd.R_base ho0) hb); have n3_ := Aside0.mk (Kd.R_lower (Kd.R_new' ho0 (Kd.R_lt (pr_ HO359.out))) (below_size (pb_ HB.out))); have n4_ := Aside0.mk (below_step (pb_ HB.out) hb); clear HO356; clear HO359; clear HO362; clear HB; have HO356 := n0_; have HO359 := n1_; have HO362 := n2_; have HO365 := n3_; have HB := n4_; clear n0_ n1_ n2_ n3_ n4_; (try clear hb); (try clear hb2); (try clear hk); (try clear hi); (try clear ho0)))
  (try simp only [Act.put, List.setIfInBounds_toArray, List.set_cons_zero, List.set_cons_succ])
  have H := HS_.out
  clear HS_
  replace H := Option.bind_eq_some_iff.mp H
  obtain ⟨t366, A150, H⟩ := H
  (try dsimp only at H)
  have A15 := Aside0.mk A150
  clear A150
  have HS_ := Aside0.mk H
  clear H
  obtain ⟨Ao16, co16, eo16⟩ := Kd.R_slice HO365.out
  subst eo16
  obtain ⟨Ao17, co17, eo17⟩ := Kd.R_slice HO359.out
  subst eo17
  go_upto_if 26 with (first | ((with_reducible refine gate_callee (f := 20) rfl ?_); refine goesL_ (some 25) rfl rfl Try.func20 (by kernel_rfl) rfl #[.slice Ao16 t363.length co16, .slice Ao17 t357.length co17] rfl mp_ ?_; (with_reducible refine (laws_eqIntS.calls k _ _ t363 _ _ t357 t366 _ ?side1 ?side2 ?side3 ?side4 A15.out).mono ?_); (case side1 => exact pc_ ((Kd.R_reads' HO365.out).2.2)); (case side2 => exact (Kd.R_reads' HO365.out).2.1); (case side3 => exact pc_ ((Kd.R_reads' HO359.out).2.2)); (case side4 => exact (Kd.R_reads' HO359.out).2.1); rintro e w' ⟨rfl, ⟨nd, rfl⟩⟩; refine ⟨_, rfl, ?_⟩))
  (try simp only [Act.put, List.setIfInBounds_toArray, List.set_cons_zero, List.set_cons_succ])
  have H := HS_.out
  clear HS_
  by_cases c18 : t366 = true
  rotate_left
  · replace c18 := Bool.eq_false_iff.mpr c18
    subst c18
    rw [if_neg (show ¬ (false = true) by decide)] at H
    obtain rfl := Option.some.inj H
    go_wp2
    go_ret
    exact ⟨er_, pb_ HB.out⟩
  subst c18
  rw [if_pos rfl] at H
  replace H := Option.bind_eq_some_iff.mp H
  obtain ⟨t367, A190, H⟩ := H
  (try dsimp only at H)
  have A19 := Aside0.mk A190
  clear A190
  replace H := Option.bind_eq_some_iff.mp H
  obtain ⟨t370, A200, H⟩ := H
  (try dsimp only at H)
  have A20 := Aside0.mk A200
  clear A200
  have HS_ := Aside0.mk H
  clear H
  go_upto_if 31 with (first | ((with_reducible refine gate_callee (f := 57) rfl ?_); refine goesL_ (some 29) rfl rfl Try.func57 (by kernel_rfl) rfl #[.slice A0 l0.length c0] rfl mp_ ?_; (with_reducible refine (laws_toBoxS.calls k _ _ l0 t367 _ ?side1 ?side2 A19.out).mono ?_); (case side1 => exact pc_ (Kd.C_below HR0.out HB.out)); (case side2 => exact HC0.out); rintro e w21 ⟨v368, rfl, ho0, hb⟩; refine ⟨_, rfl, ?_⟩; have n0_ := Aside0.mk (Kd.S_elder' (ps_ HO356.out) (Kd.S_base ho0) hb); have n1_ := Aside0.mk (Kd.R_below (pr_ HO359.out) hb); have n2_ := Aside0.mk (Kd.S_elder' (ps_ HO362.out) (Kd.S_base ho0) hb); have n3_ := Aside0.mk (Kd.R_below (pr_ HO365.out) hb); have n4_ := Aside0.mk (Kd.S_lower (Kd.S_new' (Kd.S_new' (Kd.S_new' (Kd.S_new' ho0 (Kd.S_lt (ps_ HO356.out))) (Kd.R_lt (pr_ HO359.out))) (Kd.S_lt (ps_ HO362.out))) (Kd.R_lt (pr_ HO365.out))) (below_size (pb_ HB.out))); have n5_ := Aside0.mk (below_step (pb_ HB.out) hb); clear HO356; clear HO359; clear HO362; clear HO365; clear HB; have HO356 := n0_; have HO359 := n1_; have HO362 := n2_; have HO365 := n3_; have HO369 := n4_; have HB := n5_; clear n0_ n1_ n2_ n3_ n4_ n5_; (try clear hb); (try clear hb2); (try clear hk); (try clear hi); (try clear ho0); obtain ⟨Ao22, co22, eo22⟩ := Kd.S_slice HO369.out; subst eo22) | ((with_reducible refine gate_callee (f := 59) rfl ?_); refine goesL_ (some 30) rfl rfl Try.func59 (by kernel_rfl) rfl #[.slice Ao13 t360.length co13, .slice Ao22 t367.length co22] rfl mp_ ?_; (with_reducible refine (laws_eqBoxS.calls k _ _ t360 _ _ t367 t370 _ ?side1 ?side2 ?side3 ?side4 A20.out).mono ?_); (case side1 => exact pc_ ((Kd.S_reads' HO362.out).2.2)); (case side2 => exact (Kd.S_reads' HO362.out).2.1); (case side3 => exact pc_ ((Kd.S_reads' HO369.out).2.2)); (case side4 => exact (Kd.S_reads' HO369.out).2.1); rintro e w23 ⟨rfl, hb⟩; refine ⟨_, rfl, ?_⟩; have n0_ := Aside0.mk (Kd.S_below (ps_ HO356.out) hb); have n1_ := Aside0.mk (Kd.R_below (pr_ HO359.out) hb); have n2_ := Aside0.mk (Kd.S_below (ps_ HO362.out) hb); have n3_ := Aside0.mk (Kd.R_below (pr_ HO365.out) hb); have n4_ := Aside0.mk (Kd.S_below (ps_ HO369.out) hb); have n5_ := Aside0.mk (below_step (pb_ HB.out) hb); clear HO356; clear HO359; clear HO362; clear HO365; clear HO369; clear HB; have HO356 := n0_; have HO359 := n1_; have HO362 := n2_; have HO365 := n3_; have HO369 := n4_; have HB := n5_; clear n0_ n1_ n2_ n3_ n4_ n5_; (try clear hb); (try clear hb2); (try clear hk); (try clear hi)))
  (try simp only [Act.put, List.setIfInBounds_toArray, List.set_cons_zero, List.set_cons_succ])
  have H := HS_.out
  clear HS_
  by_cases c24 : t370 = true
  rotate_left
  · replace c24 := Bool.eq_false_iff.mpr c24
    subst c24
    rw [if_neg (show ¬ (false = true) by decide)] at H
    obtain rfl := Option.some.inj H
    go_wp2
    go_ret
    exact ⟨er_, pb_ HB.out⟩
  subst c24
  rw [if_pos rfl] at H
  replace H := Option.bind_eq_some_iff.mp H
  obtain ⟨t371, A250, H⟩ := H
  (try dsimp only at H)
  have A25 := Aside0.mk A250
  clear A250
  have HC26 := Aside0.mk H
  clear H
  go_upto_region 14 with (first | ((with_reducible refine gate_callee (f := 60) rfl ?_); refine goesL_ (some 34) rfl rfl Try.func60 (by kernel_rfl) rfl #[.slice Ao13 t360.length co13, .int .i64 1] rfl mp_ ?_; (with_reducible refine (laws_markBoxS.calls k (fun k_ => ((((True ∧ some k_ ≠ (.slice Ao8 t354.length co8 : Value).ownBlock) ∧ some k_ ≠ (.slice Ao17 t357.length co17 : Value).ownBlock) ∧ some k_ ≠ (.slice Ao16 t363.length co16 : Value).ownBlock) ∧ some k_ ≠ (.slice Ao22 t367.length co22 : Value).ownBlock)) (.slice Ao13 t360.length co13) t360 1 t371 w _ ?side1 ?side2 A25.out).mono ?_); (case side1 => repeat (first | (with_reducible first | exact HB.out | apply below_alloc | apply pw_below_drewN | apply below_drew1) | exact HB.out)); (case side2 => exact HO362.out); rintro e w27 ⟨rfl, hb, hkp⟩; refine ⟨_, rfl, ?_⟩; have n0_ := Aside0.mk (Kd.R_mono (ok' := fun k_ => some k_ ≠ (.slice Ao16 t363.length co16 : Value).ownBlock) (Kd.R_keptB ((Kd.R_mono (ok' := fun k_ => ((True ∧ some k_ ≠ (.slice Ao16 t363.length co16 : Value).ownBlock)) ∧ ¬ (((((True ∧ some k_ ≠ (.slice Ao8 t354.length co8 : Value).ownBlock) ∧ some k_ ≠ (.slice Ao17 t357.length co17 : Value).ownBlock) ∧ some k_ ≠ (.slice Ao16 t363.length co16 : Value).ownBlock) ∧ some k_ ≠ (.slice Ao22 t367.length co22 : Value).ownBlock))) (Kd.R_tight2 rfl HO359.out) (fun k_ hk => ⟨hk.2, fun e_ => (e_.1.1.2) hk.1⟩))) hkp (fun k_ hk_ hs_ => (hk_.2) hs_)) (fun k_ hk_ => hk_.1.1.2)); have n1_ := Aside0.mk (Kd.R_mono (ok' := fun k_ => some k_ ≠ (.slice Ao17 t357.length co17 : Value).ownBlock) (Kd.R_keptB ((Kd.R_mono (ok' := fun k_ => ((True ∧ some k_ ≠ (.slice Ao17 t357.length co17 : Value).ownBlock)) ∧ ¬ (((((True ∧ some k_ ≠ (.slice Ao8 t354.length co8 : Value).ownBlock) ∧ some k_ ≠ (.slice Ao17 t357.length co17 : Value).ownBlock) ∧ some k_ ≠ (.slice Ao16 t363.length co16 : Value).ownBlock) ∧ some k_ ≠ (.slice Ao22 t367.length co22 : Value).ownBlock))) (Kd.R_tight2 rfl HO365.out) (fun k_ hk => ⟨hk.2, fun e_ => (e_.1.2) hk.1⟩))) hkp (fun k_ hk_ hs_ => (hk_.2) hs_)) (fun k_ hk_ => hk_.1.1.2)); have n2_ := Aside0.mk (hb); clear HO359; clear HO365; clear HB; clear HO356; clear HO369; clear HO362; have HO359 := n0_; have HO365 := n1_; have HB := n2_; clear n0_ n1_ n2_; (try clear hb); (try clear hkp)))
  (try simp only [Act.put, List.setIfInBounds_toArray, List.set_cons_zero, List.set_cons_succ])
  go_cut [42] (fun v42 wc => ∃ (kq : Nat) (x42_25 : Bool), v42 = .bool x42_25 ∧ Aside0 (laws_FnExactHardenedBoxes.j0 kq l0 t357 t363 x42_25 = some r) ∧ Aside0 (kq ≤ k) ∧ Aside0 (Kd.R (Kd.int .i64) 3 wc w.heap.size (fun k_ => some k_ ≠ ((.slice Ao16 t363.length co16) : Value).ownBlock) (.slice Ao17 t357.length co17) t357) ∧ Aside0 (Kd.R (Kd.int .i64) 3 wc w.heap.size (fun k_ => some k_ ≠ ((.slice Ao17 t357.length co17) : Value).ownBlock) (.slice Ao16 t363.length co16) t363) ∧ Aside0 (Below w.heap.size w wc))
  case first =>
    have H := HC26.out
    clear HC26
    by_cases c28 : t371 < 0
    · rw [if_pos c28] at H
      have c28b0 : decide (t371 < 0) = true := decide_eq_true c28
      clear c28
      (first | rw [c28b0] | (simp only [i64_w, i32_w]; rw [c28b0]) | skip)
      have H' := Aside0.mk H
      clear H
      go_wp2
      go_meet
      case rel => exact ⟨_, (true), el_, H', ⟨by first | omega | exact Nat.le_refl _⟩, ⟨pr_ HO359.out⟩, ⟨pr_ HO365.out⟩, ⟨pb_ HB.out⟩⟩
    rw [if_neg c28] at H
    have c28b0 : decide (t371 < 0) = false := decide_eq_false c28
    clear c28
    (first | rw [c28b0] | (simp only [i64_w, i32_w]; rw [c28b0]) | skip)
    replace H := Option.bind_eq_some_iff.mp H
    obtain ⟨t372, A290, H⟩ := H
    replace H : (laws_FnExactHardenedBoxes.j0 k l0 t357 t363 (!t372)) = some r := H
    have A29 := Aside0.mk A290
    clear A290
    have H' := Aside0.mk H
    clear H
    go_wp2_with (first | (go_at_call 20; (with_reducible refine (laws_eqIntS.calls k _ _ t363 _ _ t357 t372 _ ?side1 ?side2 ?side3 ?side4 A29.out).mono ?_); (case side1 => exact pc_ ((Kd.R_reads' HO365.out).2.2)); (case side2 => exact (Kd.R_reads' HO365.out).2.1); (case side3 => exact pc_ ((Kd.R_reads' HO359.out).2.2)); (case side4 => exact (Kd.R_reads' HO359.out).2.1); rintro e w' ⟨rfl, ⟨nd, rfl⟩⟩))
    go_meet
    case rel => exact ⟨_, (!t372), el_, H', ⟨by first | omega | exact Nat.le_refl _⟩, ⟨pr_ HO359.out⟩, ⟨pr_ HO365.out⟩, ⟨pb_ HB.out⟩⟩
  clear HC26
  try clear c1
  try clear c2
  try clear p2
  try clear c4
  try clear c4b0
  try clear c5
  try clear c6
  try clear c13
  try clear c18
  try clear c20
  try clear c24
  try clear c28
  try clear c28b0
  obtain ⟨kq, x42_25, rfl, HA, HJ25, HO_4, HO_6, HB⟩ := hcut
  rcases kq with _ | kj25
  · exact absurd HA.out (by simp [laws_FnExactHardenedBoxes.j0])
  have H := HA.out
  clear HA
  simp only [laws_FnExactHardenedBoxes.j0] at H
  by_cases c30 : x42_25 = true
  · subst c30
    rw [if_pos rfl] at H
    obtain rfl := Option.some.inj H
    go_wp2
    go_ret
    exact ⟨er_, pb_ HB.out⟩
  replace c30 := Bool.eq_false_iff.mpr c30
  subst c30
  rw [if_neg (show ¬ (false = true) by decide)] at H
  replace H := Option.bind_eq_some_iff.mp H
  obtain ⟨⟨t373, t374⟩, A310, H⟩ := H
  (try dsimp only at H)
  have A31 := Aside0.mk A310
  clear A310
  have HS_ := Aside0.mk H
  clear H
  go_upto_region 19 with (first | ((with_reducible refine gate_callee (f := 26) rfl ?_); refine goesL_ (some 45) rfl rfl Try.func26 (by kernel_rfl) rfl #[.slice Ao16 t363.length co16, .int .i64 1] rfl mp_ ?_; (with_reducible refine (laws_markIntS.calls kj25 (fun k_ => some k_ = (.slice Ao16 t363.length co16 : Value).ownBlock) (.slice Ao16 t363.length co16) t363 1 t373 t374 w _ ?side1 ?side2 A31.out).mono ?_); (case side1 => repeat (first | (with_reducible first | exact HB.out | apply below_alloc | apply pw_below_drewN | apply below_drew1) | exact HB.out)); (case side2 => exact Kd.R_tight rfl HO_6.out); rintro e w32 ⟨rfl, hy0, hb, hkp⟩; refine ⟨_, rfl, ?_⟩; have n0_ := Aside0.mk (Kd.R_mono (ok' := fun k_ => some k_ ≠ (.slice Ao16 t363.length co16 : Value).ownBlock) (Kd.R_keptB (HO_4.out) hkp (fun k_ hk_ hs_ => (hk_) hs_)) (fun k_ hk_ => hk_.1)); have n1_ := Aside0.mk (Kd.R_reok rfl hy0 (fun k_ e_ => HO_6.out.1 k_ e_)); have n2_ := Aside0.mk (hb); clear HO_4; clear HO_6; clear HB; have HO_4 := n0_; have HO_6 := n1_; have HB := n2_; clear n0_ n1_ n2_; (try clear hb); (try clear hkp); (try clear hy0)))
  (try simp only [Act.put, List.setIfInBounds_toArray, List.set_cons_zero, List.set_cons_succ])
  have H := HS_.out
  clear HS_
  replace H := Option.bind_eq_some_iff.mp H
  obtain ⟨t375, A330, H⟩ := H
  (try dsimp only at H)
  have A33 := Aside0.mk A330
  clear A330
  have HS_ := Aside0.mk H
  clear H
  go_upto_if 50 with (first | ((with_reducible refine gate_callee (f := 28) rfl ?_); refine goesL_ (some 48) rfl rfl Try.func28 (by kernel_rfl) rfl #[.slice Ao16 t374.length co16, .int .i64 1] rfl (by (try simp only [List.map_toArray, List.map_cons, List.map_nil]); first | done | (rw [show t374.length = t363.length from (Kd.R_reads' HO_6.out).1.symm] <;> rfl) | rfl | (simp only [List.length_drop, List.length_take]; rfl)) ?_; (with_reducible refine (laws_heldIntS.calls kj25 _ _ t374 1 t375 _ ?side1 ?side2 A33.out).mono ?_); (case side1 => exact pc_ ((Kd.R_reads' HO_6.out).2.2)); (case side2 => rw [show t374.length = t363.length from (Kd.R_reads' HO_6.out).1.symm]; exact (Kd.R_reads' HO_6.out).2.1); rintro e w' ⟨rfl, ⟨nd, rfl⟩⟩; refine ⟨_, rfl, ?_⟩))
  (try simp only [Act.put, List.setIfInBounds_toArray, List.set_cons_zero, List.set_cons_succ])
  have H := HS_.out
  clear HS_
  by_cases c34 : t375 < 0
  · rw [if_pos c34] at H
    have c34b0 : decide (t375 < 0) = true := decide_eq_true c34
    clear c34
    (first | rw [c34b0] | (simp only [i64_w, i32_w]; rw [c34b0]) | skip)
    obtain rfl := Option.some.inj H
    go_wp2
    go_ret
    exact ⟨er_, pb_ HB.out⟩
  rw [if_neg c34] at H
  have c34b0 : decide (t375 < 0) = false := decide_eq_false c34
  clear c34
  (first | rw [c34b0] | (simp only [i64_w, i32_w]; rw [c34b0]) | skip)
  by_cases c35 : t375 = t373
  rotate_left
  · rw [if_neg c35] at H
    have c35b0 : (t375 == t373) = false := beq_eq_false_iff_ne.mpr c35
    have c35b1 : (t375 != t373) = true := bne_iff_ne.mpr c35
    obtain rfl := Option.some.inj H
    go_wp2
    go_ret
    exact ⟨er_, pb_ HB.out⟩
  rw [if_pos c35] at H
  have c35b0 : (t375 == t373) = true := beq_iff_eq.mpr c35
  have c35b1 : (t375 != t373) = false := bne_eq_false_iff_eq.mpr c35
  clear c35
  replace H := Option.bind_eq_some_iff.mp H
  obtain ⟨t376, A360, H⟩ := H
  (try dsimp only at H)
  have A36 := Aside0.mk A360
  clear A360
  replace H := Option.bind_eq_some_iff.mp H
  obtain ⟨t379, A370, H⟩ := H
  (try dsimp only at H)
  have A37 := Aside0.mk A370
  clear A370
  have HS_ := Aside0.mk H
  clear H
  go_upto_region 25 with (first | ((with_reducible refine gate_callee (f := 57) rfl ?_); refine goesL_ (some 55) rfl rfl Try.func57 (by kernel_rfl) rfl #[.slice A0 l0.length c0] rfl mp_ ?_; (with_reducible refine (laws_toBoxS.calls kj25 _ _ l0 t376 _ ?side1 ?side2 A36.out).mono ?_); (case side1 => exact pc_ (Kd.C_below HR0.out HB.out)); (case side2 => exact HC0.out); rintro e w38 ⟨v377, rfl, ho0, hb⟩; refine ⟨_, rfl, ?_⟩; have n0_ := Aside0.mk (Kd.R_below (pr_ HO_4.out) hb); have n1_ := Aside0.mk (Kd.R_below (pr_ HO_6.out) hb); have n2_ := Aside0.mk (Kd.S_lower (Kd.S_new' (Kd.S_new' ho0 (Kd.R_lt (pr_ HO_4.out))) (Kd.R_lt (pr_ HO_6.out))) (below_size (pb_ HB.out))); have n3_ := Aside0.mk (below_step (pb_ HB.out) hb); clear HO_4; clear HO_6; clear HB; have HO_4 := n0_; have HO_6 := n1_; have HO378 := n2_; have HB := n3_; clear n0_ n1_ n2_ n3_; (try clear hb); (try clear hb2); (try clear hk); (try clear hi); (try clear ho0); obtain ⟨Ao39, co39, eo39⟩ := Kd.S_slice HO378.out; subst eo39) | ((with_reducible refine gate_callee (f := 58) rfl ?_); refine goesL_ (some 56) rfl rfl Try.func58 (by kernel_rfl) rfl #[.slice Ao39 t376.length co39] rfl mp_ ?_; (with_reducible refine (impl_HardenedBoxes.calls kj25 _ _ t376 t379 _ ?side1 ?side2 A37.out).mono ?_); (case side1 => exact pc_ ((Kd.S_reads' HO378.out).2.2)); (case side2 => exact (Kd.S_reads' HO378.out).2.1); rintro e w40 ⟨v380, rfl, ho0, hb⟩; refine ⟨_, rfl, ?_⟩; have n0_ := Aside0.mk (Kd.R_elder' (pr_ HO_4.out) (Kd.R_base ho0) hb); have n1_ := Aside0.mk (Kd.R_elder' (pr_ HO_6.out) (Kd.R_base ho0) hb); have n2_ := Aside0.mk (Kd.S_elder' (ps_ HO378.out) (Kd.R_base ho0) hb); have n3_ := Aside0.mk (Kd.R_lower (Kd.R_new' (Kd.R_new' ho0 (Kd.R_lt (pr_ HO_4.out))) (Kd.R_lt (pr_ HO_6.out))) (below_size (pb_ HB.out))); have n4_ := Aside0.mk (below_step (pb_ HB.out) hb); clear HO_4; clear HO_6; clear HO378; clear HB; have HO_4 := n0_; have HO_6 := n1_; have HO378 := n2_; have HO381 := n3_; have HB := n4_; clear n0_ n1_ n2_ n3_ n4_; (try clear hb); (try clear hb2); (try clear hk); (try clear hi); (try clear ho0)))
  (try simp only [Act.put, List.setIfInBounds_toArray, List.set_cons_zero, List.set_cons_succ])
  have H := HS_.out
  clear HS_
  replace H := Option.bind_eq_some_iff.mp H
  obtain ⟨t382, A410, H⟩ := H
  (try dsimp only at H)
  have A41 := Aside0.mk A410
  clear A410
  have HS_ := Aside0.mk H
  clear H
  obtain ⟨Ao42, co42, eo42⟩ := Kd.R_slice HO381.out
  subst eo42
  go_upto_if 60 with (first | ((with_reducible refine gate_callee (f := 20) rfl ?_); refine goesL_ (some 59) rfl rfl Try.func20 (by kernel_rfl) rfl #[.slice Ao42 t379.length co42, .slice Ao17 t357.length co17] rfl mp_ ?_; (with_reducible refine (laws_eqIntS.calls kj25 _ _ t379 _ _ t357 t382 _ ?side1 ?side2 ?side3 ?side4 A41.out).mono ?_); (case side1 => exact pc_ ((Kd.R_reads' HO381.out).2.2)); (case side2 => exact (Kd.R_reads' HO381.out).2.1); (case side3 => exact pc_ ((Kd.R_reads' HO_4.out).2.2)); (case side4 => exact (Kd.R_reads' HO_4.out).2.1); rintro e w' ⟨rfl, ⟨nd, rfl⟩⟩; refine ⟨_, rfl, ?_⟩))
  (try simp only [Act.put, List.setIfInBounds_toArray, List.set_cons_zero, List.set_cons_succ])
  have H := HS_.out
  clear HS_
  by_cases c43 : t382 = true
  rotate_left
  · replace c43 := Bool.eq_false_iff.mpr c43
    subst c43
    rw [if_neg (show ¬ (false = true) by decide)] at H
    obtain rfl := Option.some.inj H
    go_wp2
    go_ret
    exact ⟨er_, pb_ HB.out⟩
  subst c43
  rw [if_pos rfl] at H
  replace H := Option.bind_eq_some_iff.mp H
  obtain ⟨t383, A440, H⟩ := H
  (try dsimp only at H)
  have A44 := Aside0.mk A440
  clear A440
  have HS_ := Aside0.mk H
  clear H
  go_upto_if 65 with (first | ((with_reducible refine gate_callee (f := 28) rfl ?_); refine goesL_ (some 63) rfl rfl Try.func28 (by kernel_rfl) rfl #[.slice Ao16 t374.length co16, .int .i64 1] rfl (by (try simp only [List.map_toArray, List.map_cons, List.map_nil]); first | done | (rw [show t374.length = t363.length from (Kd.R_reads' HO_6.out).1.symm] <;> rfl) | rfl | (simp only [List.length_drop, List.length_take]; rfl)) ?_; (with_reducible refine (laws_heldIntS.calls kj25 _ _ t374 1 t383 _ ?side1 ?side2 A44.out).mono ?_); (case side1 => exact pc_ ((Kd.R_reads' HO_6.out).2.2)); (case side2 => rw [show t374.length = t363.length from (Kd.R_reads' HO_6.out).1.symm]; exact (Kd.R_reads' HO_6.out).2.1); rintro e w' ⟨rfl, ⟨nd, rfl⟩⟩; refine ⟨_, rfl, ?_⟩))
  (try simp only [Act.put, List.setIfInBounds_toArray, List.set_cons_zero, List.set_cons_succ])
  have H := HS_.out
  clear HS_
  by_cases c45 : t383 < 0
  · rw [if_pos c45] at H
    have c45b0 : decide (t383 < 0) = true := decide_eq_true c45
    clear c45
    (first | rw [c45b0] | (simp only [i64_w, i32_w]; rw [c45b0]) | skip)
    obtain rfl := Option.some.inj H
    go_wp2
    go_ret
    exact ⟨er_, pb_ HB.out⟩
  rw [if_neg c45] at H
  have c45b0 : decide (t383 < 0) = false := decide_eq_false c45
  clear c45
  (first | rw [c45b0] | (simp only [i64_w, i32_w]; rw [c45b0]) | skip)
  by_cases c46 : t383 = t373
  rotate_left
  · rw [if_neg c46] at H
    have c46b0 : (t383 == t373) = false := beq_eq_false_iff_ne.mpr c46
    have c46b1 : (t383 != t373) = true := bne_iff_ne.mpr c46
    obtain rfl := Option.some.inj H
    go_wp2
    go_ret
    exact ⟨er_, pb_ HB.out⟩
  rw [if_pos c46] at H
  have c46b0 : (t383 == t373) = true := beq_iff_eq.mpr c46
  have c46b1 : (t383 != t373) = false := bne_eq_false_iff_eq.mpr c46
  clear c46
  obtain rfl := Option.some.inj H
  go_wp2
  go_ret
  exact ⟨er_, pb_ HB.out⟩

/-- THE ONE PURE STATEMENT of laws_FnExactHardenedBoxes: yours. -/
def laws_FnExactHardenedBoxes.Pure : Prop := ∀ (x0 : List (S64)), (x0.length * 64 ≤ 140737488351232 ∧ ∀ y ∈ x0, Q64 y) → ∃ k, laws_FnExactHardenedBoxes.f k x0 = some true

end Go.Proofs.Ytdoefkloanpliaa.Print
