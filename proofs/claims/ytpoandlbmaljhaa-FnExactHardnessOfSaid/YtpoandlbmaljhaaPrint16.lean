-- Written by a program of this session (printx.py) out of the translation; Lean checks it.
import Derived.Test.YtpoandlbmaljhaaPrint0
import Derived.Test.YtpoandlbmaljhaaPrint1
import Derived.Test.YtpoandlbmaljhaaPrint6
import Derived.Test.YtpoandlbmaljhaaPrint7
import Derived.Test.YtpoandlbmaljhaaPrint13
import Derived.Test.YtpoandlbmaljhaaPrint14
namespace Go.Proofs.Ytpoandlbmaljhaa.Print
open Go.RowKit Go.Proofs.YtpoandlbmaljhaaW.PrintWords Go.Proofs.YtpoandlbmaljhaaW.PrintLast Go.Proofs.YtpoandlbmaljhaaW.PrintMore Go.Proofs.Ytpoandlbmaljhaa.Short
attribute [local go_sem] max2_int min2_int max_two min_two max_three min_three max_four min_four   -- for this text's walks alone
set_option linter.unusedVariables false
set_option linter.unusedSimpArgs false

/-! ### laws_FnExactHardnessOf: function 3 -/
def laws_FnExactHardnessOf.f (k : Nat) (l0 : List (S46)) (l1 : List Int) : Option (Bool) := if (l1.length : Int) > 1048576 then (some true) else ((laws_szBoxS.f k l0 1048576).bind fun t531 => (if t531 < 0 then (some true) else ((laws_toBoxS.f k l0).bind fun t532 => ((laws_toIntS.f k l1).bind fun t535 => ((spec_HardnessOf.f k t532 t535).bind fun t538 => ((laws_toBoxS.f k l0).bind fun t539 => ((laws_toIntS.f k l1).bind fun t542 => ((impl_HardnessOf.f k t539 t542).bind fun t545 => (if t545 = t538 then ((laws_toBoxS.f k l0).bind fun t546 => ((laws_eqBoxS.f k t539 t546).bind fun t549 => (if t549 = true then ((laws_toIntS.f k l1).bind fun t550 => ((laws_eqIntS.f k t542 t550).bind fun t553 => (if t553 = true then (some true) else (some false)))) else (some false)))) else (some false))))))))))
theorem laws_FnExactHardnessOf.mono : ∀ a0 a1 k, LeO (laws_FnExactHardnessOf.f k a0 a1) (laws_FnExactHardnessOf.f (k + 1) a0 a1) := by
  intro a0 a1 k
  unfold laws_FnExactHardnessOf.f
  repeat' first
      | (with_reducible exact impl_HardnessOf.mono _ _ _)
      | (with_reducible exact laws_eqBoxS.mono _ _ _)
      | (with_reducible exact laws_eqIntS.mono _ _ _)
      | (with_reducible exact laws_szBoxS.mono _ _ _)
      | (with_reducible exact laws_toBoxS.mono _ _)
      | (with_reducible exact laws_toIntS.mono _ _)
      | (with_reducible exact spec_HardnessOf.mono _ _ _)
      | (with_reducible exact LeO.refl _)
      | (with_reducible exact LeO.none _)
      | (with_reducible refine LeO.ite ?_ ?_)
      | (with_reducible refine LeO.bind ?_ (fun _ => ?_))
      | exact impl_HardnessOf.mono _ _ _
      | exact laws_eqBoxS.mono _ _ _
      | exact laws_eqIntS.mono _ _ _
      | exact laws_szBoxS.mono _ _ _
      | exact laws_toBoxS.mono _ _
      | exact laws_toIntS.mono _ _
      | exact spec_HardnessOf.mono _ _ _
      | exact LeO.none _
      | refine LeO.ite ?_ ?_
      | refine LeO.bind ?_ (fun _ => ?_)
set_option maxHeartbeats 8000000 in
set_option maxRecDepth 100000 in
theorem laws_FnExactHardnessOf.calls (k : Nat) (A0 : Option Addr) (c0 : Nat) (l0 : List (S46)) (A1 : Option Addr) (c1 : Nat) (l1 : List Int) (r : Bool) (w : World) (hr0 : Kd.C k46 w A0 l0.length l0) (hc0 : l0.length ≤ c0) (hr1 : Kd.C (Kd.int .i64) w A1 l1.length l1) (hc1 : l1.length ≤ c1) (h : laws_FnExactHardnessOf.f k l0 l1 = some r) :
    Calls Try.prog 3 #[.slice A0 l0.length c0, .slice A1 l1.length c1] w fun e w' => e = .returned (.bool r) ∧ Below w.heap.size w w' := by
  have HR0 := Aside0.mk hr0
  have HC0 := Aside0.mk hc0
  clear hr0 hc0
  have HR1 := Aside0.mk hr1
  have HC1 := Aside0.mk hc1
  clear hr1 hc1
  have HB := Aside0.mk (Below.refl w.heap.size w)
  have H : (if (l1.length : Int) > 1048576 then (some true) else ((laws_szBoxS.f k l0 1048576).bind fun t531 => (if t531 < 0 then (some true) else ((laws_toBoxS.f k l0).bind fun t532 => ((laws_toIntS.f k l1).bind fun t535 => ((spec_HardnessOf.f k t532 t535).bind fun t538 => ((laws_toBoxS.f k l0).bind fun t539 => ((laws_toIntS.f k l1).bind fun t542 => ((impl_HardnessOf.f k t539 t542).bind fun t545 => (if t545 = t538 then ((laws_toBoxS.f k l0).bind fun t546 => ((laws_eqBoxS.f k t539 t546).bind fun t549 => (if t549 = true then ((laws_toIntS.f k l1).bind fun t550 => ((laws_eqIntS.f k t542 t550).bind fun t553 => (if t553 = true then (some true) else (some false)))) else (some false)))) else (some false))))))))))) = some r := h
  clear h
  by_cases c3 : (l1.length : Int) > 1048576
  · rw [if_pos c3] at H
    have c3b0 : decide (1048576 < (l1.length : Int)) = true := decide_eq_true c3
    have c3b1 : decide (1048576 < l1.length) = true := decide_eq_true (by omega)
    clear c3
    obtain rfl := Option.some.inj H
    go_enter Try.func3, Try.ntmps3
    go_wp2
    go_ret
    exact ⟨er_, pb_ HB.out⟩
  rw [if_neg c3] at H
  have c3b0 : decide (1048576 < (l1.length : Int)) = false := decide_eq_false c3
  have c3b1 : decide (1048576 < l1.length) = false := decide_eq_false (by omega)
  clear c3
  replace H := Option.bind_eq_some_iff.mp H
  obtain ⟨t531, A40, H⟩ := H
  (try dsimp only at H)
  have A4 := Aside0.mk A40
  clear A40
  have HS_ := Aside0.mk H
  clear H
  go_enter Try.func3, Try.ntmps3
  go_upto_if 17 with (first | ((with_reducible refine gate_callee (f := 7) rfl ?_); refine goesL_ (some 15) rfl rfl Try.func7 (by kernel_rfl) rfl #[.slice A0 l0.length c0, .int .i64 1048576] rfl mp_ ?_; (with_reducible refine (laws_szBoxS.calls k _ _ l0 1048576 t531 _ ?side1 ?side2 A4.out).mono ?_); (case side1 => exact pc_ HR0.out); (case side2 => exact HC0.out); rintro e w5 ⟨rfl, hb⟩; refine ⟨_, rfl, ?_⟩; have n0_ := Aside0.mk (below_step (pb_ HB.out) hb); clear HB; have HB := n0_; clear n0_; (try clear hb); (try clear hb2); (try clear hk); (try clear hi)))
  (try simp only [Act.put, List.setIfInBounds_toArray, List.set_cons_zero, List.set_cons_succ])
  have H := HS_.out
  clear HS_
  by_cases c6 : t531 < 0
  · rw [if_pos c6] at H
    have c6b0 : decide (t531 < 0) = true := decide_eq_true c6
    clear c6
    (first | rw [c6b0] | (simp only [i64_w, i32_w]; rw [c6b0]) | skip)
    obtain rfl := Option.some.inj H
    go_wp2
    go_ret
    exact ⟨er_, pb_ HB.out⟩
  rw [if_neg c6] at H
  have c6b0 : decide (t531 < 0) = false := decide_eq_false c6
  clear c6
  (first | rw [c6b0] | (simp only [i64_w, i32_w]; rw [c6b0]) | skip)
  replace H := Option.bind_eq_some_iff.mp H
  obtain ⟨t532, A70, H⟩ := H
  (try dsimp only at H)
  have A7 := Aside0.mk A70
  clear A70
  replace H := Option.bind_eq_some_iff.mp H
  obtain ⟨t535, A80, H⟩ := H
  (try dsimp only at H)
  have A8 := Aside0.mk A80
  clear A80
  replace H := Option.bind_eq_some_iff.mp H
  obtain ⟨t538, A90, H⟩ := H
  (try dsimp only at H)
  have A9 := Aside0.mk A90
  clear A90
  have HS_ := Aside0.mk H
  clear H
  go_upto_region 8 with (first | ((with_reducible refine gate_callee (f := 9) rfl ?_); refine goesL_ (some 19) rfl rfl Try.func9 (by kernel_rfl) rfl #[.slice A0 l0.length c0] rfl mp_ ?_; (with_reducible refine (laws_toBoxS.calls k _ _ l0 t532 _ ?side1 ?side2 A7.out).mono ?_); (case side1 => exact pc_ (Kd.C_below HR0.out HB.out)); (case side2 => exact HC0.out); rintro e w10 ⟨v533, rfl, ho0, hb⟩; refine ⟨_, rfl, ?_⟩; have n0_ := Aside0.mk (Kd.S_lower ho0 (below_size (pb_ HB.out))); have n1_ := Aside0.mk (below_step (pb_ HB.out) hb); clear HB; have HO534 := n0_; have HB := n1_; clear n0_ n1_; (try clear hb); (try clear hb2); (try clear hk); (try clear hi); (try clear ho0)) | ((with_reducible refine gate_callee (f := 10) rfl ?_); refine goesL_ (some 21) rfl rfl Try.func10 (by kernel_rfl) rfl #[.slice A1 l1.length c1] rfl mp_ ?_; (with_reducible refine (laws_toIntS.calls k _ _ l1 t535 _ ?side1 ?side2 A8.out).mono ?_); (case side1 => exact pc_ (Kd.C_below HR1.out HB.out)); (case side2 => exact HC1.out); rintro e w11 ⟨v536, rfl, ho0, hb⟩; refine ⟨_, rfl, ?_⟩; have n0_ := Aside0.mk (Kd.S_elder' (ps_ HO534.out) (Kd.R_base ho0) hb); have n1_ := Aside0.mk (Kd.R_lower ho0 (below_size (pb_ HB.out))); have n2_ := Aside0.mk (below_step (pb_ HB.out) hb); clear HO534; clear HB; have HO534 := n0_; have HO537 := n1_; have HB := n2_; clear n0_ n1_ n2_; (try clear hb); (try clear hb2); (try clear hk); (try clear hi); (try clear ho0); obtain ⟨Ao12, co12, eo12⟩ := Kd.S_slice HO534.out; subst eo12; obtain ⟨Ao13, co13, eo13⟩ := Kd.R_slice HO537.out; subst eo13) | ((with_reducible refine gate_callee (f := 8) rfl ?_); refine goesL_ (some 22) rfl rfl Try.func8 (by kernel_rfl) rfl #[.slice Ao12 t532.length co12, .slice Ao13 t535.length co13] rfl mp_ ?_; (with_reducible refine (spec_HardnessOf.calls k _ _ t532 _ _ t535 t538 _ ?side1 ?side2 ?side3 ?side4 A9.out).mono ?_); (case side1 => exact pc_ ((Kd.S_reads' HO534.out).2.2)); (case side2 => exact (Kd.S_reads' HO534.out).2.1); (case side3 => exact pc_ ((Kd.R_reads' HO537.out).2.2)); (case side4 => exact (Kd.R_reads' HO537.out).2.1); rintro e w14 ⟨rfl, hb⟩; refine ⟨_, rfl, ?_⟩; have n0_ := Aside0.mk (Kd.S_below (ps_ HO534.out) hb); have n1_ := Aside0.mk (Kd.R_below (pr_ HO537.out) hb); have n2_ := Aside0.mk (below_step (pb_ HB.out) hb); clear HO534; clear HO537; clear HB; have HO534 := n0_; have HO537 := n1_; have HB := n2_; clear n0_ n1_ n2_; (try clear hb); (try clear hb2); (try clear hk); (try clear hi)))
  (try simp only [Act.put, List.setIfInBounds_toArray, List.set_cons_zero, List.set_cons_succ])
  have H := HS_.out
  clear HS_
  replace H := Option.bind_eq_some_iff.mp H
  obtain ⟨t539, A150, H⟩ := H
  (try dsimp only at H)
  have A15 := Aside0.mk A150
  clear A150
  have HS_ := Aside0.mk H
  clear H
  go_upto_region 9 with (first | ((with_reducible refine gate_callee (f := 9) rfl ?_); refine goesL_ (some 24) rfl rfl Try.func9 (by kernel_rfl) rfl #[.slice A0 l0.length c0] rfl mp_ ?_; (with_reducible refine (laws_toBoxS.calls k _ _ l0 t539 _ ?side1 ?side2 A15.out).mono ?_); (case side1 => exact pc_ (Kd.C_below HR0.out HB.out)); (case side2 => exact HC0.out); rintro e w16 ⟨v540, rfl, ho0, hb⟩; refine ⟨_, rfl, ?_⟩; have n0_ := Aside0.mk (Kd.S_elder' (ps_ HO534.out) (Kd.S_base ho0) hb); have n1_ := Aside0.mk (Kd.R_below (pr_ HO537.out) hb); have n2_ := Aside0.mk (Kd.S_lower (Kd.S_new' (Kd.S_new' ho0 (Kd.S_lt (ps_ HO534.out))) (Kd.R_lt (pr_ HO537.out))) (below_size (pb_ HB.out))); have n3_ := Aside0.mk (below_step (pb_ HB.out) hb); clear HO534; clear HO537; clear HB; have HO534 := n0_; have HO537 := n1_; have HO541 := n2_; have HB := n3_; clear n0_ n1_ n2_ n3_; (try clear hb); (try clear hb2); (try clear hk); (try clear hi); (try clear ho0)))
  (try simp only [Act.put, List.setIfInBounds_toArray, List.set_cons_zero, List.set_cons_succ])
  have H := HS_.out
  clear HS_
  replace H := Option.bind_eq_some_iff.mp H
  obtain ⟨t542, A170, H⟩ := H
  (try dsimp only at H)
  have A17 := Aside0.mk A170
  clear A170
  have HS_ := Aside0.mk H
  clear H
  go_upto_region 10 with (first | ((with_reducible refine gate_callee (f := 10) rfl ?_); refine goesL_ (some 26) rfl rfl Try.func10 (by kernel_rfl) rfl #[.slice A1 l1.length c1] rfl mp_ ?_; (with_reducible refine (laws_toIntS.calls k _ _ l1 t542 _ ?side1 ?side2 A17.out).mono ?_); (case side1 => exact pc_ (Kd.C_below HR1.out HB.out)); (case side2 => exact HC1.out); rintro e w18 ⟨v543, rfl, ho0, hb⟩; refine ⟨_, rfl, ?_⟩; have n0_ := Aside0.mk (Kd.S_elder' (ps_ HO534.out) (Kd.R_base ho0) hb); have n1_ := Aside0.mk (Kd.R_elder' (pr_ HO537.out) (Kd.R_base ho0) hb); have n2_ := Aside0.mk (Kd.S_elder' (ps_ HO541.out) (Kd.R_base ho0) hb); have n3_ := Aside0.mk (Kd.R_lower (Kd.R_new' ho0 (Kd.R_lt (pr_ HO537.out))) (below_size (pb_ HB.out))); have n4_ := Aside0.mk (below_step (pb_ HB.out) hb); clear HO534; clear HO537; clear HO541; clear HB; have HO534 := n0_; have HO537 := n1_; have HO541 := n2_; have HO544 := n3_; have HB := n4_; clear n0_ n1_ n2_ n3_ n4_; (try clear hb); (try clear hb2); (try clear hk); (try clear hi); (try clear ho0)))
  (try simp only [Act.put, List.setIfInBounds_toArray, List.set_cons_zero, List.set_cons_succ])
  have H := HS_.out
  clear HS_
  replace H := Option.bind_eq_some_iff.mp H
  obtain ⟨t545, A190, H⟩ := H
  (try dsimp only at H)
  have A19 := Aside0.mk A190
  clear A190
  have HS_ := Aside0.mk H
  clear H
  obtain ⟨Ao20, co20, eo20⟩ := Kd.S_slice HO541.out
  subst eo20
  obtain ⟨Ao21, co21, eo21⟩ := Kd.R_slice HO544.out
  subst eo21
  go_upto_if 32 with (first | ((with_reducible refine gate_callee (f := 11) rfl ?_); refine goesL_ (some 29) rfl rfl Try.func11 (by kernel_rfl) rfl #[.slice Ao20 t539.length co20, .slice Ao21 t542.length co21] rfl mp_ ?_; (with_reducible refine (impl_HardnessOf.calls k _ _ t539 _ _ t542 t545 _ ?side1 ?side2 ?side3 ?side4 A19.out).mono ?_); (case side1 => exact pc_ ((Kd.S_reads' HO541.out).2.2)); (case side2 => exact (Kd.S_reads' HO541.out).2.1); (case side3 => exact pc_ ((Kd.R_reads' HO544.out).2.2)); (case side4 => exact (Kd.R_reads' HO544.out).2.1); rintro e w22 ⟨rfl, hb⟩; refine ⟨_, rfl, ?_⟩; have n0_ := Aside0.mk (Kd.S_below (ps_ HO534.out) hb); have n1_ := Aside0.mk (Kd.R_below (pr_ HO537.out) hb); have n2_ := Aside0.mk (Kd.S_below (ps_ HO541.out) hb); have n3_ := Aside0.mk (Kd.R_below (pr_ HO544.out) hb); have n4_ := Aside0.mk (below_step (pb_ HB.out) hb); clear HO534; clear HO537; clear HO541; clear HO544; clear HB; have HO534 := n0_; have HO537 := n1_; have HO541 := n2_; have HO544 := n3_; have HB := n4_; clear n0_ n1_ n2_ n3_ n4_; (try clear hb); (try clear hb2); (try clear hk); (try clear hi)))
  (try simp only [Act.put, List.setIfInBounds_toArray, List.set_cons_zero, List.set_cons_succ])
  have H := HS_.out
  clear HS_
  by_cases c23 : t545 = t538
  rotate_left
  · rw [if_neg c23] at H
    have c23b0 : (t545 == t538) = false := beq_eq_false_iff_ne.mpr c23
    have c23b1 : (t545 != t538) = true := bne_iff_ne.mpr c23
    (first | rw [c23b0] | (simp only [i64_w, i32_w]; rw [c23b0]) | rw [c23b1] | (have c_ := c23b1; rw [bne] at c_; rw [c_]; clear c_) | skip)
    obtain rfl := Option.some.inj H
    go_wp2
    go_ret
    exact ⟨er_, pb_ HB.out⟩
  rw [if_pos c23] at H
  have c23b0 : (t545 == t538) = true := beq_iff_eq.mpr c23
  have c23b1 : (t545 != t538) = false := bne_eq_false_iff_eq.mpr c23
  clear c23
  (first | rw [c23b0] | (simp only [i64_w, i32_w]; rw [c23b0]) | rw [c23b1] | (have c_ := c23b1; rw [bne] at c_; rw [c_]; clear c_) | skip)
  replace H := Option.bind_eq_some_iff.mp H
  obtain ⟨t546, A240, H⟩ := H
  (try dsimp only at H)
  have A24 := Aside0.mk A240
  clear A240
  replace H := Option.bind_eq_some_iff.mp H
  obtain ⟨t549, A250, H⟩ := H
  (try dsimp only at H)
  have A25 := Aside0.mk A250
  clear A250
  have HS_ := Aside0.mk H
  clear H
  go_upto_if 37 with (first | ((with_reducible refine gate_callee (f := 9) rfl ?_); refine goesL_ (some 35) rfl rfl Try.func9 (by kernel_rfl) rfl #[.slice A0 l0.length c0] rfl mp_ ?_; (with_reducible refine (laws_toBoxS.calls k _ _ l0 t546 _ ?side1 ?side2 A24.out).mono ?_); (case side1 => exact pc_ (Kd.C_below HR0.out HB.out)); (case side2 => exact HC0.out); rintro e w26 ⟨v547, rfl, ho0, hb⟩; refine ⟨_, rfl, ?_⟩; have n0_ := Aside0.mk (Kd.S_elder' (ps_ HO534.out) (Kd.S_base ho0) hb); have n1_ := Aside0.mk (Kd.R_below (pr_ HO537.out) hb); have n2_ := Aside0.mk (Kd.S_elder' (ps_ HO541.out) (Kd.S_base ho0) hb); have n3_ := Aside0.mk (Kd.R_below (pr_ HO544.out) hb); have n4_ := Aside0.mk (Kd.S_lower (Kd.S_new' (Kd.S_new' (Kd.S_new' (Kd.S_new' ho0 (Kd.S_lt (ps_ HO534.out))) (Kd.R_lt (pr_ HO537.out))) (Kd.S_lt (ps_ HO541.out))) (Kd.R_lt (pr_ HO544.out))) (below_size (pb_ HB.out))); have n5_ := Aside0.mk (below_step (pb_ HB.out) hb); clear HO534; clear HO537; clear HO541; clear HO544; clear HB; have HO534 := n0_; have HO537 := n1_; have HO541 := n2_; have HO544 := n3_; have HO548 := n4_; have HB := n5_; clear n0_ n1_ n2_ n3_ n4_ n5_; (try clear hb); (try clear hb2); (try clear hk); (try clear hi); (try clear ho0); obtain ⟨Ao27, co27, eo27⟩ := Kd.S_slice HO548.out; subst eo27) | ((with_reducible refine gate_callee (f := 12) rfl ?_); refine goesL_ (some 36) rfl rfl Try.func12 (by kernel_rfl) rfl #[.slice Ao20 t539.length co20, .slice Ao27 t546.length co27] rfl mp_ ?_; (with_reducible refine (laws_eqBoxS.calls k _ _ t539 _ _ t546 t549 _ ?side1 ?side2 ?side3 ?side4 A25.out).mono ?_); (case side1 => exact pc_ ((Kd.S_reads' HO541.out).2.2)); (case side2 => exact (Kd.S_reads' HO541.out).2.1); (case side3 => exact pc_ ((Kd.S_reads' HO548.out).2.2)); (case side4 => exact (Kd.S_reads' HO548.out).2.1); rintro e w28 ⟨rfl, hb⟩; refine ⟨_, rfl, ?_⟩; have n0_ := Aside0.mk (Kd.S_below (ps_ HO534.out) hb); have n1_ := Aside0.mk (Kd.R_below (pr_ HO537.out) hb); have n2_ := Aside0.mk (Kd.S_below (ps_ HO541.out) hb); have n3_ := Aside0.mk (Kd.R_below (pr_ HO544.out) hb); have n4_ := Aside0.mk (Kd.S_below (ps_ HO548.out) hb); have n5_ := Aside0.mk (below_step (pb_ HB.out) hb); clear HO534; clear HO537; clear HO541; clear HO544; clear HO548; clear HB; have HO534 := n0_; have HO537 := n1_; have HO541 := n2_; have HO544 := n3_; have HO548 := n4_; have HB := n5_; clear n0_ n1_ n2_ n3_ n4_ n5_; (try clear hb); (try clear hb2); (try clear hk); (try clear hi)))
  (try simp only [Act.put, List.setIfInBounds_toArray, List.set_cons_zero, List.set_cons_succ])
  have H := HS_.out
  clear HS_
  by_cases c29 : t549 = true
  rotate_left
  · replace c29 := Bool.eq_false_iff.mpr c29
    subst c29
    rw [if_neg (show ¬ (false = true) by decide)] at H
    obtain rfl := Option.some.inj H
    go_wp2
    go_ret
    exact ⟨er_, pb_ HB.out⟩
  subst c29
  rw [if_pos rfl] at H
  replace H := Option.bind_eq_some_iff.mp H
  obtain ⟨t550, A300, H⟩ := H
  (try dsimp only at H)
  have A30 := Aside0.mk A300
  clear A300
  replace H := Option.bind_eq_some_iff.mp H
  obtain ⟨t553, A310, H⟩ := H
  replace H : (if t553 = true then (some true) else (some false)) = some r := H
  have A31 := Aside0.mk A310
  clear A310
  have HS_ := Aside0.mk H
  clear H
  go_upto_if 42 with (first | ((with_reducible refine gate_callee (f := 10) rfl ?_); refine goesL_ (some 40) rfl rfl Try.func10 (by kernel_rfl) rfl #[.slice A1 l1.length c1] rfl mp_ ?_; (with_reducible refine (laws_toIntS.calls k _ _ l1 t550 _ ?side1 ?side2 A30.out).mono ?_); (case side1 => exact pc_ (Kd.C_below HR1.out HB.out)); (case side2 => exact HC1.out); rintro e w32 ⟨v551, rfl, ho0, hb⟩; refine ⟨_, rfl, ?_⟩; have n0_ := Aside0.mk (Kd.S_elder' (ps_ HO534.out) (Kd.R_base ho0) hb); have n1_ := Aside0.mk (Kd.R_elder' (pr_ HO537.out) (Kd.R_base ho0) hb); have n2_ := Aside0.mk (Kd.S_elder' (ps_ HO541.out) (Kd.R_base ho0) hb); have n3_ := Aside0.mk (Kd.R_elder' (pr_ HO544.out) (Kd.R_base ho0) hb); have n4_ := Aside0.mk (Kd.S_elder' (ps_ HO548.out) (Kd.R_base ho0) hb); have n5_ := Aside0.mk (Kd.R_lower (Kd.R_new' (Kd.R_new' ho0 (Kd.R_lt (pr_ HO537.out))) (Kd.R_lt (pr_ HO544.out))) (below_size (pb_ HB.out))); have n6_ := Aside0.mk (below_step (pb_ HB.out) hb); clear HO534; clear HO537; clear HO541; clear HO544; clear HO548; clear HB; have HO534 := n0_; have HO537 := n1_; have HO541 := n2_; have HO544 := n3_; have HO548 := n4_; have HO552 := n5_; have HB := n6_; clear n0_ n1_ n2_ n3_ n4_ n5_ n6_; (try clear hb); (try clear hb2); (try clear hk); (try clear hi); (try clear ho0); obtain ⟨Ao33, co33, eo33⟩ := Kd.R_slice HO552.out; subst eo33) | ((with_reducible refine gate_callee (f := 13) rfl ?_); refine goesL_ (some 41) rfl rfl Try.func13 (by kernel_rfl) rfl #[.slice Ao21 t542.length co21, .slice Ao33 t550.length co33] rfl mp_ ?_; (with_reducible refine (laws_eqIntS.calls k _ _ t542 _ _ t550 t553 _ ?side1 ?side2 ?side3 ?side4 A31.out).mono ?_); (case side1 => exact pc_ ((Kd.R_reads' HO544.out).2.2)); (case side2 => exact (Kd.R_reads' HO544.out).2.1); (case side3 => exact pc_ ((Kd.R_reads' HO552.out).2.2)); (case side4 => exact (Kd.R_reads' HO552.out).2.1); rintro e w' ⟨rfl, ⟨nd, rfl⟩⟩; refine ⟨_, rfl, ?_⟩))
  (try simp only [Act.put, List.setIfInBounds_toArray, List.set_cons_zero, List.set_cons_succ])
  have H := HS_.out
  clear HS_
  by_cases c34 : t553 = true
  rotate_left
  · replace c34 := Bool.eq_false_iff.mpr c34
    subst c34
    rw [if_neg (show ¬ (false = true) by decide)] at H
    obtain rfl := Option.some.inj H
    go_wp2
    go_ret
    exact ⟨er_, pb_ HB.out⟩
  subst c34
  rw [if_pos rfl] at H
  obtain rfl := Option.some.inj H
  go_wp2
  go_ret
  exact ⟨er_, pb_ HB.out⟩

/-- THE ONE PURE STATEMENT of laws_FnExactHardnessOf: yours. -/
def laws_FnExactHardnessOf.Pure : Prop := ∀ (x0 : List (S46)) (x1 : List Int), (x0.length * 64 ≤ 140737488351232 ∧ ∀ y ∈ x0, Q46 y) → (x1.length * 8 ≤ 140737488351232 ∧ ∀ y ∈ x1, (Lit.int .i64 y).wf = true) → ∃ k, laws_FnExactHardnessOf.f k x0 x1 = some true

end Go.Proofs.Ytpoandlbmaljhaa.Print
