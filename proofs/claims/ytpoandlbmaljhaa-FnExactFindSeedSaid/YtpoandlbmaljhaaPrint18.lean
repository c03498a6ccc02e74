-- Written by a program of this session (printx.py) out of the translation; Lean checks it.
import Derived.Test.YtpoandlbmaljhaaPrint0
import Derived.Test.YtpoandlbmaljhaaPrint1
import Derived.Test.YtpoandlbmaljhaaPrint7
import Derived.Test.YtpoandlbmaljhaaPrint13
import Derived.Test.YtpoandlbmaljhaaPrint14
import Derived.Test.YtpoandlbmaljhaaPrint15
namespace Go.Proofs.Ytpoandlbmaljhaa.Print
open Go.RowKit Go.Proofs.YtpoandlbmaljhaaW.PrintWords Go.Proofs.YtpoandlbmaljhaaW.PrintLast Go.Proofs.YtpoandlbmaljhaaW.PrintMore Go.Proofs.Ytpoandlbmaljhaa.Short
attribute [local go_sem] max2_int min2_int max_two min_two max_three min_three max_four min_four   -- for this text's walks alone
set_option linter.unusedVariables false
set_option linter.unusedSimpArgs false

/-! ### laws_FnExactFindSeed: function 6 -/
def laws_FnExactFindSeed.f (k : Nat) (l0 : List (S46)) (l1 : List Int) (a2 : Int) : Option (Bool) := if (l1.length : Int) > 1048576 then (some true) else ((laws_szBoxS.f k l0 1048576).bind fun t606 => (if t606 < 0 then (some true) else ((laws_toBoxS.f k l0).bind fun t607 => ((laws_toIntS.f k l1).bind fun t610 => ((spec_FindSeed.f k t607 t610 a2).bind fun t613 => ((laws_toBoxS.f k l0).bind fun t614 => ((laws_toIntS.f k l1).bind fun t617 => ((impl_FindSeed.f k t614 t617 a2).bind fun t620 => (if t620 = t613 then ((laws_toBoxS.f k l0).bind fun t621 => ((laws_eqBoxS.f k t614 t621).bind fun t624 => (if t624 = true then ((laws_toIntS.f k l1).bind fun t625 => ((laws_eqIntS.f k t617 t625).bind fun t628 => (if t628 = true then (some true) else (some false)))) else (some false)))) else (some false))))))))))
theorem laws_FnExactFindSeed.mono : ∀ a0 a1 a2 k, LeO (laws_FnExactFindSeed.f k a0 a1 a2) (laws_FnExactFindSeed.f (k + 1) a0 a1 a2) := by
  intro a0 a1 a2 k
  unfold laws_FnExactFindSeed.f
  repeat' first
      | (with_reducible exact impl_FindSeed.mono _ _ _ _)
      | (with_reducible exact laws_eqBoxS.mono _ _ _)
      | (with_reducible exact laws_eqIntS.mono _ _ _)
      | (with_reducible exact laws_szBoxS.mono _ _ _)
      | (with_reducible exact laws_toBoxS.mono _ _)
      | (with_reducible exact laws_toIntS.mono _ _)
      | (with_reducible exact spec_FindSeed.mono _ _ _ _)
      | (with_reducible exact LeO.refl _)
      | (with_reducible exact LeO.none _)
      | (with_reducible refine LeO.ite ?_ ?_)
      | (with_reducible refine LeO.bind ?_ (fun _ => ?_))
      | exact impl_FindSeed.mono _ _ _ _
      | exact laws_eqBoxS.mono _ _ _
      | exact laws_eqIntS.mono _ _ _
      | exact laws_szBoxS.mono _ _ _
      | exact laws_toBoxS.mono _ _
      | exact laws_toIntS.mono _ _
      | exact spec_FindSeed.mono _ _ _ _
      | exact LeO.none _
      | refine LeO.ite ?_ ?_
      | refine LeO.bind ?_ (fun _ => ?_)
set_option maxHeartbeats 8000000 in
set_option maxRecDepth 100000 in
theorem laws_FnExactFindSeed.calls (k : Nat) (A0 : Option Addr) (c0 : Nat) (l0 : List (S46)) (A1 : Option Addr) (c1 : Nat) (l1 : List Int) (a2 : Int) (r : Bool) (w : World) (hr0 : Kd.C k46 w A0 l0.length l0) (hc0 : l0.length ≤ c0) (hr1 : Kd.C (Kd.int .i64) w A1 l1.length l1) (hc1 : l1.length ≤ c1) (h : laws_FnExactFindSeed.f k l0 l1 a2 = some r) :
    Calls Try.prog 6 #[.slice A0 l0.length c0, .slice A1 l1.length c1, .int .i64 a2] w fun e w' => e = .returned (.bool r) ∧ Below w.heap.size w w' := by
  have HR0 := Aside0.mk hr0
  have HC0 := Aside0.mk hc0
  clear hr0 hc0
  have HR1 := Aside0.mk hr1
  have HC1 := Aside0.mk hc1
  clear hr1 hc1
  have HB := Aside0.mk (Below.refl w.heap.size w)
  have H : (if (l1.length : Int) > 1048576 then (some true) else ((laws_szBoxS.f k l0 1048576).bind fun t606 => (if t606 < 0 then (some true) else ((laws_toBoxS.f k l0).bind fun t607 => ((laws_toIntS.f k l1).bind fun t610 => ((spec_FindSeed.f k t607 t610 a2).bind fun t613 => ((laws_toBoxS.f k l0).bind fun t614 => ((laws_toIntS.f k l1).bind fun t617 => ((impl_FindSeed.f k t614 t617 a2).bind fun t620 => (if t620 = t613 then ((laws_toBoxS.f k l0).bind fun t621 => ((laws_eqBoxS.f k t614 t621).bind fun t624 => (if t624 = true then ((laws_toIntS.f k l1).bind fun t625 => ((laws_eqIntS.f k t617 t625).bind fun t628 => (if t628 = true then (some true) else (some false)))) else (some false)))) else (some false))))))))))) = some r := h
  clear h
  by_cases c4 : (l1.length : Int) > 1048576
  · rw [if_pos c4] at H
    have c4b0 : decide (1048576 < (l1.length : Int)) = true := decide_eq_true c4
    have c4b1 : decide (1048576 < l1.length) = true := decide_eq_true (by omega)
    clear c4
    obtain rfl := Option.some.inj H
    go_enter Try.func6, Try.ntmps6
    go_wp2
    go_ret
    exact ⟨er_, pb_ HB.out⟩
  rw [if_neg c4] at H
  have c4b0 : decide (1048576 < (l1.length : Int)) = false := decide_eq_false c4
  have c4b1 : decide (1048576 < l1.length) = false := decide_eq_false (by omega)
  clear c4
  replace H := Option.bind_eq_some_iff.mp H
  obtain ⟨t606, A50, H⟩ := H
  (try dsimp only at H)
  have A5 := Aside0.mk A50
  clear A50
  have HS_ := Aside0.mk H
  clear H
  go_enter Try.func6, Try.ntmps6
  go_upto_if 19 with (first | ((with_reducible refine gate_callee (f := 7) rfl ?_); refine goesL_ (some 17) rfl rfl Try.func7 (by kernel_rfl) rfl #[.slice A0 l0.length c0, .int .i64 1048576] rfl mp_ ?_; (with_reducible refine (laws_szBoxS.calls k _ _ l0 1048576 t606 _ ?side1 ?side2 A5.out).mono ?_); (case side1 => exact pc_ HR0.out); (case side2 => exact HC0.out); rintro e w6 ⟨rfl, hb⟩; refine ⟨_, rfl, ?_⟩; have n0_ := Aside0.mk (below_step (pb_ HB.out) hb); clear HB; have HB := n0_; clear n0_; (try clear hb); (try clear hb2); (try clear hk); (try clear hi)))
  (try simp only [Act.put, List.setIfInBounds_toArray, List.set_cons_zero, List.set_cons_succ])
  have H := HS_.out
  clear HS_
  by_cases c7 : t606 < 0
  · rw [if_pos c7] at H
    have c7b0 : decide (t606 < 0) = true := decide_eq_true c7
    clear c7
    (first | rw [c7b0] | (simp only [i64_w, i32_w]; rw [c7b0]) | skip)
    obtain rfl := Option.some.inj H
    go_wp2
    go_ret
    exact ⟨er_, pb_ HB.out⟩
  rw [if_neg c7] at H
  have c7b0 : decide (t606 < 0) = false := decide_eq_false c7
  clear c7
  (first | rw [c7b0] | (simp only [i64_w, i32_w]; rw [c7b0]) | skip)
  replace H := Option.bind_eq_some_iff.mp H
  obtain ⟨t607, A80, H⟩ := H
  (try dsimp only at H)
  have A8 := Aside0.mk A80
  clear A80
  replace H := Option.bind_eq_some_iff.mp H
  obtain ⟨t610, A90, H⟩ := H
  (try dsimp only at H)
  have A9 := Aside0.mk A90
  clear A90
  replace H := Option.bind_eq_some_iff.mp H
  obtain ⟨t613, A100, H⟩ := H
  (try dsimp only at H)
  have A10 := Aside0.mk A100
  clear A100
  have HS_ := Aside0.mk H
  clear H
  go_upto_region 8 with (first | ((with_reducible refine gate_callee (f := 9) rfl ?_); refine goesL_ (some 21) rfl rfl Try.func9 (by kernel_rfl) rfl #[.slice A0 l0.length c0] rfl mp_ ?_; (with_reducible refine (laws_toBoxS.calls k _ _ l0 t607 _ ?side1 ?side2 A8.out).mono ?_); (case side1 => exact pc_ (Kd.C_below HR0.out HB.out)); (case side2 => exact HC0.out); rintro e w11 ⟨v608, rfl, ho0, hb⟩; refine ⟨_, rfl, ?_⟩; have n0_ := Aside0.mk (Kd.S_lower ho0 (below_size (pb_ HB.out))); have n1_ := Aside0.mk (below_step (pb_ HB.out) hb); clear HB; have HO609 := n0_; have HB := n1_; clear n0_ n1_; (try clear hb); (try clear hb2); (try clear hk); (try clear hi); (try clear ho0)) | ((with_reducible refine gate_callee (f := 10) rfl ?_); refine goesL_ (some 23) rfl rfl Try.func10 (by kernel_rfl) rfl #[.slice A1 l1.length c1] rfl mp_ ?_; (with_reducible refine (laws_toIntS.calls k _ _ l1 t610 _ ?side1 ?side2 A9.out).mono ?_); (case side1 => exact pc_ (Kd.C_below HR1.out HB.out)); (case side2 => exact HC1.out); rintro e w12 ⟨v611, rfl, ho0, hb⟩; refine ⟨_, rfl, ?_⟩; have n0_ := Aside0.mk (Kd.S_elder' (ps_ HO609.out) (Kd.R_base ho0) hb); have n1_ := Aside0.mk (Kd.R_lower ho0 (below_size (pb_ HB.out))); have n2_ := Aside0.mk (below_step (pb_ HB.out) hb); clear HO609; clear HB; have HO609 := n0_; have HO612 := n1_; have HB := n2_; clear n0_ n1_ n2_; (try clear hb); (try clear hb2); (try clear hk); (try clear hi); (try clear ho0); obtain ⟨Ao13, co13, eo13⟩ := Kd.S_slice HO609.out; subst eo13; obtain ⟨Ao14, co14, eo14⟩ := Kd.R_slice HO612.out; subst eo14) | ((with_reducible refine gate_callee (f := 21) rfl ?_); refine goesL_ (some 25) rfl rfl Try.func21 (by kernel_rfl) rfl #[.slice Ao13 t607.length co13, .slice Ao14 t610.length co14, .int .i64 a2] rfl mp_ ?_; (with_reducible refine (spec_FindSeed.calls k _ _ t607 _ _ t610 a2 t613 _ ?side1 ?side2 ?side3 ?side4 A10.out).mono ?_); (case side1 => exact pc_ ((Kd.S_reads' HO609.out).2.2)); (case side2 => exact (Kd.S_reads' HO609.out).2.1); (case side3 => exact pc_ ((Kd.R_reads' HO612.out).2.2)); (case side4 => exact (Kd.R_reads' HO612.out).2.1); rintro e w15 ⟨rfl, hb⟩; refine ⟨_, rfl, ?_⟩; have n0_ := Aside0.mk (Kd.S_below (ps_ HO609.out) hb); have n1_ := Aside0.mk (Kd.R_below (pr_ HO612.out) hb); have n2_ := Aside0.mk (below_step (pb_ HB.out) hb); clear HO609; clear HO612; clear HB; have HO609 := n0_; have HO612 := n1_; have HB := n2_; clear n0_ n1_ n2_; (try clear hb); (try clear hb2); (try clear hk); (try clear hi)))
  (try simp only [Act.put, List.setIfInBounds_toArray, List.set_cons_zero, List.set_cons_succ])
  have H := HS_.out
  clear HS_
  replace H := Option.bind_eq_some_iff.mp H
  obtain ⟨t614, A160, H⟩ := H
  (try dsimp only at H)
  have A16 := Aside0.mk A160
  clear A160
  have HS_ := Aside0.mk H
  clear H
  go_upto_region 9 with (first | ((with_reducible refine gate_callee (f := 9) rfl ?_); refine goesL_ (some 27) rfl rfl Try.func9 (by kernel_rfl) rfl #[.slice A0 l0.length c0] rfl mp_ ?_; (with_reducible refine (laws_toBoxS.calls k _ _ l0 t614 _ ?side1 ?side2 A16.out).mono ?_); (case side1 => exact pc_ (Kd.C_below HR0.out HB.out)); (case side2 => exact HC0.out); rintro e w17 ⟨v615, rfl, ho0, hb⟩; refine ⟨_, rfl, ?_⟩; have n0_ := Aside0.mk (Kd.S_elder' (ps_ HO609.out) (Kd.S_base ho0) hb); have n1_ := Aside0.mk (Kd.R_below (pr_ HO612.out) hb); have n2_ := Aside0.mk (Kd.S_lower (Kd.S_new' (Kd.S_new' ho0 (Kd.S_lt (ps_ HO609.out))) (Kd.R_lt (pr_ HO612.out))) (below_size (pb_ HB.out))); have n3_ := Aside0.mk (below_step (pb_ HB.out) hb); clear HO609; clear HO612; clear HB; have HO609 := n0_; have HO612 := n1_; have HO616 := n2_; have HB := n3_; clear n0_ n1_ n2_ n3_; (try clear hb); (try clear hb2); (try clear hk); (try clear hi); (try clear ho0)))
  (try simp only [Act.put, List.setIfInBounds_toArray, List.set_cons_zero, List.set_cons_succ])
  have H := HS_.out
  clear HS_
  replace H := Option.bind_eq_some_iff.mp H
  obtain ⟨t617, A180, H⟩ := H
  (try dsimp only at H)
  have A18 := Aside0.mk A180
  clear A180
  have HS_ := Aside0.mk H
  clear H
  go_upto_region 10 with (first | ((with_reducible refine gate_callee (f := 10) rfl ?_); refine goesL_ (some 29) rfl rfl Try.func10 (by kernel_rfl) rfl #[.slice A1 l1.length c1] rfl mp_ ?_; (with_reducible refine (laws_toIntS.calls k _ _ l1 t617 _ ?side1 ?side2 A18.out).mono ?_); (case side1 => exact pc_ (Kd.C_below HR1.out HB.out)); (case side2 => exact HC1.out); rintro e w19 ⟨v618, rfl, ho0, hb⟩; refine ⟨_, rfl, ?_⟩; have n0_ := Aside0.mk (Kd.S_elder' (ps_ HO609.out) (Kd.R_base ho0) hb); have n1_ := Aside0.mk (Kd.R_elder' (pr_ HO612.out) (Kd.R_base ho0) hb); have n2_ := Aside0.mk (Kd.S_elder' (ps_ HO616.out) (Kd.R_base ho0) hb); have n3_ := Aside0.mk (Kd.R_lower (Kd.R_new' ho0 (Kd.R_lt (pr_ HO612.out))) (below_size (pb_ HB.out))); have n4_ := Aside0.mk (below_step (pb_ HB.out) hb); clear HO609; clear HO612; clear HO616; clear HB; have HO609 := n0_; have HO612 := n1_; have HO616 := n2_; have HO619 := n3_; have HB := n4_; clear n0_ n1_ n2_ n3_ n4_; (try clear hb); (try clear hb2); (try clear hk); (try clear hi); (try clear ho0)))
  (try simp only [Act.put, List.setIfInBounds_toArray, List.set_cons_zero, List.set_cons_succ])
  have H := HS_.out
  clear HS_
  replace H := Option.bind_eq_some_iff.mp H
  obtain ⟨t620, A200, H⟩ := H
  (try dsimp only at H)
  have A20 := Aside0.mk A200
  clear A200
  have HS_ := Aside0.mk H
  clear H
  obtain ⟨Ao21, co21, eo21⟩ := Kd.S_slice HO616.out
  subst eo21
  obtain ⟨Ao22, co22, eo22⟩ := Kd.R_slice HO619.out
  subst eo22
  go_upto_if 36 with (first | ((with_reducible refine gate_callee (f := 22) rfl ?_); refine goesL_ (some 33) rfl rfl Try.func22 (by kernel_rfl) rfl #[.slice Ao21 t614.length co21, .slice Ao22 t617.length co22, .int .i64 a2] rfl mp_ ?_; (with_reducible refine (impl_FindSeed.calls k _ _ t614 _ _ t617 a2 t620 _ ?side1 ?side2 ?side3 ?side4 A20.out).mono ?_); (case side1 => exact pc_ ((Kd.S_reads' HO616.out).2.2)); (case side2 => exact (Kd.S_reads' HO616.out).2.1); (case side3 => exact pc_ ((Kd.R_reads' HO619.out).2.2)); (case side4 => exact (Kd.R_reads' HO619.out).2.1); rintro e w23 ⟨rfl, hb⟩; refine ⟨_, rfl, ?_⟩; have n0_ := Aside0.mk (Kd.S_below (ps_ HO609.out) hb); have n1_ := Aside0.mk (Kd.R_below (pr_ HO612.out) hb); have n2_ := Aside0.mk (Kd.S_below (ps_ HO616.out) hb); have n3_ := Aside0.mk (Kd.R_below (pr_ HO619.out) hb); have n4_ := Aside0.mk (below_step (pb_ HB.out) hb); clear HO609; clear HO612; clear HO616; clear HO619; clear HB; have HO609 := n0_; have HO612 := n1_; have HO616 := n2_; have HO619 := n3_; have HB := n4_; clear n0_ n1_ n2_ n3_ n4_; (try clear hb); (try clear hb2); (try clear hk); (try clear hi)))
  (try simp only [Act.put, List.setIfInBounds_toArray, List.set_cons_zero, List.set_cons_succ])
  have H := HS_.out
  clear HS_
  by_cases c24 : t620 = t613
  rotate_left
  · rw [if_neg c24] at H
    have c24b0 : (t620 == t613) = false := beq_eq_false_iff_ne.mpr c24
    have c24b1 : (t620 != t613) = true := bne_iff_ne.mpr c24
    (first | rw [c24b0] | (simp only [i64_w, i32_w]; rw [c24b0]) | rw [c24b1] | (have c_ := c24b1; rw [bne] at c_; rw [c_]; clear c_) | skip)
    obtain rfl := Option.some.inj H
    go_wp2
    go_ret
    exact ⟨er_, pb_ HB.out⟩
  rw [if_pos c24] at H
  have c24b0 : (t620 == t613) = true := beq_iff_eq.mpr c24
  have c24b1 : (t620 != t613) = false := bne_eq_false_iff_eq.mpr c24
  clear c24
  (first | rw [c24b0] | (simp only [i64_w, i32_w]; rw [c24b0]) | rw [c24b1] | (have c_ := c24b1; rw [bne] at c_; rw [c_]; clear c_) | skip)
  replace H := Option.bind_eq_some_iff.mp H
  obtain ⟨t621, A250, H⟩ := H
  (try dsimp only at H)
  have A25 := Aside0.mk A250
  clear A250
  replace H := Option.bind_eq_some_iff.mp H
  obtain ⟨t624, A260, H⟩ := H
  (try dsimp only at H)
  have A26 := Aside0.mk A260
  clear A260
  have HS_ := Aside0.mk H
  clear H
  go_upto_if 41 with (first | ((with_reducible refine gate_callee (f := 9) rfl ?_); refine goesL_ (some 39) rfl rfl Try.func9 (by kernel_rfl) rfl #[.slice A0 l0.length c0] rfl mp_ ?_; (with_reducible refine (laws_toBoxS.calls k _ _ l0 t621 _ ?side1 ?side2 A25.out).mono ?_); (case side1 => exact pc_ (Kd.C_below HR0.out HB.out)); (case side2 => exact HC0.out); rintro e w27 ⟨v622, rfl, ho0, hb⟩; refine ⟨_, rfl, ?_⟩; have n0_ := Aside0.mk (Kd.S_elder' (ps_ HO609.out) (Kd.S_base ho0) hb); have n1_ := Aside0.mk (Kd.R_below (pr_ HO612.out) hb); have n2_ := Aside0.mk (Kd.S_elder' (ps_ HO616.out) (Kd.S_base ho0) hb); have n3_ := Aside0.mk (Kd.R_below (pr_ HO619.out) hb); have n4_ := Aside0.mk (Kd.S_lower (Kd.S_new' (Kd.S_new' (Kd.S_new' (Kd.S_new' ho0 (Kd.S_lt (ps_ HO609.out))) (Kd.R_lt (pr_ HO612.out))) (Kd.S_lt (ps_ HO616.out))) (Kd.R_lt (pr_ HO619.out))) (below_size (pb_ HB.out))); have n5_ := Aside0.mk (below_step (pb_ HB.out) hb); clear HO609; clear HO612; clear HO616; clear HO619; clear HB; have HO609 := n0_; have HO612 := n1_; have HO616 := n2_; have HO619 := n3_; have HO623 := n4_; have HB := n5_; clear n0_ n1_ n2_ n3_ n4_ n5_; (try clear hb); (try clear hb2); (try clear hk); (try clear hi); (try clear ho0); obtain ⟨Ao28, co28, eo28⟩ := Kd.S_slice HO623.out; subst eo28) | ((with_reducible refine gate_callee (f := 12) rfl ?_); refine goesL_ (some 40) rfl rfl Try.func12 (by kernel_rfl) rfl #[.slice Ao21 t614.length co21, .slice Ao28 t621.length co28] rfl mp_ ?_; (with_reducible refine (laws_eqBoxS.calls k _ _ t614 _ _ t621 t624 _ ?side1 ?side2 ?side3 ?side4 A26.out).mono ?_); (case side1 => exact pc_ ((Kd.S_reads' HO616.out).2.2)); (case side2 => exact (Kd.S_reads' HO616.out).2.1); (case side3 => exact pc_ ((Kd.S_reads' HO623.out).2.2)); (case side4 => exact (Kd.S_reads' HO623.out).2.1); rintro e w29 ⟨rfl, hb⟩; refine ⟨_, rfl, ?_⟩; have n0_ := Aside0.mk (Kd.S_below (ps_ HO609.out) hb); have n1_ := Aside0.mk (Kd.R_below (pr_ HO612.out) hb); have n2_ := Aside0.mk (Kd.S_below (ps_ HO616.out) hb); have n3_ := Aside0.mk (Kd.R_below (pr_ HO619.out) hb); have n4_ := Aside0.mk (Kd.S_below (ps_ HO623.out) hb); have n5_ := Aside0.mk (below_step (pb_ HB.out) hb); clear HO609; clear HO612; clear HO616; clear HO619; clear HO623; clear HB; have HO609 := n0_; have HO612 := n1_; have HO616 := n2_; have HO619 := n3_; have HO623 := n4_; have HB := n5_; clear n0_ n1_ n2_ n3_ n4_ n5_; (try clear hb); (try clear hb2); (try clear hk); (try clear hi)))
  (try simp only [Act.put, List.setIfInBounds_toArray, List.set_cons_zero, List.set_cons_succ])
  have H := HS_.out
  clear HS_
  by_cases c30 : t624 = true
  rotate_left
  · replace c30 := Bool.eq_false_iff.mpr c30
    subst c30
    rw [if_neg (show ¬ (false = true) by decide)] at H
    obtain rfl := Option.some.inj H
    go_wp2
    go_ret
    exact ⟨er_, pb_ HB.out⟩
  subst c30
  rw [if_pos rfl] at H
  replace H := Option.bind_eq_some_iff.mp H
  obtain ⟨t625, A310, H⟩ := H
  (try dsimp only at H)
  have A31 := Aside0.mk A310
  clear A310
  replace H := Option.bind_eq_some_iff.mp H
  obtain ⟨t628, A320, H⟩ := H
  replace H : (if t628 = true then (some true) else (some false)) = some r := H
  have A32 := Aside0.mk A320
  clear A320
  have HS_ := Aside0.mk H
  clear H
  go_upto_if 46 with (first | ((with_reducible refine gate_callee (f := 10) rfl ?_); refine goesL_ (some 44) rfl rfl Try.func10 (by kernel_rfl) rfl #[.slice A1 l1.length c1] rfl mp_ ?_; (with_reducible refine (laws_toIntS.calls k _ _ l1 t625 _ ?side1 ?side2 A31.out).mono ?_); (case side1 => exact pc_ (Kd.C_below HR1.out HB.out)); (case side2 => exact HC1.out); rintro e w33 ⟨v626, rfl, ho0, hb⟩; refine ⟨_, rfl, ?_⟩; have n0_ := Aside0.mk (Kd.S_elder' (ps_ HO609.out) (Kd.R_base ho0) hb); have n1_ := Aside0.mk (Kd.R_elder' (pr_ HO612.out) (Kd.R_base ho0) hb); have n2_ := Aside0.mk (Kd.S_elder' (ps_ HO616.out) (Kd.R_base ho0) hb); have n3_ := Aside0.mk (Kd.R_elder' (pr_ HO619.out) (Kd.R_base ho0) hb); have n4_ := Aside0.mk (Kd.S_elder' (ps_ HO623.out) (Kd.R_base ho0) hb); have n5_ := Aside0.mk (Kd.R_lower (Kd.R_new' (Kd.R_new' ho0 (Kd.R_lt (pr_ HO612.out))) (Kd.R_lt (pr_ HO619.out))) (below_size (pb_ HB.out))); have n6_ := Aside0.mk (below_step (pb_ HB.out) hb); clear HO609; clear HO612; clear HO616; clear HO619; clear HO623; clear HB; have HO609 := n0_; have HO612 := n1_; have HO616 := n2_; have HO619 := n3_; have HO623 := n4_; have HO627 := n5_; have HB := n6_; clear n0_ n1_ n2_ n3_ n4_ n5_ n6_; (try clear hb); (try clear hb2); (try clear hk); (try clear hi); (try clear ho0); obtain ⟨Ao34, co34, eo34⟩ := Kd.R_slice HO627.out; subst eo34) | ((with_reducible refine gate_callee (f := 13) rfl ?_); refine goesL_ (some 45) rfl rfl Try.func13 (by kernel_rfl) rfl #[.slice Ao22 t617.length co22, .slice Ao34 t625.length co34] rfl mp_ ?_; (with_reducible refine (laws_eqIntS.calls k _ _ t617 _ _ t625 t628 _ ?side1 ?side2 ?side3 ?side4 A32.out).mono ?_); (case side1 => exact pc_ ((Kd.R_reads' HO619.out).2.2)); (case side2 => exact (Kd.R_reads' HO619.out).2.1); (case side3 => exact pc_ ((Kd.R_reads' HO627.out).2.2)); (case side4 => exact (Kd.R_reads' HO627.out).2.1); rintro e w' ⟨rfl, ⟨nd, rfl⟩⟩; refine ⟨_, rfl, ?_⟩))
  (try simp only [Act.put, List.setIfInBounds_toArray, List.set_cons_zero, List.set_cons_succ])
  have H := HS_.out
  clear HS_
  by_cases c35 : t628 = true
  rotate_left
  · replace c35 := Bool.eq_false_iff.mpr c35
    subst c35
    rw [if_neg (show ¬ (false = true) by decide)] at H
    obtain rfl := Option.some.inj H
    go_wp2
    go_ret
    exact ⟨er_, pb_ HB.out⟩
  subst c35
  rw [if_pos rfl] at H
  obtain rfl := Option.some.inj H
  go_wp2
  go_ret
  exact ⟨er_, pb_ HB.out⟩

/-- THE ONE PURE STATEMENT of laws_FnExactFindSeed: yours. -/
def laws_FnExactFindSeed.Pure : Prop := ∀ (x0 : List (S46)) (x1 : List Int) (x2 : Int), (x0.length * 64 ≤ 140737488351232 ∧ ∀ y ∈ x0, Q46 y) → (x1.length * 8 ≤ 140737488351232 ∧ ∀ y ∈ x1, (Lit.int .i64 y).wf = true) → (Lit.int .i64 x2).wf = true → ∃ k, laws_FnExactFindSeed.f k x0 x1 x2 = some true

end Go.Proofs.Ytpoandlbmaljhaa.Print
