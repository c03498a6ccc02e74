-- Written by a program of this session (printx.py) out of the translation; Lean checks it.
import Derived.Test.YtdoefkloanpliaaPrint0
import Derived.Test.YtdoefkloanpliaaPrint1
import Derived.Test.YtdoefkloanpliaaPrint2
import Derived.Test.YtdoefkloanpliaaPrint3
import Derived.Test.YtdoefkloanpliaaPrint4
namespace Go.Proofs.Ytdoefkloanpliaa.Print
open Go.RowKit Go.Proofs.YtdoefkloanpliaaW.PrintWords Go.Proofs.YtdoefkloanpliaaW.PrintLast Go.Proofs.YtdoefkloanpliaaW.PrintMore Go.Proofs.Ytdoefkloanpliaa.Short
attribute [local go_sem] max2_int min2_int max_two min_two max_three min_three max_four min_four   -- for this text's walks alone
set_option linter.unusedVariables false
set_option linter.unusedSimpArgs false

/-! ### laws_FnExactAllReach: function 4 -/
def laws_FnExactAllReach.f (k : Nat) (l0 : List Int) (l1 : List (List Int)) : Option (Bool) := if (l0.length : Int) > 1048576 then (some true) else ((laws_szIntSS.f k l1 1048576).bind fun t197 => (if t197 < 0 then (some true) else ((laws_toIntS.f k l0).bind fun t198 => ((laws_toIntSS.f k l1).bind fun t201 => ((spec_AllReach.f k t198 t201).bind fun t204 => ((laws_toIntS.f k l0).bind fun t205 => ((laws_toIntSS.f k l1).bind fun t208 => ((impl_AllReach.f k t205 t208).bind fun t211 => (if (t211 != t204) = true then (some false) else ((laws_toIntS.f k l0).bind fun t212 => ((laws_eqIntS.f k t205 t212).bind fun t215 => (if t215 = true then ((laws_toIntSS.f k l1).bind fun t216 => ((laws_eqIntSS.f k t208 t216).bind fun t219 => (if t219 = true then (some true) else (some false)))) else (some false)))))))))))))
theorem laws_FnExactAllReach.mono : ∀ a0 a1 k, LeO (laws_FnExactAllReach.f k a0 a1) (laws_FnExactAllReach.f (k + 1) a0 a1) := by
  intro a0 a1 k
  unfold laws_FnExactAllReach.f
  repeat' first
      | (with_reducible exact impl_AllReach.mono _ _ _)
      | (with_reducible exact laws_eqIntS.mono _ _ _)
      | (with_reducible exact laws_eqIntSS.mono _ _ _)
      | (with_reducible exact laws_szIntSS.mono _ _ _)
      | (with_reducible exact laws_toIntS.mono _ _)
      | (with_reducible exact laws_toIntSS.mono _ _)
      | (with_reducible exact spec_AllReach.mono _ _ _)
      | (with_reducible exact LeO.refl _)
      | (with_reducible exact LeO.none _)
      | (with_reducible refine LeO.ite ?_ ?_)
      | (with_reducible refine LeO.bind ?_ (fun _ => ?_))
      | exact impl_AllReach.mono _ _ _
      | exact laws_eqIntS.mono _ _ _
      | exact laws_eqIntSS.mono _ _ _
      | exact laws_szIntSS.mono _ _ _
      | exact laws_toIntS.mono _ _
      | exact laws_toIntSS.mono _ _
      | exact spec_AllReach.mono _ _ _
      | exact LeO.none _
      | refine LeO.ite ?_ ?_
      | refine LeO.bind ?_ (fun _ => ?_)
set_option maxHeartbeats 8000000 in
set_option maxRecDepth 100000 in
theorem laws_FnExactAllReach.calls (k : Nat) (A0 : Option Addr) (c0 : Nat) (l0 : List Int) (A1 : Option Addr) (c1 : Nat) (l1 : List (List Int)) (r : Bool) (w : World) (hr0 : Kd.C (Kd.int .i64) w A0 l0.length l0) (hc0 : l0.length ≤ c0) (hr1 : Kd.C (Kd.slice 3 (Kd.int .i64)) w A1 l1.length l1) (hc1 : l1.length ≤ c1) (h : laws_FnExactAllReach.f k l0 l1 = some r) :
    Calls Try.prog 4 #[.slice A0 l0.length c0, .slice A1 l1.length c1] w fun e w' => e = .returned (.bool r) ∧ Below w.heap.size w w' := by
  have HR0 := Aside0.mk hr0
  have HC0 := Aside0.mk hc0
  clear hr0 hc0
  have HR1 := Aside0.mk hr1
  have HC1 := Aside0.mk hc1
  clear hr1 hc1
  have HB := Aside0.mk (Below.refl w.heap.size w)
  have H : (if (l0.length : Int) > 1048576 then (some true) else ((laws_szIntSS.f k l1 1048576).bind fun t197 => (if t197 < 0 then (some true) else ((laws_toIntS.f k l0).bind fun t198 => ((laws_toIntSS.f k l1).bind fun t201 => ((spec_AllReach.f k t198 t201).bind fun t204 => ((laws_toIntS.f k l0).bind fun t205 => ((laws_toIntSS.f k l1).bind fun t208 => ((impl_AllReach.f k t205 t208).bind fun t211 => (if (t211 != t204) = true then (some false) else ((laws_toIntS.f k l0).bind fun t212 => ((laws_eqIntS.f k t205 t212).bind fun t215 => (if t215 = true then ((laws_toIntSS.f k l1).bind fun t216 => ((laws_eqIntSS.f k t208 t216).bind fun t219 => (if t219 = true then (some true) else (some false)))) else (some false)))))))))))))) = some r := h
  clear h
  by_cases c3 : (l0.length : Int) > 1048576
  · rw [if_pos c3] at H
    have c3b0 : decide (1048576 < (l0.length : Int)) = true := decide_eq_true c3
    have c3b1 : decide (1048576 < l0.length) = true := decide_eq_true (by omega)
    clear c3
    obtain rfl := Option.some.inj H
    go_enter Try.func4, Try.ntmps4
    go_wp2
    go_ret
    exact ⟨er_, pb_ HB.out⟩
  rw [if_neg c3] at H
  have c3b0 : decide (1048576 < (l0.length : Int)) = false := decide_eq_false c3
  have c3b1 : decide (1048576 < l0.length) = false := decide_eq_false (by omega)
  clear c3
  replace H := Option.bind_eq_some_iff.mp H
  obtain ⟨t197, A40, H⟩ := H
  (try dsimp only at H)
  have A4 := Aside0.mk A40
  clear A40
  have HS_ := Aside0.mk H
  clear H
  go_enter Try.func4, Try.ntmps4
  go_upto_if 17 with (first | ((with_reducible refine gate_callee (f := 15) rfl ?_); refine goesL_ (some 15) rfl rfl Try.func15 (by kernel_rfl) rfl #[.slice A1 l1.length c1, .int .i64 1048576] rfl mp_ ?_; (with_reducible refine (laws_szIntSS.calls k _ _ l1 1048576 t197 _ ?side1 ?side2 A4.out).mono ?_); (case side1 => exact pc_ HR1.out); (case side2 => exact HC1.out); rintro e w' ⟨rfl, ⟨nd, rfl⟩⟩; refine ⟨_, rfl, ?_⟩))
  (try simp only [Act.put, List.setIfInBounds_toArray, List.set_cons_zero, List.set_cons_succ])
  have H := HS_.out
  clear HS_
  by_cases c5 : t197 < 0
  · rw [if_pos c5] at H
    have c5b0 : decide (t197 < 0) = true := decide_eq_true c5
    clear c5
    (first | rw [c5b0] | (simp only [i64_w, i32_w]; rw [c5b0]) | skip)
    obtain rfl := Option.some.inj H
    go_wp2
    go_ret
    exact ⟨er_, pb_ HB.out⟩
  rw [if_neg c5] at H
  have c5b0 : decide (t197 < 0) = false := decide_eq_false c5
  clear c5
  (first | rw [c5b0] | (simp only [i64_w, i32_w]; rw [c5b0]) | skip)
  replace H := Option.bind_eq_some_iff.mp H
  obtain ⟨t198, A60, H⟩ := H
  (try dsimp only at H)
  have A6 := Aside0.mk A60
  clear A60
  replace H := Option.bind_eq_some_iff.mp H
  obtain ⟨t201, A70, H⟩ := H
  (try dsimp only at H)
  have A7 := Aside0.mk A70
  clear A70
  replace H := Option.bind_eq_some_iff.mp H
  obtain ⟨t204, A80, H⟩ := H
  (try dsimp only at H)
  have A8 := Aside0.mk A80
  clear A80
  have HS_ := Aside0.mk H
  clear H
  go_upto_region 8 with (first | ((with_reducible refine gate_callee (f := 17) rfl ?_); refine goesL_ (some 19) rfl rfl Try.func17 (by kernel_rfl) rfl #[.slice A0 l0.length c0] rfl mp_ ?_; (with_reducible refine (laws_toIntS.calls k _ _ l0 t198 _ ?side1 ?side2 A6.out).mono ?_); (case side1 => exact pc_ (Kd.C_below HR0.out HB.out)); (case side2 => exact HC0.out); rintro e w9 ⟨v199, rfl, ho0, hb⟩; refine ⟨_, rfl, ?_⟩; have n0_ := Aside0.mk (Kd.R_lower ho0 (below_size (pb_ HB.out))); have n1_ := Aside0.mk (below_step (pb_ HB.out) hb); clear HB; have HO200 := n0_; have HB := n1_; clear n0_ n1_; (try clear hb); (try clear hb2); (try clear hk); (try clear hi); (try clear ho0)) | ((with_reducible refine gate_callee (f := 18) rfl ?_); refine goesL_ (some 21) rfl rfl Try.func18 (by kernel_rfl) rfl #[.slice A1 l1.length c1] rfl mp_ ?_; (with_reducible refine (laws_toIntSS.calls k _ _ l1 t201 _ ?side1 ?side2 A7.out).mono ?_); (case side1 => exact pc_ (Kd.C_below HR1.out HB.out)); (case side2 => exact HC1.out); rintro e w10 ⟨v202, rfl, ho0, hb⟩; refine ⟨_, rfl, ?_⟩; have n0_ := Aside0.mk (Kd.R_below (pr_ HO200.out) hb); have n1_ := Aside0.mk (Kd.S_lower (Kd.S_new' ho0 (Kd.R_lt (pr_ HO200.out))) (below_size (pb_ HB.out))); have n2_ := Aside0.mk (below_step (pb_ HB.out) hb); clear HO200; clear HB; have HO200 := n0_; have HO203 := n1_; have HB := n2_; clear n0_ n1_ n2_; (try clear hb); (try clear hb2); (try clear hk); (try clear hi); (try clear ho0); obtain ⟨Ao11, co11, eo11⟩ := Kd.R_slice HO200.out; subst eo11; obtain ⟨Ao12, co12, eo12⟩ := Kd.S_slice HO203.out; subst eo12) | ((with_reducible refine gate_callee (f := 22) rfl ?_); refine goesL_ (some 22) rfl rfl Try.func22 (by kernel_rfl) rfl #[.slice Ao11 t198.length co11, .slice Ao12 t201.length co12] rfl mp_ ?_; (with_reducible refine (spec_AllReach.calls k _ _ t198 _ _ t201 t204 _ ?side1 ?side2 ?side3 ?side4 A8.out).mono ?_); (case side1 => exact pc_ ((Kd.R_reads' HO200.out).2.2)); (case side2 => exact (Kd.R_reads' HO200.out).2.1); (case side3 => exact pc_ ((Kd.S_reads' HO203.out).2.2)); (case side4 => exact (Kd.S_reads' HO203.out).2.1); rintro e w13 ⟨rfl, hb⟩; refine ⟨_, rfl, ?_⟩; have n0_ := Aside0.mk (Kd.R_below (pr_ HO200.out) hb); have n1_ := Aside0.mk (Kd.S_below (ps_ HO203.out) hb); have n2_ := Aside0.mk (below_step (pb_ HB.out) hb); clear HO200; clear HO203; clear HB; have HO200 := n0_; have HO203 := n1_; have HB := n2_; clear n0_ n1_ n2_; (try clear hb); (try clear hb2); (try clear hk); (try clear hi)))
  (try simp only [Act.put, List.setIfInBounds_toArray, List.set_cons_zero, List.set_cons_succ])
  have H := HS_.out
  clear HS_
  replace H := Option.bind_eq_some_iff.mp H
  obtain ⟨t205, A140, H⟩ := H
  (try dsimp only at H)
  have A14 := Aside0.mk A140
  clear A140
  have HS_ := Aside0.mk H
  clear H
  go_upto_region 9 with (first | ((with_reducible refine gate_callee (f := 17) rfl ?_); refine goesL_ (some 24) rfl rfl Try.func17 (by kernel_rfl) rfl #[.slice A0 l0.length c0] rfl mp_ ?_; (with_reducible refine (laws_toIntS.calls k _ _ l0 t205 _ ?side1 ?side2 A14.out).mono ?_); (case side1 => exact pc_ (Kd.C_below HR0.out HB.out)); (case side2 => exact HC0.out); rintro e w15 ⟨v206, rfl, ho0, hb⟩; refine ⟨_, rfl, ?_⟩; have n0_ := Aside0.mk (Kd.R_elder' (pr_ HO200.out) (Kd.R_base ho0) hb); have n1_ := Aside0.mk (Kd.S_elder' (ps_ HO203.out) (Kd.R_base ho0) hb); have n2_ := Aside0.mk (Kd.R_lower (Kd.R_new' ho0 (Kd.R_lt (pr_ HO200.out))) (below_size (pb_ HB.out))); have n3_ := Aside0.mk (below_step (pb_ HB.out) hb); clear HO200; clear HO203; clear HB; have HO200 := n0_; have HO203 := n1_; have HO207 := n2_; have HB := n3_; clear n0_ n1_ n2_ n3_; (try clear hb); (try clear hb2); (try clear hk); (try clear hi); (try clear ho0)))
  (try simp only [Act.put, List.setIfInBounds_toArray, List.set_cons_zero, List.set_cons_succ])
  have H := HS_.out
  clear HS_
  replace H := Option.bind_eq_some_iff.mp H
  obtain ⟨t208, A160, H⟩ := H
  (try dsimp only at H)
  have A16 := Aside0.mk A160
  clear A160
  have HS_ := Aside0.mk H
  clear H
  go_upto_region 10 with (first | ((with_reducible refine gate_callee (f := 18) rfl ?_); refine goesL_ (some 26) rfl rfl Try.func18 (by kernel_rfl) rfl #[.slice A1 l1.length c1] rfl mp_ ?_; (with_reducible refine (laws_toIntSS.calls k _ _ l1 t208 _ ?side1 ?side2 A16.out).mono ?_); (case side1 => exact pc_ (Kd.C_below HR1.out HB.out)); (case side2 => exact HC1.out); rintro e w17 ⟨v209, rfl, ho0, hb⟩; refine ⟨_, rfl, ?_⟩; have n0_ := Aside0.mk (Kd.R_below (pr_ HO200.out) hb); have n1_ := Aside0.mk (Kd.S_elder' (ps_ HO203.out) (Kd.S_base ho0) hb); have n2_ := Aside0.mk (Kd.R_below (pr_ HO207.out) hb); have n3_ := Aside0.mk (Kd.S_lower (Kd.S_new' (Kd.S_new' (Kd.S_new' ho0 (Kd.R_lt (pr_ HO200.out))) (Kd.S_lt (ps_ HO203.out))) (Kd.R_lt (pr_ HO207.out))) (below_size (pb_ HB.out))); have n4_ := Aside0.mk (below_step (pb_ HB.out) hb); clear HO200; clear HO203; clear HO207; clear HB; have HO200 := n0_; have HO203 := n1_; have HO207 := n2_; have HO210 := n3_; have HB := n4_; clear n0_ n1_ n2_ n3_ n4_; (try clear hb); (try clear hb2); (try clear hk); (try clear hi); (try clear ho0)))
  (try simp only [Act.put, List.setIfInBounds_toArray, List.set_cons_zero, List.set_cons_succ])
  have H := HS_.out
  clear HS_
  replace H := Option.bind_eq_some_iff.mp H
  obtain ⟨t211, A180, H⟩ := H
  (try dsimp only at H)
  have A18 := Aside0.mk A180
  clear A180
  have HS_ := Aside0.mk H
  clear H
  obtain ⟨Ao19, co19, eo19⟩ := Kd.R_slice HO207.out
  subst eo19
  obtain ⟨Ao20, co20, eo20⟩ := Kd.S_slice HO210.out
  subst eo20
  go_upto_if 32 with (first | ((with_reducible refine gate_callee (f := 23) rfl ?_); refine goesL_ (some 29) rfl rfl Try.func23 (by kernel_rfl) rfl #[.slice Ao19 t205.length co19, .slice Ao20 t208.length co20] rfl mp_ ?_; (with_reducible refine (impl_AllReach.calls k _ _ t205 _ _ t208 t211 _ ?side1 ?side2 ?side3 ?side4 A18.out).mono ?_); (case side1 => exact pc_ ((Kd.R_reads' HO207.out).2.2)); (case side2 => exact (Kd.R_reads' HO207.out).2.1); (case side3 => exact pc_ ((Kd.S_reads' HO210.out).2.2)); (case side4 => exact (Kd.S_reads' HO210.out).2.1); rintro e w21 ⟨rfl, hb⟩; refine ⟨_, rfl, ?_⟩; have n0_ := Aside0.mk (Kd.R_below (pr_ HO200.out) hb); have n1_ := Aside0.mk (Kd.S_below (ps_ HO203.out) hb); have n2_ := Aside0.mk (Kd.R_below (pr_ HO207.out) hb); have n3_ := Aside0.mk (Kd.S_below (ps_ HO210.out) hb); have n4_ := Aside0.mk (below_step (pb_ HB.out) hb); clear HO200; clear HO203; clear HO207; clear HO210; clear HB; have HO200 := n0_; have HO203 := n1_; have HO207 := n2_; have HO210 := n3_; have HB := n4_; clear n0_ n1_ n2_ n3_ n4_; (try clear hb); (try clear hb2); (try clear hk); (try clear hi)))
  (try simp only [Act.put, List.setIfInBounds_toArray, List.set_cons_zero, List.set_cons_succ])
  have H := HS_.out
  clear HS_
  by_cases c22 : (t211 != t204) = true
  · rw [if_pos c22] at H
    have c22b0 : (t211 != t204) = true := c22
    (try (have c22b1 : decide (t211 = t204) = false := by simpa using c22))
    (try (have c22b2 : (t211 == t204) = false := by simpa using c22))
    (try (have c22b3 : ¬ (t211 = t204) := by simpa using c22))
    clear c22
    (first | rw [c22b0] | (simp only [i64_w, i32_w]; rw [c22b0]) | (have c_ := c22b0; rw [bne] at c_; rw [c_]; clear c_) | rw [c22b1] | rw [c22b2] | skip)
    obtain rfl := Option.some.inj H
    go_wp2
    go_ret
    exact ⟨er_, pb_ HB.out⟩
  rw [if_neg c22] at H
  have c22b0 : (t211 != t204) = false := by simpa using c22
  (try (have c22b1 : decide (t211 = t204) = true := by simpa using c22))
  (try (have c22b2 : (t211 == t204) = true := by simpa using c22))
  clear c22
  (first | rw [c22b0] | (simp only [i64_w, i32_w]; rw [c22b0]) | (have c_ := c22b0; rw [bne] at c_; rw [c_]; clear c_) | rw [c22b1] | rw [c22b2] | skip)
  replace H := Option.bind_eq_some_iff.mp H
  obtain ⟨t212, A230, H⟩ := H
  (try dsimp only at H)
  have A23 := Aside0.mk A230
  clear A230
  replace H := Option.bind_eq_some_iff.mp H
  obtain ⟨t215, A240, H⟩ := H
  (try dsimp only at H)
  have A24 := Aside0.mk A240
  clear A240
  have HS_ := Aside0.mk H
  clear H
  go_upto_if 37 with (first | ((with_reducible refine gate_callee (f := 17) rfl ?_); refine goesL_ (some 35) rfl rfl Try.func17 (by kernel_rfl) rfl #[.slice A0 l0.length c0] rfl mp_ ?_; (with_reducible refine (laws_toIntS.calls k _ _ l0 t212 _ ?side1 ?side2 A23.out).mono ?_); (case side1 => exact pc_ (Kd.C_below HR0.out HB.out)); (case side2 => exact HC0.out); rintro e w25 ⟨v213, rfl, ho0, hb⟩; refine ⟨_, rfl, ?_⟩; have n0_ := Aside0.mk (Kd.R_elder' (pr_ HO200.out) (Kd.R_base ho0) hb); have n1_ := Aside0.mk (Kd.S_elder' (ps_ HO203.out) (Kd.R_base ho0) hb); have n2_ := Aside0.mk (Kd.R_elder' (pr_ HO207.out) (Kd.R_base ho0) hb); have n3_ := Aside0.mk (Kd.S_elder' (ps_ HO210.out) (Kd.R_base ho0) hb); have n4_ := Aside0.mk (Kd.R_lower (Kd.R_new' (Kd.R_new' ho0 (Kd.R_lt (pr_ HO200.out))) (Kd.R_lt (pr_ HO207.out))) (below_size (pb_ HB.out))); have n5_ := Aside0.mk (below_step (pb_ HB.out) hb); clear HO200; clear HO203; clear HO207; clear HO210; clear HB; have HO200 := n0_; have HO203 := n1_; have HO207 := n2_; have HO210 := n3_; have HO214 := n4_; have HB := n5_; clear n0_ n1_ n2_ n3_ n4_ n5_; (try clear hb); (try clear hb2); (try clear hk); (try clear hi); (try clear ho0); obtain ⟨Ao26, co26, eo26⟩ := Kd.R_slice HO214.out; subst eo26) | ((with_reducible refine gate_callee (f := 20) rfl ?_); refine goesL_ (some 36) rfl rfl Try.func20 (by kernel_rfl) rfl #[.slice Ao19 t205.length co19, .slice Ao26 t212.length co26] rfl mp_ ?_; (with_reducible refine (laws_eqIntS.calls k _ _ t205 _ _ t212 t215 _ ?side1 ?side2 ?side3 ?side4 A24.out).mono ?_); (case side1 => exact pc_ ((Kd.R_reads' HO207.out).2.2)); (case side2 => exact (Kd.R_reads' HO207.out).2.1); (case side3 => exact pc_ ((Kd.R_reads' HO214.out).2.2)); (case side4 => exact (Kd.R_reads' HO214.out).2.1); rintro e w' ⟨rfl, ⟨nd, rfl⟩⟩; refine ⟨_, rfl, ?_⟩))
  (try simp only [Act.put, List.setIfInBounds_toArray, List.set_cons_zero, List.set_cons_succ])
  have H := HS_.out
  clear HS_
  by_cases c27 : t215 = true
  rotate_left
  · replace c27 := Bool.eq_false_iff.mpr c27
    subst c27
    rw [if_neg (show ¬ (false = true) by decide)] at H
    obtain rfl := Option.some.inj H
    go_wp2
    go_ret
    exact ⟨er_, pb_ HB.out⟩
  subst c27
  rw [if_pos rfl] at H
  replace H := Option.bind_eq_some_iff.mp H
  obtain ⟨t216, A280, H⟩ := H
  (try dsimp only at H)
  have A28 := Aside0.mk A280
  clear A280
  replace H := Option.bind_eq_some_iff.mp H
  obtain ⟨t219, A290, H⟩ := H
  replace H : (if t219 = true then (some true) else (some false)) = some r := H
  have A29 := Aside0.mk A290
  clear A290
  have HS_ := Aside0.mk H
  clear H
  go_upto_if 42 with (first | ((with_reducible refine gate_callee (f := 18) rfl ?_); refine goesL_ (some 40) rfl rfl Try.func18 (by kernel_rfl) rfl #[.slice A1 l1.length c1] rfl mp_ ?_; (with_reducible refine (laws_toIntSS.calls k _ _ l1 t216 _ ?side1 ?side2 A28.out).mono ?_); (case side1 => exact pc_ (Kd.C_below HR1.out HB.out)); (case side2 => exact HC1.out); rintro e w30 ⟨v217, rfl, ho0, hb⟩; refine ⟨_, rfl, ?_⟩; have n0_ := Aside0.mk (Kd.R_below (pr_ HO200.out) hb); have n1_ := Aside0.mk (Kd.S_elder' (ps_ HO203.out) (Kd.S_base ho0) hb); have n2_ := Aside0.mk (Kd.R_below (pr_ HO207.out) hb); have n3_ := Aside0.mk (Kd.S_elder' (ps_ HO210.out) (Kd.S_base ho0) hb); have n4_ := Aside0.mk (Kd.R_below (pr_ HO214.out) hb); have n5_ := Aside0.mk (Kd.S_lower (Kd.S_new' (Kd.S_new' (Kd.S_new' (Kd.S_new' (Kd.S_new' ho0 (Kd.R_lt (pr_ HO200.out))) (Kd.S_lt (ps_ HO203.out))) (Kd.R_lt (pr_ HO207.out))) (Kd.S_lt (ps_ HO210.out))) (Kd.R_lt (pr_ HO214.out))) (below_size (pb_ HB.out))); have n6_ := Aside0.mk (below_step (pb_ HB.out) hb); clear HO200; clear HO203; clear HO207; clear HO210; clear HO214; clear HB; have HO200 := n0_; have HO203 := n1_; have HO207 := n2_; have HO210 := n3_; have HO214 := n4_; have HO218 := n5_; have HB := n6_; clear n0_ n1_ n2_ n3_ n4_ n5_ n6_; (try clear hb); (try clear hb2); (try clear hk); (try clear hi); (try clear ho0); obtain ⟨Ao31, co31, eo31⟩ := Kd.S_slice HO218.out; subst eo31) | ((with_reducible refine gate_callee (f := 21) rfl ?_); refine goesL_ (some 41) rfl rfl Try.func21 (by kernel_rfl) rfl #[.slice Ao20 t208.length co20, .slice Ao31 t216.length co31] rfl mp_ ?_; (with_reducible refine (laws_eqIntSS.calls k _ _ t208 _ _ t216 t219 _ ?side1 ?side2 ?side3 ?side4 A29.out).mono ?_); (case side1 => exact pc_ ((Kd.S_reads' HO210.out).2.2)); (case side2 => exact (Kd.S_reads' HO210.out).2.1); (case side3 => exact pc_ ((Kd.S_reads' HO218.out).2.2)); (case side4 => exact (Kd.S_reads' HO218.out).2.1); rintro e w' ⟨rfl, ⟨nd, rfl⟩⟩; refine ⟨_, rfl, ?_⟩))
  (try simp only [Act.put, List.setIfInBounds_toArray, List.set_cons_zero, List.set_cons_succ])
  have H := HS_.out
  clear HS_
  by_cases c32 : t219 = true
  rotate_left
  · replace c32 := Bool.eq_false_iff.mpr c32
    subst c32
    rw [if_neg (show ¬ (false = true) by decide)] at H
    obtain rfl := Option.some.inj H
    go_wp2
    go_ret
    exact ⟨er_, pb_ HB.out⟩
  subst c32
  rw [if_pos rfl] at H
  obtain rfl := Option.some.inj H
  go_wp2
  go_ret
  exact ⟨er_, pb_ HB.out⟩

/-- THE ONE PURE STATEMENT of laws_FnExactAllReach: yours. -/
def laws_FnExactAllReach.Pure : Prop := ∀ (x0 : List Int) (x1 : List (List Int)), (x0.length * 8 ≤ 140737488351232 ∧ ∀ y ∈ x0, (Lit.int .i64 y).wf = true) → (x1.length * 24 ≤ 140737488351232 ∧ ∀ y ∈ x1, (y.length * 8 ≤ 140737488351232 ∧ ∀ yy ∈ y, (Lit.int .i64 yy).wf = true)) → ∃ k, laws_FnExactAllReach.f k x0 x1 = some true

end Go.Proofs.Ytdoefkloanpliaa.Print
