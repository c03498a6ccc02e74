-- Written by a program of this session (printx.py) out of the translation; Lean checks it.
import Derived.Test.YtldcchjbaglppaaPrint0
import Derived.Test.YtldcchjbaglppaaPrint1
import Derived.Test.YtldcchjbaglppaaPrint7
import Derived.Test.YtldcchjbaglppaaPrint15
import Derived.Test.YtldcchjbaglppaaPrint16
import Derived.Test.YtldcchjbaglppaaPrint17
namespace Go.Proofs.Ytldcchjbaglppaa.Print
open Go.RowKit Go.Proofs.YtldcchjbaglppaaW.PrintWords Go.Proofs.YtldcchjbaglppaaW.PrintLast Go.Proofs.YtldcchjbaglppaaW.PrintMore Go.Proofs.Ytldcchjbaglppaa.Short
attribute [local go_sem] max2_int min2_int max_two min_two max_three min_three max_four min_four   -- for this text's walks alone
set_option linter.unusedVariables false
set_option linter.unusedSimpArgs false

/-! ### laws_FnExactNextOnly: function 8 -/
def laws_FnExactNextOnly.f (k : Nat) (l0 : List (S26)) (l1 : List (S26)) : Option (Bool) := (laws_szMachineS.f k l0 1048576).bind fun t550 => (if t550 < 0 then (some true) else ((laws_szMachineS.f k l1 t550).bind fun t551 => (if t551 < 0 then (some true) else ((laws_toMachineS.f k l0).bind fun t552 => ((laws_toMachineS.f k l1).bind fun t555 => ((spec_NextOnly.f k t552 t555).bind fun t558 => ((laws_toMachineS.f k l0).bind fun t559 => ((laws_toMachineS.f k l1).bind fun t562 => ((impl_NextOnly.f k t559 t562).bind fun t565 => (if (t565 != t558) = true then (some false) else ((laws_toMachineS.f k l0).bind fun t566 => ((laws_eqMachineS.f k t559 t566).bind fun t569 => (if t569 = true then ((laws_toMachineS.f k l1).bind fun t570 => ((laws_eqMachineS.f k t562 t570).bind fun t573 => (if t573 = true then (some true) else (some false)))) else (some false))))))))))))))
theorem laws_FnExactNextOnly.mono : ∀ a0 a1 k, LeO (laws_FnExactNextOnly.f k a0 a1) (laws_FnExactNextOnly.f (k + 1) a0 a1) := by
  intro a0 a1 k
  unfold laws_FnExactNextOnly.f
  exact mo5_ impl_NextOnly.mono laws_eqMachineS.mono laws_szMachineS.mono laws_toMachineS.mono spec_NextOnly.mono
set_option maxHeartbeats 8000000 in
set_option maxRecDepth 100000 in
theorem laws_FnExactNextOnly.calls (k : Nat) (A0 : Option Addr) (c0 : Nat) (l0 : List (S26)) (A1 : Option Addr) (c1 : Nat) (l1 : List (S26)) (r : Bool) (w : World) (hr0 : Kd.C k26 w A0 l0.length l0) (hc0 : l0.length ≤ c0) (hr1 : Kd.C k26 w A1 l1.length l1) (hc1 : l1.length ≤ c1) (h : laws_FnExactNextOnly.f k l0 l1 = some r) :
    Calls Try.prog 8 #[.slice A0 l0.length c0, .slice A1 l1.length c1] w fun e w' => e = .returned (.bool r) ∧ Below w.heap.size w w' := by
  have HR0 := Q_ hr0
  have HC0 := Q_ hc0
  clear hr0 hc0
  have HR1 := Q_ hr1
  have HC1 := Q_ hc1
  clear hr1 hc1
  have HB := Q_ (Below.refl w.heap.size w)
  have H : ((laws_szMachineS.f k l0 1048576).bind fun t550 => (if t550 < 0 then (some true) else ((laws_szMachineS.f k l1 t550).bind fun t551 => (if t551 < 0 then (some true) else ((laws_toMachineS.f k l0).bind fun t552 => ((laws_toMachineS.f k l1).bind fun t555 => ((spec_NextOnly.f k t552 t555).bind fun t558 => ((laws_toMachineS.f k l0).bind fun t559 => ((laws_toMachineS.f k l1).bind fun t562 => ((impl_NextOnly.f k t559 t562).bind fun t565 => (if (t565 != t558) = true then (some false) else ((laws_toMachineS.f k l0).bind fun t566 => ((laws_eqMachineS.f k t559 t566).bind fun t569 => (if t569 = true then ((laws_toMachineS.f k l1).bind fun t570 => ((laws_eqMachineS.f k t562 t570).bind fun t573 => (if t573 = true then (some true) else (some false)))) else (some false))))))))))))))) = some r := h
  clear h
  replace H := Option.bind_eq_some_iff.mp H
  obtain ⟨t550, A30, H⟩ := H
  (try dsimp only at H)
  have A3 := Q_ A30
  clear A30
  have HS_ := Q_ H
  clear H
  go_enter Try.func8, Try.ntmps8
  go_upto_if 14 with (first | ((with_reducible refine gate_callee (f := 9) rfl ?_); refine gl_ (some 12) Try.func9 #[.slice A0 l0.length c0, .int .i64 1048576] ?_; (with_reducible refine (laws_szMachineS.calls k _ _ l0 1048576 t550 _ ?side1 ?side2 A3.out).mono ?_); (case side1 => exact pc_ HR0.out); (case side2 => exact HC0.out); rintro e w4 ⟨rfl, hb⟩; refine ⟨_, rfl, ?_⟩; have _ := Q_ (below_step (pb_ HB.out) hb); clear HB; rename_i HB; (try clear hb); (try clear hb2); (try clear hk); (try clear hi)))
  (try simp only [Act.put, List.setIfInBounds_toArray, List.set_cons_zero, List.set_cons_succ])
  have H := HS_.out
  clear HS_
  by_cases c5 : t550 < 0
  · rw [if_pos c5] at H
    have c5b0 : decide (t550 < 0) = true := decide_eq_true c5
    clear c5
    (first | rw [c5b0] | (simp only [i64_w, i32_w]; rw [c5b0]) | skip)
    obtain rfl := Option.some.inj H
    go_wp2
    go_ret
    exact ⟨er_, pb_ HB.out⟩
  rw [if_neg c5] at H
  have c5b0 : decide (t550 < 0) = false := decide_eq_false c5
  clear c5
  (first | rw [c5b0] | (simp only [i64_w, i32_w]; rw [c5b0]) | skip)
  replace H := Option.bind_eq_some_iff.mp H
  obtain ⟨t551, A60, H⟩ := H
  (try dsimp only at H)
  have A6 := Q_ A60
  clear A60
  have HS_ := Q_ H
  clear H
  go_upto_if 19 with (first | ((with_reducible refine gate_callee (f := 9) rfl ?_); refine gl_ (some 17) Try.func9 #[.slice A1 l1.length c1, .int .i64 t550] ?_; (with_reducible refine (laws_szMachineS.calls k _ _ l1 t550 t551 _ ?side1 ?side2 A6.out).mono ?_); (case side1 => exact cb_ HR1 HB); (case side2 => exact HC1.out); rintro e w7 ⟨rfl, hb⟩; refine ⟨_, rfl, ?_⟩; have _ := Q_ (below_step (pb_ HB.out) hb); clear HB; rename_i HB; (try clear hb); (try clear hb2); (try clear hk); (try clear hi)))
  (try simp only [Act.put, List.setIfInBounds_toArray, List.set_cons_zero, List.set_cons_succ])
  have H := HS_.out
  clear HS_
  by_cases c8 : t551 < 0
  · rw [if_pos c8] at H
    have c8b0 : decide (t551 < 0) = true := decide_eq_true c8
    clear c8
    (first | rw [c8b0] | (simp only [i64_w, i32_w]; rw [c8b0]) | skip)
    obtain rfl := Option.some.inj H
    go_wp2
    go_ret
    exact ⟨er_, pb_ HB.out⟩
  rw [if_neg c8] at H
  have c8b0 : decide (t551 < 0) = false := decide_eq_false c8
  clear c8
  (first | rw [c8b0] | (simp only [i64_w, i32_w]; rw [c8b0]) | skip)
  replace H := Option.bind_eq_some_iff.mp H
  obtain ⟨t552, A90, H⟩ := H
  (try dsimp only at H)
  have A9 := Q_ A90
  clear A90
  replace H := Option.bind_eq_some_iff.mp H
  obtain ⟨t555, A100, H⟩ := H
  (try dsimp only at H)
  have A10 := Q_ A100
  clear A100
  replace H := Option.bind_eq_some_iff.mp H
  obtain ⟨t558, A110, H⟩ := H
  (try dsimp only at H)
  have A11 := Q_ A110
  clear A110
  have HS_ := Q_ H
  clear H
  go_upto_region 9 with (first | ((with_reducible refine gate_callee (f := 12) rfl ?_); refine gl_ (some 21) Try.func12 #[.slice A0 l0.length c0] ?_; (with_reducible refine (laws_toMachineS.calls k _ _ l0 t552 _ ?side1 ?side2 A9.out).mono ?_); (case side1 => exact cb_ HR0 HB); (case side2 => exact HC0.out); rintro e w12 ⟨v553, rfl, ho0, hb⟩; refine ⟨_, rfl, ?_⟩; have _ := Q_ (Kd.S_lower ho0 (below_size (pb_ HB.out))); have _ := Q_ (below_step (pb_ HB.out) hb); clear HB; rename_i HO554 HB; (try clear hb); (try clear hb2); (try clear hk); (try clear hi); (try clear ho0)) | ((with_reducible refine gate_callee (f := 12) rfl ?_); refine gl_ (some 23) Try.func12 #[.slice A1 l1.length c1] ?_; (with_reducible refine (laws_toMachineS.calls k _ _ l1 t555 _ ?side1 ?side2 A10.out).mono ?_); (case side1 => exact cb_ HR1 HB); (case side2 => exact HC1.out); rintro e w13 ⟨v556, rfl, ho0, hb⟩; refine ⟨_, rfl, ?_⟩; have _ := Q_ (Kd.S_elder' (ps_ HO554.out) (Kd.S_base ho0) hb); have _ := Q_ (Kd.S_lower (Kd.S_new' ho0 (Kd.S_lt (ps_ HO554.out))) (below_size (pb_ HB.out))); have _ := Q_ (below_step (pb_ HB.out) hb); clear HO554 HB; rename_i HO554 HO557 HB; (try clear hb); (try clear hb2); (try clear hk); (try clear hi); (try clear ho0); obtain ⟨Ao14, co14, eo14⟩ := Kd.S_slice HO554.out; subst eo14; obtain ⟨Ao15, co15, eo15⟩ := Kd.S_slice HO557.out; subst eo15) | ((with_reducible refine gate_callee (f := 34) rfl ?_); refine gl_ (some 24) Try.func34 #[.slice Ao14 t552.length co14, .slice Ao15 t555.length co15] ?_; (with_reducible refine (spec_NextOnly.calls k _ _ t552 _ _ t555 t558 _ ?side1 ?side2 ?side3 ?side4 A11.out).mono ?_); (case side1 => exact pc_ ((Kd.S_reads' HO554.out).2.2)); (case side2 => exact (Kd.S_reads' HO554.out).2.1); (case side3 => exact pc_ ((Kd.S_reads' HO557.out).2.2)); (case side4 => exact (Kd.S_reads' HO557.out).2.1); rintro e w16 ⟨rfl, hb⟩; refine ⟨_, rfl, ?_⟩; have _ := Q_ (Kd.S_below (ps_ HO554.out) hb); have _ := Q_ (Kd.S_below (ps_ HO557.out) hb); have _ := Q_ (below_step (pb_ HB.out) hb); clear HO554 HO557 HB; rename_i HO554 HO557 HB; (try clear hb); (try clear hb2); (try clear hk); (try clear hi)))
  (try simp only [Act.put, List.setIfInBounds_toArray, List.set_cons_zero, List.set_cons_succ])
  have H := HS_.out
  clear HS_
  replace H := Option.bind_eq_some_iff.mp H
  obtain ⟨t559, A170, H⟩ := H
  (try dsimp only at H)
  have A17 := Q_ A170
  clear A170
  have HS_ := Q_ H
  clear H
  go_upto_region 10 with (first | ((with_reducible refine gate_callee (f := 12) rfl ?_); refine gl_ (some 26) Try.func12 #[.slice A0 l0.length c0] ?_; (with_reducible refine (laws_toMachineS.calls k _ _ l0 t559 _ ?side1 ?side2 A17.out).mono ?_); (case side1 => exact cb_ HR0 HB); (case side2 => exact HC0.out); rintro e w18 ⟨v560, rfl, ho0, hb⟩; refine ⟨_, rfl, ?_⟩; have _ := Q_ (Kd.S_elder' (ps_ HO554.out) (Kd.S_base ho0) hb); have _ := Q_ (Kd.S_elder' (ps_ HO557.out) (Kd.S_base ho0) hb); have _ := Q_ (Kd.S_lower (Kd.S_new' (Kd.S_new' ho0 (Kd.S_lt (ps_ HO554.out))) (Kd.S_lt (ps_ HO557.out))) (below_size (pb_ HB.out))); have _ := Q_ (below_step (pb_ HB.out) hb); clear HO554 HO557 HB; rename_i HO554 HO557 HO561 HB; (try clear hb); (try clear hb2); (try clear hk); (try clear hi); (try clear ho0)))
  (try simp only [Act.put, List.setIfInBounds_toArray, List.set_cons_zero, List.set_cons_succ])
  have H := HS_.out
  clear HS_
  replace H := Option.bind_eq_some_iff.mp H
  obtain ⟨t562, A190, H⟩ := H
  (try dsimp only at H)
  have A19 := Q_ A190
  clear A190
  have HS_ := Q_ H
  clear H
  go_upto_region 11 with (first | ((with_reducible refine gate_callee (f := 12) rfl ?_); refine gl_ (some 28) Try.func12 #[.slice A1 l1.length c1] ?_; (with_reducible refine (laws_toMachineS.calls k _ _ l1 t562 _ ?side1 ?side2 A19.out).mono ?_); (case side1 => exact cb_ HR1 HB); (case side2 => exact HC1.out); rintro e w20 ⟨v563, rfl, ho0, hb⟩; refine ⟨_, rfl, ?_⟩; have _ := Q_ (Kd.S_elder' (ps_ HO554.out) (Kd.S_base ho0) hb); have _ := Q_ (Kd.S_elder' (ps_ HO557.out) (Kd.S_base ho0) hb); have _ := Q_ (Kd.S_elder' (ps_ HO561.out) (Kd.S_base ho0) hb); have _ := Q_ (Kd.S_lower (Kd.S_new' (Kd.S_new' (Kd.S_new' ho0 (Kd.S_lt (ps_ HO554.out))) (Kd.S_lt (ps_ HO557.out))) (Kd.S_lt (ps_ HO561.out))) (below_size (pb_ HB.out))); have _ := Q_ (below_step (pb_ HB.out) hb); clear HO554 HO557 HO561 HB; rename_i HO554 HO557 HO561 HO564 HB; (try clear hb); (try clear hb2); (try clear hk); (try clear hi); (try clear ho0)))
  (try simp only [Act.put, List.setIfInBounds_toArray, List.set_cons_zero, List.set_cons_succ])
  have H := HS_.out
  clear HS_
  replace H := Option.bind_eq_some_iff.mp H
  obtain ⟨t565, A210, H⟩ := H
  (try dsimp only at H)
  have A21 := Q_ A210
  clear A210
  have HS_ := Q_ H
  clear H
  obtain ⟨Ao22, co22, eo22⟩ := Kd.S_slice HO561.out
  subst eo22
  obtain ⟨Ao23, co23, eo23⟩ := Kd.S_slice HO564.out
  subst eo23
  go_upto_if 34 with (first | ((with_reducible refine gate_callee (f := 32) rfl ?_); refine gl_ (some 31) Try.func32 #[.slice Ao22 t559.length co22, .slice Ao23 t562.length co23] ?_; (with_reducible refine (impl_NextOnly.calls k _ _ t559 _ _ t562 t565 _ ?side1 ?side2 ?side3 ?side4 A21.out).mono ?_); (case side1 => exact pc_ ((Kd.S_reads' HO561.out).2.2)); (case side2 => exact (Kd.S_reads' HO561.out).2.1); (case side3 => exact pc_ ((Kd.S_reads' HO564.out).2.2)); (case side4 => exact (Kd.S_reads' HO564.out).2.1); rintro e w24 ⟨rfl, hb⟩; refine ⟨_, rfl, ?_⟩; have _ := Q_ (Kd.S_below (ps_ HO554.out) hb); have _ := Q_ (Kd.S_below (ps_ HO557.out) hb); have _ := Q_ (Kd.S_below (ps_ HO561.out) hb); have _ := Q_ (Kd.S_below (ps_ HO564.out) hb); have _ := Q_ (below_step (pb_ HB.out) hb); clear HO554 HO557 HO561 HO564 HB; rename_i HO554 HO557 HO561 HO564 HB; (try clear hb); (try clear hb2); (try clear hk); (try clear hi)))
  (try simp only [Act.put, List.setIfInBounds_toArray, List.set_cons_zero, List.set_cons_succ])
  have H := HS_.out
  clear HS_
  by_cases c25 : (t565 != t558) = true
  · rw [if_pos c25] at H
    have c25b0 : (t565 != t558) = true := c25
    (try (have c25b1 : decide (t565 = t558) = false := by simpa using c25))
    (try (have c25b2 : (t565 == t558) = false := by simpa using c25))
    (try (have c25b3 : ¬ (t565 = t558) := by simpa using c25))
    clear c25
    (first | rw [c25b0] | (simp only [i64_w, i32_w]; rw [c25b0]) | (have c_ := c25b0; rw [bne] at c_; rw [c_]; clear c_) | rw [c25b1] | rw [c25b2] | skip)
    obtain rfl := Option.some.inj H
    go_wp2
    go_ret
    exact ⟨er_, pb_ HB.out⟩
  rw [if_neg c25] at H
  have c25b0 : (t565 != t558) = false := by simpa using c25
  (try (have c25b1 : decide (t565 = t558) = true := by simpa using c25))
  (try (have c25b2 : (t565 == t558) = true := by simpa using c25))
  clear c25
  (first | rw [c25b0] | (simp only [i64_w, i32_w]; rw [c25b0]) | (have c_ := c25b0; rw [bne] at c_; rw [c_]; clear c_) | rw [c25b1] | rw [c25b2] | skip)
  replace H := Option.bind_eq_some_iff.mp H
  obtain ⟨t566, A260, H⟩ := H
  (try dsimp only at H)
  have A26 := Q_ A260
  clear A260
  replace H := Option.bind_eq_some_iff.mp H
  obtain ⟨t569, A270, H⟩ := H
  (try dsimp only at H)
  have A27 := Q_ A270
  clear A270
  have HS_ := Q_ H
  clear H
  go_upto_if 39 with (first | ((with_reducible refine gate_callee (f := 12) rfl ?_); refine gl_ (some 37) Try.func12 #[.slice A0 l0.length c0] ?_; (with_reducible refine (laws_toMachineS.calls k _ _ l0 t566 _ ?side1 ?side2 A26.out).mono ?_); (case side1 => exact cb_ HR0 HB); (case side2 => exact HC0.out); rintro e w28 ⟨v567, rfl, ho0, hb⟩; refine ⟨_, rfl, ?_⟩; have _ := Q_ (Kd.S_elder' (ps_ HO554.out) (Kd.S_base ho0) hb); have _ := Q_ (Kd.S_elder' (ps_ HO557.out) (Kd.S_base ho0) hb); have _ := Q_ (Kd.S_elder' (ps_ HO561.out) (Kd.S_base ho0) hb); have _ := Q_ (Kd.S_elder' (ps_ HO564.out) (Kd.S_base ho0) hb); have _ := Q_ (Kd.S_lower (Kd.S_new' (Kd.S_new' (Kd.S_new' (Kd.S_new' ho0 (Kd.S_lt (ps_ HO554.out))) (Kd.S_lt (ps_ HO557.out))) (Kd.S_lt (ps_ HO561.out))) (Kd.S_lt (ps_ HO564.out))) (below_size (pb_ HB.out))); have _ := Q_ (below_step (pb_ HB.out) hb); clear HO554 HO557 HO561 HO564 HB; rename_i HO554 HO557 HO561 HO564 HO568 HB; (try clear hb); (try clear hb2); (try clear hk); (try clear hi); (try clear ho0); obtain ⟨Ao29, co29, eo29⟩ := Kd.S_slice HO568.out; subst eo29) | ((with_reducible refine gate_callee (f := 15) rfl ?_); refine gl_ (some 38) Try.func15 #[.slice Ao22 t559.length co22, .slice Ao29 t566.length co29] ?_; (with_reducible refine (laws_eqMachineS.calls k _ _ t559 _ _ t566 t569 _ ?side1 ?side2 ?side3 ?side4 A27.out).mono ?_); (case side1 => exact pc_ ((Kd.S_reads' HO561.out).2.2)); (case side2 => exact (Kd.S_reads' HO561.out).2.1); (case side3 => exact pc_ ((Kd.S_reads' HO568.out).2.2)); (case side4 => exact (Kd.S_reads' HO568.out).2.1); rintro e w30 ⟨rfl, hb⟩; refine ⟨_, rfl, ?_⟩; have _ := Q_ (Kd.S_below (ps_ HO554.out) hb); have _ := Q_ (Kd.S_below (ps_ HO557.out) hb); have _ := Q_ (Kd.S_below (ps_ HO561.out) hb); have _ := Q_ (Kd.S_below (ps_ HO564.out) hb); have _ := Q_ (Kd.S_below (ps_ HO568.out) hb); have _ := Q_ (below_step (pb_ HB.out) hb); clear HO554 HO557 HO561 HO564 HO568 HB; rename_i HO554 HO557 HO561 HO564 HO568 HB; (try clear hb); (try clear hb2); (try clear hk); (try clear hi)))
  (try simp only [Act.put, List.setIfInBounds_toArray, List.set_cons_zero, List.set_cons_succ])
  have H := HS_.out
  clear HS_
  by_cases c31 : t569 = true
  rotate_left
  · replace c31 := Bool.eq_false_iff.mpr c31
    subst c31
    rw [if_neg (show ¬ (false = true) by decide)] at H
    obtain rfl := Option.some.inj H
    go_wp2
    go_ret
    exact ⟨er_, pb_ HB.out⟩
  subst c31
  rw [if_pos rfl] at H
  replace H := Option.bind_eq_some_iff.mp H
  obtain ⟨t570, A320, H⟩ := H
  (try dsimp only at H)
  have A32 := Q_ A320
  clear A320
  replace H := Option.bind_eq_some_iff.mp H
  obtain ⟨t573, A330, H⟩ := H
  replace H : (if t573 = true then (some true) else (some false)) = some r := H
  have A33 := Q_ A330
  clear A330
  have HS_ := Q_ H
  clear H
  go_upto_if 44 with (first | ((with_reducible refine gate_callee (f := 12) rfl ?_); refine gl_ (some 42) Try.func12 #[.slice A1 l1.length c1] ?_; (with_reducible refine (laws_toMachineS.calls k _ _ l1 t570 _ ?side1 ?side2 A32.out).mono ?_); (case side1 => exact cb_ HR1 HB); (case side2 => exact HC1.out); rintro e w34 ⟨v571, rfl, ho0, hb⟩; refine ⟨_, rfl, ?_⟩; have _ := Q_ (Kd.S_elder' (ps_ HO554.out) (Kd.S_base ho0) hb); have _ := Q_ (Kd.S_elder' (ps_ HO557.out) (Kd.S_base ho0) hb); have _ := Q_ (Kd.S_elder' (ps_ HO561.out) (Kd.S_base ho0) hb); have _ := Q_ (Kd.S_elder' (ps_ HO564.out) (Kd.S_base ho0) hb); have _ := Q_ (Kd.S_elder' (ps_ HO568.out) (Kd.S_base ho0) hb); have _ := Q_ (Kd.S_lower (Kd.S_new' (Kd.S_new' (Kd.S_new' (Kd.S_new' (Kd.S_new' ho0 (Kd.S_lt (ps_ HO554.out))) (Kd.S_lt (ps_ HO557.out))) (Kd.S_lt (ps_ HO561.out))) (Kd.S_lt (ps_ HO564.out))) (Kd.S_lt (ps_ HO568.out))) (below_size (pb_ HB.out))); have _ := Q_ (below_step (pb_ HB.out) hb); clear HO554 HO557 HO561 HO564 HO568 HB; rename_i HO554 HO557 HO561 HO564 HO568 HO572 HB; (try clear hb); (try clear hb2); (try clear hk); (try clear hi); (try clear ho0); obtain ⟨Ao35, co35, eo35⟩ := Kd.S_slice HO572.out; subst eo35) | ((with_reducible refine gate_callee (f := 15) rfl ?_); refine gl_ (some 43) Try.func15 #[.slice Ao23 t562.length co23, .slice Ao35 t570.length co35] ?_; (with_reducible refine (laws_eqMachineS.calls k _ _ t562 _ _ t570 t573 _ ?side1 ?side2 ?side3 ?side4 A33.out).mono ?_); (case side1 => exact pc_ ((Kd.S_reads' HO564.out).2.2)); (case side2 => exact (Kd.S_reads' HO564.out).2.1); (case side3 => exact pc_ ((Kd.S_reads' HO572.out).2.2)); (case side4 => exact (Kd.S_reads' HO572.out).2.1); rintro e w36 ⟨rfl, hb⟩; refine ⟨_, rfl, ?_⟩; have _ := Q_ (Kd.S_below (ps_ HO554.out) hb); have _ := Q_ (Kd.S_below (ps_ HO557.out) hb); have _ := Q_ (Kd.S_below (ps_ HO561.out) hb); have _ := Q_ (Kd.S_below (ps_ HO564.out) hb); have _ := Q_ (Kd.S_below (ps_ HO568.out) hb); have _ := Q_ (Kd.S_below (ps_ HO572.out) hb); have _ := Q_ (below_step (pb_ HB.out) hb); clear HO554 HO557 HO561 HO564 HO568 HO572 HB; rename_i HO554 HO557 HO561 HO564 HO568 HO572 HB; (try clear hb); (try clear hb2); (try clear hk); (try clear hi)))
  (try simp only [Act.put, List.setIfInBounds_toArray, List.set_cons_zero, List.set_cons_succ])
  have H := HS_.out
  clear HS_
  by_cases c37 : t573 = true
  rotate_left
  · replace c37 := Bool.eq_false_iff.mpr c37
    subst c37
    rw [if_neg (show ¬ (false = true) by decide)] at H
    obtain rfl := Option.some.inj H
    go_wp2
    go_ret
    exact ⟨er_, pb_ HB.out⟩
  subst c37
  rw [if_pos rfl] at H
  obtain rfl := Option.some.inj H
  go_wp2
  go_ret
  exact ⟨er_, pb_ HB.out⟩

/-- THE ONE PURE STATEMENT of laws_FnExactNextOnly: yours. -/
def laws_FnExactNextOnly.Pure : Prop := ∀ (x0 : List (S26)) (x1 : List (S26)), (x0.length * 56 ≤ 140737488351232 ∧ ∀ y ∈ x0, Q26 y) → (x1.length * 56 ≤ 140737488351232 ∧ ∀ y ∈ x1, Q26 y) → ∃ k, laws_FnExactNextOnly.f k x0 x1 = some true

end Go.Proofs.Ytldcchjbaglppaa.Print
