-- Written by a program of this session (printx.py) out of the translation; Lean checks it.
import Derived.Test.YtldcchjbaglppaaPrint0
import Derived.Test.YtldcchjbaglppaaPrint1
import Derived.Test.YtldcchjbaglppaaPrint3
import Derived.Test.YtldcchjbaglppaaPrint16
namespace Go.Proofs.Ytldcchjbaglppaa.Print
open Go.RowKit Go.Proofs.YtldcchjbaglppaaW.PrintWords Go.Proofs.YtldcchjbaglppaaW.PrintLast Go.Proofs.YtldcchjbaglppaaW.PrintMore Go.Proofs.Ytldcchjbaglppaa.Short
attribute [local go_sem] max2_int min2_int max_two min_two max_three min_three max_four min_four   -- for this text's walks alone
set_option linter.unusedVariables false
set_option linter.unusedSimpArgs false

/-! ### laws_FnExactFarFollows: function 5 -/
def laws_FnExactFarFollows.f (k : Nat) (l0 : List (S26)) (a1 : Int) (a2 : Int) : Option (Bool) := (laws_szMachineS.f k l0 1048576).bind fun t457 => (if t457 < 0 then (some true) else ((laws_toMachineS.f k l0).bind fun t458 => ((spec_FarFollows.f k t458 a1 a2).bind fun t461 => ((laws_toMachineS.f k l0).bind fun t462 => ((impl_FarFollows.f k t462 a1 a2).bind fun t465 => (if (t465 != t461) = true then (some false) else ((laws_toMachineS.f k l0).bind fun t466 => ((laws_eqMachineS.f k t462 t466).bind fun t469 => (if t469 = true then (some true) else (some false))))))))))
theorem laws_FnExactFarFollows.mono : ∀ a0 a1 a2 k, LeO (laws_FnExactFarFollows.f k a0 a1 a2) (laws_FnExactFarFollows.f (k + 1) a0 a1 a2) := by
  intro a0 a1 a2 k
  unfold laws_FnExactFarFollows.f
  repeat' first
      | (with_reducible exact impl_FarFollows.mono _ _ _ _)
      | (with_reducible exact laws_eqMachineS.mono _ _ _)
      | (with_reducible exact laws_szMachineS.mono _ _ _)
      | (with_reducible exact laws_toMachineS.mono _ _)
      | (with_reducible exact spec_FarFollows.mono _ _ _ _)
      | (with_reducible exact LeO.refl _)
      | (with_reducible exact LeO.none _)
      | (with_reducible refine LeO.ite ?_ ?_)
      | (with_reducible refine LeO.bind ?_ (fun _ => ?_))
      | exact impl_FarFollows.mono _ _ _ _
      | exact laws_eqMachineS.mono _ _ _
      | exact laws_szMachineS.mono _ _ _
      | exact laws_toMachineS.mono _ _
      | exact spec_FarFollows.mono _ _ _ _
      | exact LeO.none _
      | refine LeO.ite ?_ ?_
      | refine LeO.bind ?_ (fun _ => ?_)
set_option maxHeartbeats 8000000 in
set_option maxRecDepth 100000 in
theorem laws_FnExactFarFollows.calls (k : Nat) (A0 : Option Addr) (c0 : Nat) (l0 : List (S26)) (a1 : Int) (a2 : Int) (r : Bool) (w : World) (hr0 : Kd.C k26 w A0 l0.length l0) (hc0 : l0.length ≤ c0) (h : laws_FnExactFarFollows.f k l0 a1 a2 = some r) :
    Calls Try.prog 5 #[.slice A0 l0.length c0, .int .i64 a1, .int .i64 a2] w fun e w' => e = .returned (.bool r) ∧ Below w.heap.size w w' := by
  have HR0 := Aside0.mk hr0
  have HC0 := Aside0.mk hc0
  clear hr0 hc0
  have HB := Aside0.mk (Below.refl w.heap.size w)
  have H : ((laws_szMachineS.f k l0 1048576).bind fun t457 => (if t457 < 0 then (some true) else ((laws_toMachineS.f k l0).bind fun t458 => ((spec_FarFollows.f k t458 a1 a2).bind fun t461 => ((laws_toMachineS.f k l0).bind fun t462 => ((impl_FarFollows.f k t462 a1 a2).bind fun t465 => (if (t465 != t461) = true then (some false) else ((laws_toMachineS.f k l0).bind fun t466 => ((laws_eqMachineS.f k t462 t466).bind fun t469 => (if t469 = true then (some true) else (some false))))))))))) = some r := h
  clear h
  replace H := Option.bind_eq_some_iff.mp H
  obtain ⟨t457, A40, H⟩ := H
  (try dsimp only at H)
  have A4 := Aside0.mk A40
  clear A40
  have HS_ := Aside0.mk H
  clear H
  go_enter Try.func5, Try.ntmps5
  go_upto_if 15 with (first | ((with_reducible refine gate_callee (f := 9) rfl ?_); refine gl_ (some 13) Try.func9 #[.slice A0 l0.length c0, .int .i64 1048576] ?_; (with_reducible refine (laws_szMachineS.calls k _ _ l0 1048576 t457 _ ?side1 ?side2 A4.out).mono ?_); (case side1 => exact pc_ HR0.out); (case side2 => exact HC0.out); rintro e w5 ⟨rfl, hb⟩; refine ⟨_, rfl, ?_⟩; have _ := Aside0.mk (below_step (pb_ HB.out) hb); clear HB; rename_i HB; (try clear hb); (try clear hb2); (try clear hk); (try clear hi)))
  (try simp only [Act.put, List.setIfInBounds_toArray, List.set_cons_zero, List.set_cons_succ])
  have H := HS_.out
  clear HS_
  by_cases c6 : t457 < 0
  · rw [if_pos c6] at H
    have c6b0 : decide (t457 < 0) = true := decide_eq_true c6
    clear c6
    (first | rw [c6b0] | (simp only [i64_w, i32_w]; rw [c6b0]) | skip)
    obtain rfl := Option.some.inj H
    go_wp2
    go_ret
    exact ⟨er_, pb_ HB.out⟩
  rw [if_neg c6] at H
  have c6b0 : decide (t457 < 0) = false := decide_eq_false c6
  clear c6
  (first | rw [c6b0] | (simp only [i64_w, i32_w]; rw [c6b0]) | skip)
  replace H := Option.bind_eq_some_iff.mp H
  obtain ⟨t458, A70, H⟩ := H
  (try dsimp only at H)
  have A7 := Aside0.mk A70
  clear A70
  replace H := Option.bind_eq_some_iff.mp H
  obtain ⟨t461, A80, H⟩ := H
  (try dsimp only at H)
  have A8 := Aside0.mk A80
  clear A80
  have HS_ := Aside0.mk H
  clear H
  go_upto_region 6 with (first | ((with_reducible refine gate_callee (f := 12) rfl ?_); refine gl_ (some 17) Try.func12 #[.slice A0 l0.length c0] ?_; (with_reducible refine (laws_toMachineS.calls k _ _ l0 t458 _ ?side1 ?side2 A7.out).mono ?_); (case side1 => exact cb_ HR0 HB); (case side2 => exact HC0.out); rintro e w9 ⟨v459, rfl, ho0, hb⟩; refine ⟨_, rfl, ?_⟩; have _ := Aside0.mk (Kd.S_lower ho0 (below_size (pb_ HB.out))); have _ := Aside0.mk (below_step (pb_ HB.out) hb); clear HB; rename_i HO460 HB; (try clear hb); (try clear hb2); (try clear hk); (try clear hi); (try clear ho0); obtain ⟨Ao10, co10, eo10⟩ := Kd.S_slice HO460.out; subst eo10) | ((with_reducible refine gate_callee (f := 24) rfl ?_); refine gl_ (some 20) Try.func24 #[.slice Ao10 t458.length co10, .int .i64 a1, .int .i64 a2] ?_; (with_reducible refine (spec_FarFollows.calls k _ _ t458 a1 a2 t461 _ ?side1 ?side2 A8.out).mono ?_); (case side1 => exact pc_ ((Kd.S_reads' HO460.out).2.2)); (case side2 => exact (Kd.S_reads' HO460.out).2.1); rintro e w11 ⟨rfl, hb⟩; refine ⟨_, rfl, ?_⟩; have _ := Aside0.mk (Kd.S_below (ps_ HO460.out) hb); have _ := Aside0.mk (below_step (pb_ HB.out) hb); clear HO460 HB; rename_i HO460 HB; (try clear hb); (try clear hb2); (try clear hk); (try clear hi)))
  (try simp only [Act.put, List.setIfInBounds_toArray, List.set_cons_zero, List.set_cons_succ])
  have H := HS_.out
  clear HS_
  replace H := Option.bind_eq_some_iff.mp H
  obtain ⟨t462, A120, H⟩ := H
  (try dsimp only at H)
  have A12 := Aside0.mk A120
  clear A120
  have HS_ := Aside0.mk H
  clear H
  go_upto_region 7 with (first | ((with_reducible refine gate_callee (f := 12) rfl ?_); refine gl_ (some 22) Try.func12 #[.slice A0 l0.length c0] ?_; (with_reducible refine (laws_toMachineS.calls k _ _ l0 t462 _ ?side1 ?side2 A12.out).mono ?_); (case side1 => exact cb_ HR0 HB); (case side2 => exact HC0.out); rintro e w13 ⟨v463, rfl, ho0, hb⟩; refine ⟨_, rfl, ?_⟩; have _ := Aside0.mk (Kd.S_elder' (ps_ HO460.out) (Kd.S_base ho0) hb); have _ := Aside0.mk (Kd.S_lower (Kd.S_new' ho0 (Kd.S_lt (ps_ HO460.out))) (below_size (pb_ HB.out))); have _ := Aside0.mk (below_step (pb_ HB.out) hb); clear HO460 HB; rename_i HO460 HO464 HB; (try clear hb); (try clear hb2); (try clear hk); (try clear hi); (try clear ho0)))
  (try simp only [Act.put, List.setIfInBounds_toArray, List.set_cons_zero, List.set_cons_succ])
  have H := HS_.out
  clear HS_
  replace H := Option.bind_eq_some_iff.mp H
  obtain ⟨t465, A140, H⟩ := H
  (try dsimp only at H)
  have A14 := Aside0.mk A140
  clear A140
  have HS_ := Aside0.mk H
  clear H
  obtain ⟨Ao15, co15, eo15⟩ := Kd.S_slice HO464.out
  subst eo15
  go_upto_if 29 with (first | ((with_reducible refine gate_callee (f := 25) rfl ?_); refine gl_ (some 26) Try.func25 #[.slice Ao15 t462.length co15, .int .i64 a1, .int .i64 a2] ?_; (with_reducible refine (impl_FarFollows.calls k _ _ t462 a1 a2 t465 _ ?side1 ?side2 A14.out).mono ?_); (case side1 => exact pc_ ((Kd.S_reads' HO464.out).2.2)); (case side2 => exact (Kd.S_reads' HO464.out).2.1); rintro e w16 ⟨rfl, hb⟩; refine ⟨_, rfl, ?_⟩; have _ := Aside0.mk (Kd.S_below (ps_ HO460.out) hb); have _ := Aside0.mk (Kd.S_below (ps_ HO464.out) hb); have _ := Aside0.mk (below_step (pb_ HB.out) hb); clear HO460 HO464 HB; rename_i HO460 HO464 HB; (try clear hb); (try clear hb2); (try clear hk); (try clear hi)))
  (try simp only [Act.put, List.setIfInBounds_toArray, List.set_cons_zero, List.set_cons_succ])
  have H := HS_.out
  clear HS_
  by_cases c17 : (t465 != t461) = true
  · rw [if_pos c17] at H
    have c17b0 : (t465 != t461) = true := c17
    (try (have c17b1 : decide (t465 = t461) = false := by simpa using c17))
    (try (have c17b2 : (t465 == t461) = false := by simpa using c17))
    (try (have c17b3 : ¬ (t465 = t461) := by simpa using c17))
    clear c17
    (first | rw [c17b0] | (simp only [i64_w, i32_w]; rw [c17b0]) | (have c_ := c17b0; rw [bne] at c_; rw [c_]; clear c_) | rw [c17b1] | rw [c17b2] | skip)
    obtain rfl := Option.some.inj H
    go_wp2
    go_ret
    exact ⟨er_, pb_ HB.out⟩
  rw [if_neg c17] at H
  have c17b0 : (t465 != t461) = false := by simpa using c17
  (try (have c17b1 : decide (t465 = t461) = true := by simpa using c17))
  (try (have c17b2 : (t465 == t461) = true := by simpa using c17))
  clear c17
  (first | rw [c17b0] | (simp only [i64_w, i32_w]; rw [c17b0]) | (have c_ := c17b0; rw [bne] at c_; rw [c_]; clear c_) | rw [c17b1] | rw [c17b2] | skip)
  replace H := Option.bind_eq_some_iff.mp H
  obtain ⟨t466, A180, H⟩ := H
  (try dsimp only at H)
  have A18 := Aside0.mk A180
  clear A180
  replace H := Option.bind_eq_some_iff.mp H
  obtain ⟨t469, A190, H⟩ := H
  replace H : (if t469 = true then (some true) else (some false)) = some r := H
  have A19 := Aside0.mk A190
  clear A190
  have HS_ := Aside0.mk H
  clear H
  go_upto_if 34 with (first | ((with_reducible refine gate_callee (f := 12) rfl ?_); refine gl_ (some 32) Try.func12 #[.slice A0 l0.length c0] ?_; (with_reducible refine (laws_toMachineS.calls k _ _ l0 t466 _ ?side1 ?side2 A18.out).mono ?_); (case side1 => exact cb_ HR0 HB); (case side2 => exact HC0.out); rintro e w20 ⟨v467, rfl, ho0, hb⟩; refine ⟨_, rfl, ?_⟩; have _ := Aside0.mk (Kd.S_elder' (ps_ HO460.out) (Kd.S_base ho0) hb); have _ := Aside0.mk (Kd.S_elder' (ps_ HO464.out) (Kd.S_base ho0) hb); have _ := Aside0.mk (Kd.S_lower (Kd.S_new' (Kd.S_new' ho0 (Kd.S_lt (ps_ HO460.out))) (Kd.S_lt (ps_ HO464.out))) (below_size (pb_ HB.out))); have _ := Aside0.mk (below_step (pb_ HB.out) hb); clear HO460 HO464 HB; rename_i HO460 HO464 HO468 HB; (try clear hb); (try clear hb2); (try clear hk); (try clear hi); (try clear ho0); obtain ⟨Ao21, co21, eo21⟩ := Kd.S_slice HO468.out; subst eo21) | ((with_reducible refine gate_callee (f := 15) rfl ?_); refine gl_ (some 33) Try.func15 #[.slice Ao15 t462.length co15, .slice Ao21 t466.length co21] ?_; (with_reducible refine (laws_eqMachineS.calls k _ _ t462 _ _ t466 t469 _ ?side1 ?side2 ?side3 ?side4 A19.out).mono ?_); (case side1 => exact pc_ ((Kd.S_reads' HO464.out).2.2)); (case side2 => exact (Kd.S_reads' HO464.out).2.1); (case side3 => exact pc_ ((Kd.S_reads' HO468.out).2.2)); (case side4 => exact (Kd.S_reads' HO468.out).2.1); rintro e w22 ⟨rfl, hb⟩; refine ⟨_, rfl, ?_⟩; have _ := Aside0.mk (Kd.S_below (ps_ HO460.out) hb); have _ := Aside0.mk (Kd.S_below (ps_ HO464.out) hb); have _ := Aside0.mk (Kd.S_below (ps_ HO468.out) hb); have _ := Aside0.mk (below_step (pb_ HB.out) hb); clear HO460 HO464 HO468 HB; rename_i HO460 HO464 HO468 HB; (try clear hb); (try clear hb2); (try clear hk); (try clear hi)))
  (try simp only [Act.put, List.setIfInBounds_toArray, List.set_cons_zero, List.set_cons_succ])
  have H := HS_.out
  clear HS_
  by_cases c23 : t469 = true
  rotate_left
  · replace c23 := Bool.eq_false_iff.mpr c23
    subst c23
    rw [if_neg (show ¬ (false = true) by decide)] at H
    obtain rfl := Option.some.inj H
    go_wp2
    go_ret
    exact ⟨er_, pb_ HB.out⟩
  subst c23
  rw [if_pos rfl] at H
  obtain rfl := Option.some.inj H
  go_wp2
  go_ret
  exact ⟨er_, pb_ HB.out⟩

/-- THE ONE PURE STATEMENT of laws_FnExactFarFollows: yours. -/
def laws_FnExactFarFollows.Pure : Prop := ∀ (x0 : List (S26)) (x1 : Int) (x2 : Int), (x0.length * 56 ≤ 140737488351232 ∧ ∀ y ∈ x0, Q26 y) → (Lit.int .i64 x1).wf = true → (Lit.int .i64 x2).wf = true → ∃ k, laws_FnExactFarFollows.f k x0 x1 x2 = some true

end Go.Proofs.Ytldcchjbaglppaa.Print
