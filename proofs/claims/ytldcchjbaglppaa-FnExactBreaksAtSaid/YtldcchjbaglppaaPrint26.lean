-- Written by a program of this session (printx.py) out of the translation; Lean checks it.
import Derived.Test.YtldcchjbaglppaaPrint0
import Derived.Test.YtldcchjbaglppaaPrint1
import Derived.Test.YtldcchjbaglppaaPrint3
import Derived.Test.YtldcchjbaglppaaPrint10
import Derived.Test.YtldcchjbaglppaaPrint15
namespace Go.Proofs.Ytldcchjbaglppaa.Print
open Go.RowKit Go.Proofs.YtldcchjbaglppaaW.PrintWords Go.Proofs.YtldcchjbaglppaaW.PrintLast Go.Proofs.YtldcchjbaglppaaW.PrintMore Go.Proofs.Ytldcchjbaglppaa.Short
attribute [local go_sem] max2_int min2_int max_two min_two max_three min_three max_four min_four   -- for this text's walks alone
set_option linter.unusedVariables false
set_option linter.unusedSimpArgs false

/-! ### laws_FnExactBreaksAt: function 7 -/
def laws_FnExactBreaksAt.f (k : Nat) (l0 : List (S26)) : Option (Bool) := (laws_szMachineS.f k l0 1048576).bind fun t435 => (if t435 < 0 then (some true) else ((laws_toMachineS.f k l0).bind fun t436 => ((spec_BreaksAt.f k t436).bind fun t439 => ((laws_toMachineS.f k l0).bind fun t440 => ((impl_BreaksAt.f k t440).bind fun t443 => (if t443 = t439 then ((laws_toMachineS.f k l0).bind fun t444 => ((laws_eqMachineS.f k t440 t444).bind fun t447 => (if t447 = true then (some true) else (some false)))) else (some false)))))))
theorem laws_FnExactBreaksAt.mono : ∀ a0 k, LeO (laws_FnExactBreaksAt.f k a0) (laws_FnExactBreaksAt.f (k + 1) a0) := by
  intro a0 k
  unfold laws_FnExactBreaksAt.f
  repeat' first
      | (with_reducible exact impl_BreaksAt.mono _ _)
      | (with_reducible exact laws_eqMachineS.mono _ _ _)
      | (with_reducible exact laws_szMachineS.mono _ _ _)
      | (with_reducible exact laws_toMachineS.mono _ _)
      | (with_reducible exact spec_BreaksAt.mono _ _)
      | (with_reducible exact LeO.refl _)
      | (with_reducible exact LeO.none _)
      | (with_reducible refine LeO.ite ?_ ?_)
      | (with_reducible refine LeO.bind ?_ (fun _ => ?_))
      | exact impl_BreaksAt.mono _ _
      | exact laws_eqMachineS.mono _ _ _
      | exact laws_szMachineS.mono _ _ _
      | exact laws_toMachineS.mono _ _
      | exact spec_BreaksAt.mono _ _
      | exact LeO.none _
      | refine LeO.ite ?_ ?_
      | refine LeO.bind ?_ (fun _ => ?_)
set_option maxHeartbeats 8000000 in
set_option maxRecDepth 100000 in
theorem laws_FnExactBreaksAt.calls (k : Nat) (A0 : Option Addr) (c0 : Nat) (l0 : List (S26)) (r : Bool) (w : World) (hr0 : Kd.C k26 w A0 l0.length l0) (hc0 : l0.length ≤ c0) (h : laws_FnExactBreaksAt.f k l0 = some r) :
    Calls Try.prog 7 #[.slice A0 l0.length c0] w fun e w' => e = .returned (.bool r) ∧ Below w.heap.size w w' := by
  have HR0 := Aside0.mk hr0
  have HC0 := Aside0.mk hc0
  clear hr0 hc0
  have HB := Aside0.mk (Below.refl w.heap.size w)
  have H : ((laws_szMachineS.f k l0 1048576).bind fun t435 => (if t435 < 0 then (some true) else ((laws_toMachineS.f k l0).bind fun t436 => ((spec_BreaksAt.f k t436).bind fun t439 => ((laws_toMachineS.f k l0).bind fun t440 => ((impl_BreaksAt.f k t440).bind fun t443 => (if t443 = t439 then ((laws_toMachineS.f k l0).bind fun t444 => ((laws_eqMachineS.f k t440 t444).bind fun t447 => (if t447 = true then (some true) else (some false)))) else (some false)))))))) = some r := h
  clear h
  replace H := Option.bind_eq_some_iff.mp H
  obtain ⟨t435, A20, H⟩ := H
  (try dsimp only at H)
  have A2 := Aside0.mk A20
  clear A20
  have HS_ := Aside0.mk H
  clear H
  go_enter Try.func7, Try.ntmps7
  go_upto_if 11 with (first | ((with_reducible refine gate_callee (f := 9) rfl ?_); refine gl_ (some 9) Try.func9 #[.slice A0 l0.length c0, .int .i64 1048576] ?_; (with_reducible refine (laws_szMachineS.calls k _ _ l0 1048576 t435 _ ?side1 ?side2 A2.out).mono ?_); (case side1 => exact pc_ HR0.out); (case side2 => exact HC0.out); rintro e w3 ⟨rfl, hb⟩; refine ⟨_, rfl, ?_⟩; have _ := Aside0.mk (below_step (pb_ HB.out) hb); clear HB; rename_i HB; (try clear hb); (try clear hb2); (try clear hk); (try clear hi)))
  (try simp only [Act.put, List.setIfInBounds_toArray, List.set_cons_zero, List.set_cons_succ])
  have H := HS_.out
  clear HS_
  by_cases c4 : t435 < 0
  · rw [if_pos c4] at H
    have c4b0 : decide (t435 < 0) = true := decide_eq_true c4
    clear c4
    (first | rw [c4b0] | (simp only [i64_w, i32_w]; rw [c4b0]) | skip)
    obtain rfl := Option.some.inj H
    go_wp2
    go_ret
    exact ⟨er_, pb_ HB.out⟩
  rw [if_neg c4] at H
  have c4b0 : decide (t435 < 0) = false := decide_eq_false c4
  clear c4
  (first | rw [c4b0] | (simp only [i64_w, i32_w]; rw [c4b0]) | skip)
  replace H := Option.bind_eq_some_iff.mp H
  obtain ⟨t436, A50, H⟩ := H
  (try dsimp only at H)
  have A5 := Aside0.mk A50
  clear A50
  replace H := Option.bind_eq_some_iff.mp H
  obtain ⟨t439, A60, H⟩ := H
  (try dsimp only at H)
  have A6 := Aside0.mk A60
  clear A60
  have HS_ := Aside0.mk H
  clear H
  go_upto_region 6 with (first | ((with_reducible refine gate_callee (f := 12) rfl ?_); refine gl_ (some 13) Try.func12 #[.slice A0 l0.length c0] ?_; (with_reducible refine (laws_toMachineS.calls k _ _ l0 t436 _ ?side1 ?side2 A5.out).mono ?_); (case side1 => exact cb_ HR0 HB); (case side2 => exact HC0.out); rintro e w7 ⟨v437, rfl, ho0, hb⟩; refine ⟨_, rfl, ?_⟩; have _ := Aside0.mk (Kd.S_lower ho0 (below_size (pb_ HB.out))); have _ := Aside0.mk (below_step (pb_ HB.out) hb); clear HB; rename_i HO438 HB; (try clear hb); (try clear hb2); (try clear hk); (try clear hi); (try clear ho0); obtain ⟨Ao8, co8, eo8⟩ := Kd.S_slice HO438.out; subst eo8) | ((with_reducible refine gate_callee (f := 33) rfl ?_); refine gl_ (some 14) Try.func33 #[.slice Ao8 t436.length co8] ?_; (with_reducible refine (spec_BreaksAt.calls k _ _ t436 t439 _ ?side1 ?side2 A6.out).mono ?_); (case side1 => exact pc_ ((Kd.S_reads' HO438.out).2.2)); (case side2 => exact (Kd.S_reads' HO438.out).2.1); rintro e w9 ⟨rfl, hb⟩; refine ⟨_, rfl, ?_⟩; have _ := Aside0.mk (Kd.S_below (ps_ HO438.out) hb); have _ := Aside0.mk (below_step (pb_ HB.out) hb); clear HO438 HB; rename_i HO438 HB; (try clear hb); (try clear hb2); (try clear hk); (try clear hi)))
  (try simp only [Act.put, List.setIfInBounds_toArray, List.set_cons_zero, List.set_cons_succ])
  have H := HS_.out
  clear HS_
  replace H := Option.bind_eq_some_iff.mp H
  obtain ⟨t440, A100, H⟩ := H
  (try dsimp only at H)
  have A10 := Aside0.mk A100
  clear A100
  have HS_ := Aside0.mk H
  clear H
  go_upto_region 7 with (first | ((with_reducible refine gate_callee (f := 12) rfl ?_); refine gl_ (some 16) Try.func12 #[.slice A0 l0.length c0] ?_; (with_reducible refine (laws_toMachineS.calls k _ _ l0 t440 _ ?side1 ?side2 A10.out).mono ?_); (case side1 => exact cb_ HR0 HB); (case side2 => exact HC0.out); rintro e w11 ⟨v441, rfl, ho0, hb⟩; refine ⟨_, rfl, ?_⟩; have _ := Aside0.mk (Kd.S_elder' (ps_ HO438.out) (Kd.S_base ho0) hb); have _ := Aside0.mk (Kd.S_lower (Kd.S_new' ho0 (Kd.S_lt (ps_ HO438.out))) (below_size (pb_ HB.out))); have _ := Aside0.mk (below_step (pb_ HB.out) hb); clear HO438 HB; rename_i HO438 HO442 HB; (try clear hb); (try clear hb2); (try clear hk); (try clear hi); (try clear ho0)))
  (try simp only [Act.put, List.setIfInBounds_toArray, List.set_cons_zero, List.set_cons_succ])
  have H := HS_.out
  clear HS_
  replace H := Option.bind_eq_some_iff.mp H
  obtain ⟨t443, A120, H⟩ := H
  (try dsimp only at H)
  have A12 := Aside0.mk A120
  clear A120
  have HS_ := Aside0.mk H
  clear H
  obtain ⟨Ao13, co13, eo13⟩ := Kd.S_slice HO442.out
  subst eo13
  go_upto_if 21 with (first | ((with_reducible refine gate_callee (f := 29) rfl ?_); refine gl_ (some 18) Try.func29 #[.slice Ao13 t440.length co13] ?_; (with_reducible refine (impl_BreaksAt.calls k _ _ t440 t443 _ ?side1 ?side2 A12.out).mono ?_); (case side1 => exact pc_ ((Kd.S_reads' HO442.out).2.2)); (case side2 => exact (Kd.S_reads' HO442.out).2.1); rintro e w14 ⟨rfl, hb⟩; refine ⟨_, rfl, ?_⟩; have _ := Aside0.mk (Kd.S_below (ps_ HO438.out) hb); have _ := Aside0.mk (Kd.S_below (ps_ HO442.out) hb); have _ := Aside0.mk (below_step (pb_ HB.out) hb); clear HO438 HO442 HB; rename_i HO438 HO442 HB; (try clear hb); (try clear hb2); (try clear hk); (try clear hi)))
  (try simp only [Act.put, List.setIfInBounds_toArray, List.set_cons_zero, List.set_cons_succ])
  have H := HS_.out
  clear HS_
  by_cases c15 : t443 = t439
  rotate_left
  · rw [if_neg c15] at H
    have c15b0 : (t443 == t439) = false := beq_eq_false_iff_ne.mpr c15
    have c15b1 : (t443 != t439) = true := bne_iff_ne.mpr c15
    (first | rw [c15b0] | (simp only [i64_w, i32_w]; rw [c15b0]) | rw [c15b1] | (have c_ := c15b1; rw [bne] at c_; rw [c_]; clear c_) | skip)
    obtain rfl := Option.some.inj H
    go_wp2
    go_ret
    exact ⟨er_, pb_ HB.out⟩
  rw [if_pos c15] at H
  have c15b0 : (t443 == t439) = true := beq_iff_eq.mpr c15
  have c15b1 : (t443 != t439) = false := bne_eq_false_iff_eq.mpr c15
  clear c15
  (first | rw [c15b0] | (simp only [i64_w, i32_w]; rw [c15b0]) | rw [c15b1] | (have c_ := c15b1; rw [bne] at c_; rw [c_]; clear c_) | skip)
  replace H := Option.bind_eq_some_iff.mp H
  obtain ⟨t444, A160, H⟩ := H
  (try dsimp only at H)
  have A16 := Aside0.mk A160
  clear A160
  replace H := Option.bind_eq_some_iff.mp H
  obtain ⟨t447, A170, H⟩ := H
  replace H : (if t447 = true then (some true) else (some false)) = some r := H
  have A17 := Aside0.mk A170
  clear A170
  have HS_ := Aside0.mk H
  clear H
  go_upto_if 26 with (first | ((with_reducible refine gate_callee (f := 12) rfl ?_); refine gl_ (some 24) Try.func12 #[.slice A0 l0.length c0] ?_; (with_reducible refine (laws_toMachineS.calls k _ _ l0 t444 _ ?side1 ?side2 A16.out).mono ?_); (case side1 => exact cb_ HR0 HB); (case side2 => exact HC0.out); rintro e w18 ⟨v445, rfl, ho0, hb⟩; refine ⟨_, rfl, ?_⟩; have _ := Aside0.mk (Kd.S_elder' (ps_ HO438.out) (Kd.S_base ho0) hb); have _ := Aside0.mk (Kd.S_elder' (ps_ HO442.out) (Kd.S_base ho0) hb); have _ := Aside0.mk (Kd.S_lower (Kd.S_new' (Kd.S_new' ho0 (Kd.S_lt (ps_ HO438.out))) (Kd.S_lt (ps_ HO442.out))) (below_size (pb_ HB.out))); have _ := Aside0.mk (below_step (pb_ HB.out) hb); clear HO438 HO442 HB; rename_i HO438 HO442 HO446 HB; (try clear hb); (try clear hb2); (try clear hk); (try clear hi); (try clear ho0); obtain ⟨Ao19, co19, eo19⟩ := Kd.S_slice HO446.out; subst eo19) | ((with_reducible refine gate_callee (f := 15) rfl ?_); refine gl_ (some 25) Try.func15 #[.slice Ao13 t440.length co13, .slice Ao19 t444.length co19] ?_; (with_reducible refine (laws_eqMachineS.calls k _ _ t440 _ _ t444 t447 _ ?side1 ?side2 ?side3 ?side4 A17.out).mono ?_); (case side1 => exact pc_ ((Kd.S_reads' HO442.out).2.2)); (case side2 => exact (Kd.S_reads' HO442.out).2.1); (case side3 => exact pc_ ((Kd.S_reads' HO446.out).2.2)); (case side4 => exact (Kd.S_reads' HO446.out).2.1); rintro e w20 ⟨rfl, hb⟩; refine ⟨_, rfl, ?_⟩; have _ := Aside0.mk (Kd.S_below (ps_ HO438.out) hb); have _ := Aside0.mk (Kd.S_below (ps_ HO442.out) hb); have _ := Aside0.mk (Kd.S_below (ps_ HO446.out) hb); have _ := Aside0.mk (below_step (pb_ HB.out) hb); clear HO438 HO442 HO446 HB; rename_i HO438 HO442 HO446 HB; (try clear hb); (try clear hb2); (try clear hk); (try clear hi)))
  (try simp only [Act.put, List.setIfInBounds_toArray, List.set_cons_zero, List.set_cons_succ])
  have H := HS_.out
  clear HS_
  by_cases c21 : t447 = true
  rotate_left
  · replace c21 := Bool.eq_false_iff.mpr c21
    subst c21
    rw [if_neg (show ¬ (false = true) by decide)] at H
    obtain rfl := Option.some.inj H
    go_wp2
    go_ret
    exact ⟨er_, pb_ HB.out⟩
  subst c21
  rw [if_pos rfl] at H
  obtain rfl := Option.some.inj H
  go_wp2
  go_ret
  exact ⟨er_, pb_ HB.out⟩

/-- THE ONE PURE STATEMENT of laws_FnExactBreaksAt: yours. -/
def laws_FnExactBreaksAt.Pure : Prop := ∀ (x0 : List (S26)), (x0.length * 56 ≤ 140737488351232 ∧ ∀ y ∈ x0, Q26 y) → ∃ k, laws_FnExactBreaksAt.f k x0 = some true

end Go.Proofs.Ytldcchjbaglppaa.Print
