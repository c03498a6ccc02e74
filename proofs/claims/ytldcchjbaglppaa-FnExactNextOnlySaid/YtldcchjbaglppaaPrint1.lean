-- Written by a program of this session (printx.py) out of the translation; Lean checks it.
import Derived.Test.YtldcchjbaglppaaPrint0
namespace Go.Proofs.Ytldcchjbaglppaa.Print
open Go.RowKit Go.Proofs.YtldcchjbaglppaaW.PrintWords Go.Proofs.YtldcchjbaglppaaW.PrintLast Go.Proofs.YtldcchjbaglppaaW.PrintMore Go.Proofs.Ytldcchjbaglppaa.Short
attribute [local go_sem] max2_int min2_int max_two min_two max_three min_three max_four min_four   -- for this text's walks alone
set_option linter.unusedVariables false
set_option linter.unusedSimpArgs false

/-! ### laws_szBoolS: function 35 -/
def laws_szBoolS.f (l0 : List Bool) (a1 : Int) : Option (Int) := if (wrap64 (a1 - (l0.length : Int))) < 0 then (some (-1)) else (some (wrap64 (a1 - (l0.length : Int))))
set_option maxHeartbeats 8000000 in
set_option maxRecDepth 100000 in
theorem laws_szBoolS.calls (A0 : Option Addr) (c0 : Nat) (l0 : List Bool) (a1 : Int) (r : Int) (w : World) (hr0 : Kd.C Kd.bool w A0 l0.length l0) (hc0 : l0.length ≤ c0) (h : laws_szBoolS.f l0 a1 = some r) :
    Calls Try.prog 35 #[.slice A0 l0.length c0, .int .i64 a1] w fun e w' => e = .returned (.int .i64 r) ∧ Drawn0 w w' := by
  have HR0 := Q_ hr0
  have HC0 := Q_ hc0
  clear hr0 hc0
  have H : (if (wrap64 (a1 - (l0.length : Int))) < 0 then (some (-1)) else (some (wrap64 (a1 - (l0.length : Int))))) = some r := h
  clear h
  by_cases c3 : (wrap64 (a1 - (l0.length : Int))) < 0
  rotate_left
  · rw [if_neg c3] at H
    have c3b0 : decide ((wrap64 (a1 - (l0.length : Int))) < 0) = false := decide_eq_false c3
    clear c3
    obtain rfl := Option.some.inj H
    go_enter Try.func35, Try.ntmps35
    go_wp2
    go_ret
    exact ⟨by first | rfl | (simp; done) | (simp [*]; done), by repeat (first | exact Drawn0.refl _ | apply Drawn0.step)⟩
  rw [if_pos c3] at H
  have c3b0 : decide ((wrap64 (a1 - (l0.length : Int))) < 0) = true := decide_eq_true c3
  clear c3
  obtain rfl := Option.some.inj H
  go_enter Try.func35, Try.ntmps35
  go_wp2
  go_ret
  exact ⟨by first | rfl | (simp; done) | (simp [*]; done), by repeat (first | exact Drawn0.refl _ | apply Drawn0.step)⟩

/-! ### laws_szMoveS: function 36 -/
def laws_szMoveS.f (l0 : List (S80)) (a1 : Int) : Option (Int) := if (wrap64 (a1 - (l0.length : Int))) < 0 then (some (-1)) else (some (wrap64 (a1 - (l0.length : Int))))
set_option maxHeartbeats 8000000 in
set_option maxRecDepth 100000 in
theorem laws_szMoveS.calls (A0 : Option Addr) (c0 : Nat) (l0 : List (S80)) (a1 : Int) (r : Int) (w : World) (hr0 : Kd.C k80 w A0 l0.length l0) (hc0 : l0.length ≤ c0) (h : laws_szMoveS.f l0 a1 = some r) :
    Calls Try.prog 36 #[.slice A0 l0.length c0, .int .i64 a1] w fun e w' => e = .returned (.int .i64 r) ∧ Drawn0 w w' := by
  have HR0 := Q_ hr0
  have HC0 := Q_ hc0
  clear hr0 hc0
  have H : (if (wrap64 (a1 - (l0.length : Int))) < 0 then (some (-1)) else (some (wrap64 (a1 - (l0.length : Int))))) = some r := h
  clear h
  by_cases c3 : (wrap64 (a1 - (l0.length : Int))) < 0
  rotate_left
  · rw [if_neg c3] at H
    have c3b0 : decide ((wrap64 (a1 - (l0.length : Int))) < 0) = false := decide_eq_false c3
    clear c3
    obtain rfl := Option.some.inj H
    go_enter Try.func36, Try.ntmps36
    go_wp2
    go_ret
    exact ⟨by first | rfl | (simp; done) | (simp [*]; done), by repeat (first | exact Drawn0.refl _ | apply Drawn0.step)⟩
  rw [if_pos c3] at H
  have c3b0 : decide ((wrap64 (a1 - (l0.length : Int))) < 0) = true := decide_eq_true c3
  clear c3
  obtain rfl := Option.some.inj H
  go_enter Try.func36, Try.ntmps36
  go_wp2
  go_ret
  exact ⟨by first | rfl | (simp; done) | (simp [*]; done), by repeat (first | exact Drawn0.refl _ | apply Drawn0.step)⟩

/-! ### laws_szMachine: function 10 -/
def laws_szMachine.f (a0_0 : Int) (l0_1 : List Bool) (l0_2 : List (S80)) (a1 : Int) : Option (Int) := (laws_szBoolS.f l0_1 a1).bind fun t102 => (if t102 < 0 then (some (-1)) else ((laws_szMoveS.f l0_2 t102).bind fun t103 => (if t103 < 0 then (some (-1)) else (some t103))))
set_option maxHeartbeats 8000000 in
set_option maxRecDepth 100000 in
theorem laws_szMachine.calls (a0_0 : Int) (A0_1 : Option Addr) (c0_1 : Nat) (l0_1 : List Bool) (A0_2 : Option Addr) (c0_2 : Nat) (l0_2 : List (S80)) (a1 : Int) (r : Int) (w : World) (hr0_1 : Kd.C Kd.bool w A0_1 l0_1.length l0_1) (hc0_1 : l0_1.length ≤ c0_1) (hr0_2 : Kd.C k80 w A0_2 l0_2.length l0_2) (hc0_2 : l0_2.length ≤ c0_2) (h : laws_szMachine.f a0_0 l0_1 l0_2 a1 = some r) :
    Calls Try.prog 10 #[.agg #[.int .i64 a0_0, .slice A0_1 l0_1.length c0_1, .slice A0_2 l0_2.length c0_2], .int .i64 a1] w fun e w' => e = .returned (.int .i64 r) ∧ Below w.heap.size w w' := by
  have hu26 := Try.underlying26
  have HR0_1 := Q_ hr0_1
  have HC0_1 := Q_ hc0_1
  clear hr0_1 hc0_1
  have HR0_2 := Q_ hr0_2
  have HC0_2 := Q_ hc0_2
  clear hr0_2 hc0_2
  have HB := Q_ (Below.refl w.heap.size w)
  have H : ((laws_szBoolS.f l0_1 a1).bind fun t102 => (if t102 < 0 then (some (-1)) else ((laws_szMoveS.f l0_2 t102).bind fun t103 => (if t103 < 0 then (some (-1)) else (some t103))))) = some r := h
  clear h
  have HS_ := Q_ H
  clear H
  go_enter Try.func10, Try.ntmps10
  go_upto_region 1 with (first | ((with_reducible refine gate_dst (N := 2) rfl ?_); refine box_event ?hg (N := 2) ?hd (cs := #[.int .i64 a0_0, .slice A0_1 l0_1.length c0_1, .slice A0_2 l0_2.length c0_2]) (t := 26) ?hr ?_; (case hd => rfl); (case hg => rfl); (case hr => first | (go_simp; done) | (go_simp; rfl)); intro gb101 hg w3 hbox hb; have n0_ := Q_ (below_step (pb_ HB.out) hb); have n1_ := Q_ (hbox); have n2_ := Q_ ((by rw [hg]; exact (below_size (pb_ HB.out)) : w.heap.size ≤ gb101)); have n3_ := n2_; clear HB; have HB := n0_; have BK101 := n1_; have GW101 := n2_; have GE101 := n3_; clear n0_ n1_ n2_ n3_; clear hb hbox hg))
  (try simp only [Act.put, List.setIfInBounds_toArray, List.set_cons_zero, List.set_cons_succ])
  have H := HS_.out
  clear HS_
  replace H := Option.bind_eq_some_iff.mp H
  obtain ⟨t102, A40, H⟩ := H
  (try dsimp only at H)
  have A4 := Q_ A40
  clear A40
  have HS_ := Q_ H
  clear H
  have hcz5 := bc3_ BK101.out
  go_upto_if 10 with (first | ((with_reducible refine gate_callee (f := 35) rfl ?_); refine gl_ (some 8) Try.func35 #[.slice A0_1 l0_1.length c0_1, .int .i64 a1] ?_; (with_reducible refine (laws_szBoolS.calls _ _ l0_1 a1 t102 _ ?side1 ?side2 A4.out).mono ?_); (case side1 => exact cb_ HR0_1 HB); (case side2 => exact HC0_1.out); rintro e w' ⟨rfl, ⟨nd, rfl⟩⟩; refine ⟨_, rfl, ?_⟩))
  (try simp only [Act.put, List.setIfInBounds_toArray, List.set_cons_zero, List.set_cons_succ])
  have H := HS_.out
  clear HS_
  by_cases c6 : t102 < 0
  · rw [if_pos c6] at H
    have c6b0 : decide (t102 < 0) = true := decide_eq_true c6
    clear c6
    (first | rw [c6b0] | (simp only [i64_w, i32_w]; rw [c6b0]) | skip)
    obtain rfl := Option.some.inj H
    go_wp2
    go_ret
    exact ⟨er_, pb1_ HB.out GE101.out⟩
  rw [if_neg c6] at H
  have c6b0 : decide (t102 < 0) = false := decide_eq_false c6
  clear c6
  (first | rw [c6b0] | (simp only [i64_w, i32_w]; rw [c6b0]) | skip)
  replace H := Option.bind_eq_some_iff.mp H
  obtain ⟨t103, A70, H⟩ := H
  replace H : (if t103 < 0 then (some (-1)) else (some t103)) = some r := H
  have A7 := Q_ A70
  clear A70
  have HS_ := Q_ H
  clear H
  have hcz8 := bc3_ BK101.out
  go_upto_if 16 with (first | ((with_reducible refine gate_callee (f := 36) rfl ?_); refine gl_ (some 14) Try.func36 #[.slice A0_2 l0_2.length c0_2, .int .i64 t102] ?_; (with_reducible refine (laws_szMoveS.calls _ _ l0_2 t102 t103 _ ?side1 ?side2 A7.out).mono ?_); (case side1 => exact pc_ (Kd.C_below HR0_2.out (pb1_ HB.out GE101.out))); (case side2 => exact HC0_2.out); rintro e w' ⟨rfl, ⟨nd, rfl⟩⟩; refine ⟨_, rfl, ?_⟩))
  (try simp only [Act.put, List.setIfInBounds_toArray, List.set_cons_zero, List.set_cons_succ])
  have H := HS_.out
  clear HS_
  by_cases c9 : t103 < 0
  rotate_left
  · rw [if_neg c9] at H
    have c9b0 : decide (t103 < 0) = false := decide_eq_false c9
    clear c9
    (first | rw [c9b0] | (simp only [i64_w, i32_w]; rw [c9b0]) | skip)
    obtain rfl := Option.some.inj H
    go_wp2
    go_ret
    exact ⟨er_, pb1_ HB.out GE101.out⟩
  rw [if_pos c9] at H
  have c9b0 : decide (t103 < 0) = true := decide_eq_true c9
  clear c9
  (first | rw [c9b0] | (simp only [i64_w, i32_w]; rw [c9b0]) | skip)
  obtain rfl := Option.some.inj H
  go_wp2
  go_ret
  exact ⟨er_, pb1_ HB.out GE101.out⟩

/-! ### laws_szMachineS: function 9 -/
def laws_szMachineS.l0 : Nat → List (S26) → Int → Int → Option (Int)
  | 0, _, _, _ => none
  | k + 1, x0, x1, x5 => if x5 < (x0.length : Int) then (if 0 ≤ x5 then ((laws_szMachine.f ((rd_T26 x0 x5).f0) ((rd_T26 x0 x5).f1) ((rd_T26 x0 x5).f2) x1).bind fun t105 => (if t105 < 0 then (some (-1)) else (laws_szMachineS.l0 k x0 t105 (wrap64 (x5 + 1))))) else (none)) else (some x1)
def laws_szMachineS.f (k : Nat) (l0 : List (S26)) (a1 : Int) : Option (Int) := if (wrap64 (a1 - (l0.length : Int))) < 0 then (some (-1)) else (laws_szMachineS.l0 k l0 (wrap64 (a1 - (l0.length : Int))) 0)
theorem laws_szMachineS.mono_l : ∀ k, (∀ y0 y1 y2, LeO (laws_szMachineS.l0 k y0 y1 y2) (laws_szMachineS.l0 (k + 1) y0 y1 y2))
  | 0 => fun _ _ _ r h => by simp [laws_szMachineS.l0] at h
  | k + 1 => by
    have ih0 := laws_szMachineS.mono_l k
    · intro y0 y1 y2
      unfold laws_szMachineS.l0
      exact mo1_ ih0
theorem laws_szMachineS.mono : ∀ a0 a1 k, LeO (laws_szMachineS.f k a0 a1) (laws_szMachineS.f (k + 1) a0 a1) := by
  intro a0 a1 k
  have ih0 := laws_szMachineS.mono_l k
  unfold laws_szMachineS.f
  exact mo1_ ih0
set_option maxHeartbeats 8000000 in
set_option maxRecDepth 100000 in
theorem laws_szMachineS.calls (k : Nat) (A0 : Option Addr) (c0 : Nat) (l0 : List (S26)) (a1 : Int) (r : Int) (w : World) (hr0 : Kd.C k26 w A0 l0.length l0) (hc0 : l0.length ≤ c0) (h : laws_szMachineS.f k l0 a1 = some r) :
    Calls Try.prog 9 #[.slice A0 l0.length c0, .int .i64 a1] w fun e w' => e = .returned (.int .i64 r) ∧ Below w.heap.size w w' := by
  have hu26 := Try.underlying26
  have HR0 := Q_ hr0
  have HC0 := Q_ hc0
  clear hr0 hc0
  have HB := Q_ (Below.refl w.heap.size w)
  have H : (if (wrap64 (a1 - (l0.length : Int))) < 0 then (some (-1)) else (laws_szMachineS.l0 k l0 (wrap64 (a1 - (l0.length : Int))) 0)) = some r := h
  clear h
  by_cases c3 : (wrap64 (a1 - (l0.length : Int))) < 0
  rotate_left
  · rw [if_neg c3] at H
    have c3b0 : decide ((wrap64 (a1 - (l0.length : Int))) < 0) = false := decide_eq_false c3
    clear c3
    have H' := Q_ H
    clear H
    go_enter Try.func9, Try.ntmps9
    go_wp2
    go_loopg [1, 5] k (fun kq v1 v5 w' => ∃ (x1_1 : Int) (x5_1 : Int), v1 = .int .i64 x1_1 ∧ v5 = .int .i64 x5_1 ∧ Aside0 (laws_szMachineS.l0 kq l0 x1_1 x5_1 = some r) ∧ Aside0 (kq ≤ k) ∧ Aside0 (Below w.heap.size w w'))
    case atStart => exact ⟨(wrap64 (a1 - (l0.length : Int))), (0), el_, el_, H', ⟨Nat.le_refl _⟩, ⟨pb_ HB.out⟩⟩
    clear H'
    try clear p2
    try clear c3
    try clear c3b0
    obtain ⟨x1_1, x5_1, rfl, rfl, HA, HK1, HB⟩ := hrel
    rcases gk with _ | k1
    · exact absurd HA.out (by simp [laws_szMachineS.l0])
    have H := HA.out
    clear HA
    simp only [laws_szMachineS.l0] at H
    by_cases c4 : x5_1 < (l0.length : Int)
    rotate_left
    · rw [if_neg c4] at H
      have c4b0 : decide (x5_1 < (l0.length : Int)) = false := decide_eq_false c4
      clear c4
      obtain rfl := Option.some.inj H
      go_wp2
      go_ret
      exact ⟨er_, pb_ HB.out⟩
    rw [if_pos c4] at H
    have c4b0 : decide (x5_1 < (l0.length : Int)) = true := decide_eq_true c4
    clear c4
    by_cases c5 : 0 ≤ x5_1
    rotate_left
    · rw [if_neg c5] at H
      exact absurd H (by simp)
    rw [if_pos c5] at H
    have c5b0 : decide (0 ≤ x5_1) = true := decide_eq_true c5
    clear c5
    replace H := Option.bind_eq_some_iff.mp H
    obtain ⟨t105, A60, H⟩ := H
    (try dsimp only at H)
    have A6 := Q_ A60
    clear A60
    have HS_ := Q_ H
    clear H
    have p104 : 0 ≤ (x5_1 : Int) := dt_
    have q104 : x5_1 < (l0.length : Int) := dt_
    obtain ⟨ad104, A104_1, c104_1, A104_2, c104_2, e104, hx104_0, hx104_1, hx104_2, hl104_1, hi104_1, hl104_2, hi104_2⟩ := at_T26 HR0.out x5_1 p104 q104
    cases e104
    replace hx104_0 := bt_ HB hx104_0
    replace hx104_1 := bt_ HB hx104_1
    replace hx104_2 := bt_ HB hx104_2
    have HR104_1 := Q_ hi104_1
    have HC104_1 := Q_ hl104_1
    clear hi104_1 hl104_1
    have HR104_2 := Q_ hi104_2
    have HC104_2 := Q_ hl104_2
    clear hi104_2 hl104_2
    replace p104 := eq_true p104
    replace q104 := eq_true q104
    go_upto_if 25 with (first | ((with_reducible refine gate_callee (f := 10) rfl ?_); refine gl_ (some 23) Try.func10 #[.agg #[.int .i64 ((rd_T26 l0 x5_1).f0), .slice A104_1 ((rd_T26 l0 x5_1).f1).length c104_1, .slice A104_2 ((rd_T26 l0 x5_1).f2).length c104_2], .int .i64 x1_1] ?_; (with_reducible refine (laws_szMachine.calls ((rd_T26 l0 x5_1).f0) _ _ ((rd_T26 l0 x5_1).f1) _ _ ((rd_T26 l0 x5_1).f2) x1_1 t105 _ ?side1 ?side2 ?side3 ?side4 A6.out).mono ?_); (case side1 => exact cb_ HR104_1 HB); (case side2 => exact HC104_1.out); (case side3 => exact cb_ HR104_2 HB); (case side4 => exact HC104_2.out); rintro e w7 ⟨rfl, hb⟩; refine ⟨_, rfl, ?_⟩; have _ := Q_ (below_step (pb_ HB.out) hb); clear HB; rename_i HB; (try clear hb); (try clear hb2); (try clear hk); (try clear hi)))
    (try simp only [Act.put, List.setIfInBounds_toArray, List.set_cons_zero, List.set_cons_succ])
    have H := HS_.out
    clear HS_
    by_cases c8 : t105 < 0
    rotate_left
    · rw [if_neg c8] at H
      have c8b0 : decide (t105 < 0) = false := decide_eq_false c8
      clear c8
      (first | rw [c8b0] | (simp only [i64_w, i32_w]; rw [c8b0]) | skip)
      have H' := Q_ H
      clear H
      go_wp2
      go_roundg k1
      case measure => have := HK1.out; omega
      case rel => exact ⟨(t105), (wrap64 (x5_1 + 1)), el_, el_, H', ⟨by have := HK1.out; omega⟩, ⟨pb_ HB.out⟩⟩
    rw [if_pos c8] at H
    have c8b0 : decide (t105 < 0) = true := decide_eq_true c8
    clear c8
    (first | rw [c8b0] | (simp only [i64_w, i32_w]; rw [c8b0]) | skip)
    obtain rfl := Option.some.inj H
    go_wp2
    go_ret
    exact ⟨er_, pb_ HB.out⟩
  rw [if_pos c3] at H
  have c3b0 : decide ((wrap64 (a1 - (l0.length : Int))) < 0) = true := decide_eq_true c3
  clear c3
  obtain rfl := Option.some.inj H
  go_enter Try.func9, Try.ntmps9
  go_wp2
  go_ret
  exact ⟨er_, pb_ HB.out⟩

/-! ### spec_l1In: function 45 -/
def spec_l1In.f (a0 : Int) (a1 : Int) (a2 : Int) : Option (Bool) := if a0 ≥ a1 then (some (decide (a0 ≤ a2))) else (some false)
set_option maxHeartbeats 8000000 in
set_option maxRecDepth 100000 in
theorem spec_l1In.calls (a0 : Int) (a1 : Int) (a2 : Int) (r : Bool) (w : World) (h : spec_l1In.f a0 a1 a2 = some r) :
    Calls Try.prog 45 #[.int .i64 a0, .int .i64 a1, .int .i64 a2] w fun e w' => e = .returned (.bool r) ∧ Drawn0 w w' := by
  have H : (if a0 ≥ a1 then (some (decide (a0 ≤ a2))) else (some false)) = some r := h
  clear h
  by_cases c4 : a0 ≥ a1
  rotate_left
  · rw [if_neg c4] at H
    have c4b0 : decide (a1 ≤ a0) = false := decide_eq_false c4
    clear c4
    obtain rfl := Option.some.inj H
    go_enter Try.func45, Try.ntmps45
    go_wp2
    go_ret
    exact ⟨by first | rfl | (simp; done) | (simp [*]; done), by repeat (first | exact Drawn0.refl _ | apply Drawn0.step)⟩
  rw [if_pos c4] at H
  have c4b0 : decide (a1 ≤ a0) = true := decide_eq_true c4
  clear c4
  obtain rfl := Option.some.inj H
  go_enter Try.func45, Try.ntmps45
  go_wp2
  go_ret
  exact ⟨by first | rfl | (simp; done) | (simp [*]; done), by repeat (first | exact Drawn0.refl _ | apply Drawn0.step)⟩

/-! ### spec_MoveOf: function 68 -/
def spec_MoveOf.l0 : Nat → Int → Bool → Int → Int → Int → List Bool → List (S78) → Option (Int)
  | 0, _, _, _, _, _, _, _ => none
  | k + 1, x1, x2, x3, x9, x107000, x107001, x107002 => if x9 < (x107002.length : Int) then (if 0 ≤ x9 then (if ((rd_T78 x107002 x9).f0) = x1 then (if (((rd_T78 x107002 x9).f1) == x2) = true then (if ((rd_T78 x107002 x9).f2) = x3 then (some x9) else (spec_MoveOf.l0 k x1 x2 x3 (wrap64 (x9 + 1)) x107000 x107001 x107002)) else (spec_MoveOf.l0 k x1 x2 x3 (wrap64 (x9 + 1)) x107000 x107001 x107002)) else (spec_MoveOf.l0 k x1 x2 x3 (wrap64 (x9 + 1)) x107000 x107001 x107002)) else (none)) else (some (-1))
def spec_MoveOf.f (k : Nat) (a0_0 : Int) (l0_1 : List Bool) (l0_2 : List (S78)) (a1 : Int) (a2 : Bool) (a3 : Int) : Option (Int) := spec_MoveOf.l0 k a1 a2 a3 0 a0_0 l0_1 l0_2
theorem spec_MoveOf.mono_l : ∀ k, (∀ y0 y1 y2 y3 y4 y5 y6, LeO (spec_MoveOf.l0 k y0 y1 y2 y3 y4 y5 y6) (spec_MoveOf.l0 (k + 1) y0 y1 y2 y3 y4 y5 y6))
  | 0 => fun _ _ _ _ _ _ _ r h => by simp [spec_MoveOf.l0] at h
  | k + 1 => by
    have ih0 := spec_MoveOf.mono_l k
    · intro y0 y1 y2 y3 y4 y5 y6
      unfold spec_MoveOf.l0
      exact mo1_ ih0
theorem spec_MoveOf.mono : ∀ a0 a1 a2 a3 a4 a5 k, LeO (spec_MoveOf.f k a0 a1 a2 a3 a4 a5) (spec_MoveOf.f (k + 1) a0 a1 a2 a3 a4 a5) := by
  intro a0 a1 a2 a3 a4 a5 k
  have ih0 := spec_MoveOf.mono_l k
  unfold spec_MoveOf.f
  exact mo1_ ih0
set_option maxHeartbeats 8000000 in
set_option maxRecDepth 100000 in
theorem spec_MoveOf.calls (k : Nat) (a0_0 : Int) (A0_1 : Option Addr) (c0_1 : Nat) (l0_1 : List Bool) (A0_2 : Option Addr) (c0_2 : Nat) (l0_2 : List (S78)) (a1 : Int) (a2 : Bool) (a3 : Int) (r : Int) (w : World) (hr0_1 : Kd.C Kd.bool w A0_1 l0_1.length l0_1) (hc0_1 : l0_1.length ≤ c0_1) (hr0_2 : Kd.C k78 w A0_2 l0_2.length l0_2) (hc0_2 : l0_2.length ≤ c0_2) (h : spec_MoveOf.f k a0_0 l0_1 l0_2 a1 a2 a3 = some r) :
    Calls Try.prog 68 #[.agg #[.int .i64 a0_0, .slice A0_1 l0_1.length c0_1, .slice A0_2 l0_2.length c0_2], .int .i64 a1, .bool a2, .int .i64 a3] w fun e w' => e = .returned (.int .i64 r) ∧ Below w.heap.size w w' := by
  have hu34 := Try.underlying34
  have hu78 := Try.underlying78
  have HR0_1 := Q_ hr0_1
  have HC0_1 := Q_ hc0_1
  clear hr0_1 hc0_1
  have HR0_2 := Q_ hr0_2
  have HC0_2 := Q_ hc0_2
  clear hr0_2 hc0_2
  have HB := Q_ (Below.refl w.heap.size w)
  have H : (spec_MoveOf.l0 k a1 a2 a3 0 a0_0 l0_1 l0_2) = some r := h
  clear h
  have H' := Q_ H
  clear H
  go_enter Try.func68, Try.ntmps68
  go_wp2_with (first | ((with_reducible refine gate_dst (N := 4) rfl ?_); refine box_event ?hg (N := 4) ?hd (cs := #[.int .i64 a0_0, .slice A0_1 l0_1.length c0_1, .slice A0_2 l0_2.length c0_2]) (t := 34) ?hr ?_; (case hd => rfl); (case hg => rfl); (case hr => first | (go_simp; done) | (go_simp; rfl)); intro gb106 hg w5 hbox hb; have n0_ := Q_ (below_step (pb_ HB.out) hb); have n1_ := Q_ (hbox); have n2_ := Q_ ((by rw [hg]; exact (below_size (pb_ HB.out)) : w.heap.size ≤ gb106)); have n3_ := n2_; clear HB; have HB := n0_; have BK106 := n1_; have GW106 := n2_; have GE106 := n3_; clear n0_ n1_ n2_ n3_; clear hb hbox hg))
  (try simp only [Act.put, List.setIfInBounds_toArray, List.set_cons_zero, List.set_cons_succ])
  go_loopg [9] k (fun kq v9 w' => ∃ (x9_1 : Int), v9 = .int .i64 x9_1 ∧ Aside0 (spec_MoveOf.l0 kq a1 a2 a3 x9_1 a0_0 l0_1 l0_2 = some r) ∧ Aside0 (kq ≤ k) ∧ Aside0 (w'.heap[gb106]? = some (.cells #[.int .i64 a0_0, (.slice A0_1 l0_1.length c0_1), (.slice A0_2 l0_2.length c0_2)] 34 (0, 0))) ∧ Aside0 (Below w.heap.size w w'))
  case atStart => exact ⟨(0), el_, H', ⟨Nat.le_refl _⟩, ⟨pk_ BK106.out⟩, ⟨pb1_ HB.out GE106.out⟩⟩
  clear H'
  try clear p2
  obtain ⟨x9_1, rfl, HA, HK1, BK106, HB⟩ := hrel
  rcases gk with _ | k1
  · exact absurd HA.out (by simp [spec_MoveOf.l0])
  have H := HA.out
  clear HA
  simp only [spec_MoveOf.l0] at H
  by_cases c6 : x9_1 < (l0_2.length : Int)
  rotate_left
  · rw [if_neg c6] at H
    have c6b0 : decide (x9_1 < (l0_2.length : Int)) = false := decide_eq_false c6
    clear c6
    obtain rfl := Option.some.inj H
    have hcz7 := bc3_ BK106.out
    go_wp2
    go_ret
    exact ⟨er_, pb1_ HB.out GE106.out⟩
  rw [if_pos c6] at H
  have c6b0 : decide (x9_1 < (l0_2.length : Int)) = true := decide_eq_true c6
  clear c6
  by_cases c8 : 0 ≤ x9_1
  rotate_left
  · rw [if_neg c8] at H
    exact absurd H (by simp)
  rw [if_pos c8] at H
  have c8b0 : decide (0 ≤ x9_1) = true := decide_eq_true c8
  clear c8
  have HS_ := Q_ H
  clear H
  have hcz9 := bc3_ BK106.out
  have p107 : 0 ≤ (x9_1 : Int) := dt_
  have q107 : x9_1 < (l0_2.length : Int) := dt_
  obtain ⟨ad107, e107, hx107_0, hx107_1, hx107_2, hx107_3⟩ := at_T78 HR0_2.out x9_1 p107 q107
  cases e107
  replace hx107_0 := bt_ HB hx107_0
  replace hx107_1 := bt_ HB hx107_1
  replace hx107_2 := bt_ HB hx107_2
  replace hx107_3 := bt_ HB hx107_3
  replace p107 := eq_true p107
  replace q107 := eq_true q107
  go_upto_region 5 with (first | ((with_reducible refine gate_dst (N := 10) rfl ?_); refine box_event ?hg (N := 10) ?hd (cs := #[.int .i64 0, .bool false, .int .i64 0, .int .i64 0]) (t := 78) ?hr ?_; (case hd => rfl); (case hg => rfl); (case hr => first | (go_simp; done) | (go_simp; rfl)); intro gb108 hg w10 hbox hb; have n0_ := Q_ (bb_ BK106.out hb); have n1_ := Q_ (below_step (pb1_ HB.out GE106.out) hb); have n2_ := Q_ (hbox); have n3_ := Q_ ((by rw [hg]; exact (below_size (pb1_ HB.out GE106.out)) : w.heap.size ≤ gb108)); have n4_ := n3_; have n5_ := Q_ ((by rw [hg]; exact Nat.ne_of_lt (blk_lt (pk_ BK106.out)) : gb106 ≠ gb108)); have n6_ := Q_ ((by rw [hg]; exact Nat.ne_of_gt (blk_lt (pk_ BK106.out)) : gb108 ≠ gb106)); clear BK106; clear HB; have BK106 := n0_; have HB := n1_; have BK108 := n2_; have GW108 := n3_; have GE108 := n4_; have NB106_108 := n5_; have NB108_106 := n6_; clear n0_ n1_ n2_ n3_ n4_ n5_ n6_; clear hb hbox hg; have hnb11 := NB108_106.out; have hnc11 := NB106_108.out; have hcz12 := bc4_ BK108.out))
  (try simp only [Act.put, List.setIfInBounds_toArray, List.set_cons_zero, List.set_cons_succ])
  have H := HS_.out
  clear HS_
  by_cases c13 : ((rd_T78 l0_2 x9_1).f0) = a1
  rotate_left
  · rw [if_neg c13] at H
    have c13b0 : (((rd_T78 l0_2 x9_1).f0) == a1) = false := beq_eq_false_iff_ne.mpr c13
    have c13b1 : (((rd_T78 l0_2 x9_1).f0) != a1) = true := bne_iff_ne.mpr c13
    (first | rw [c13b0] | (simp only [i64_w, i32_w]; rw [c13b0]) | rw [c13b1] | (have c_ := c13b1; rw [bne] at c_; rw [c_]; clear c_) | skip)
    have H' := Q_ H
    clear H
    have hnb14 := NB108_106.out
    have hnc14 := NB106_108.out
    have hcz15 := bc4_ BK108.out
    go_wp2
    go_roundg k1
    case measure => have := HK1.out; omega
    case rel => exact ⟨(wrap64 (x9_1 + 1)), el_, H', ⟨by have := HK1.out; omega⟩, ⟨pp_ BK106.out⟩, ⟨pb2_ HB.out GE106.out GE108.out⟩⟩
  rw [if_pos c13] at H
  have c13b0 : (((rd_T78 l0_2 x9_1).f0) == a1) = true := beq_iff_eq.mpr c13
  have c13b1 : (((rd_T78 l0_2 x9_1).f0) != a1) = false := bne_eq_false_iff_eq.mpr c13
  clear c13
  (first | rw [c13b0] | (simp only [i64_w, i32_w]; rw [c13b0]) | rw [c13b1] | (have c_ := c13b1; rw [bne] at c_; rw [c_]; clear c_) | skip)
  by_cases c16 : (((rd_T78 l0_2 x9_1).f1) == a2) = true
  rotate_left
  · rw [if_neg c16] at H
    have c16b0 : (((rd_T78 l0_2 x9_1).f1) == a2) = false := by simpa using c16
    (try (have c16b1 : decide (((rd_T78 l0_2 x9_1).f1) = a2) = false := by simpa using c16))
    (try (have c16b2 : (((rd_T78 l0_2 x9_1).f1) == a2) = false := by simpa using c16))
    (try (have c16b3 : ¬ (((rd_T78 l0_2 x9_1).f1) = a2) := by simpa using c16))
    clear c16
    have H' := Q_ H
    clear H
    have hnb17 := NB108_106.out
    have hnc17 := NB106_108.out
    have hcz18 := bc4_ BK108.out
    go_wp2
    go_roundg k1
    case measure => have := HK1.out; omega
    case rel => exact ⟨(wrap64 (x9_1 + 1)), el_, H', ⟨by have := HK1.out; omega⟩, ⟨pp_ BK106.out⟩, ⟨pb2_ HB.out GE106.out GE108.out⟩⟩
  rw [if_pos c16] at H
  have c16b0 : (((rd_T78 l0_2 x9_1).f1) == a2) = true := c16
  (try (have c16b1 : decide (((rd_T78 l0_2 x9_1).f1) = a2) = true := by simpa using c16))
  (try (have c16b2 : (((rd_T78 l0_2 x9_1).f1) == a2) = true := by simpa using c16))
  clear c16
  by_cases c19 : ((rd_T78 l0_2 x9_1).f2) = a3
  rotate_left
  · rw [if_neg c19] at H
    have c19b0 : (((rd_T78 l0_2 x9_1).f2) == a3) = false := beq_eq_false_iff_ne.mpr c19
    have c19b1 : (((rd_T78 l0_2 x9_1).f2) != a3) = true := bne_iff_ne.mpr c19
    have H' := Q_ H
    clear H
    have hnb20 := NB108_106.out
    have hnc20 := NB106_108.out
    have hcz21 := bc4_ BK108.out
    go_wp2
    go_roundg k1
    case measure => have := HK1.out; omega
    case rel => exact ⟨(wrap64 (x9_1 + 1)), el_, H', ⟨by have := HK1.out; omega⟩, ⟨pp_ BK106.out⟩, ⟨pb2_ HB.out GE106.out GE108.out⟩⟩
  rw [if_pos c19] at H
  have c19b0 : (((rd_T78 l0_2 x9_1).f2) == a3) = true := beq_iff_eq.mpr c19
  have c19b1 : (((rd_T78 l0_2 x9_1).f2) != a3) = false := bne_eq_false_iff_eq.mpr c19
  clear c19
  obtain rfl := Option.some.inj H
  have hnb22 := NB108_106.out
  have hnc22 := NB106_108.out
  have hcz23 := bc4_ BK108.out
  go_wp2
  go_ret
  exact ⟨er_, pb2_ HB.out GE106.out GE108.out⟩

end Go.Proofs.Ytldcchjbaglppaa.Print
