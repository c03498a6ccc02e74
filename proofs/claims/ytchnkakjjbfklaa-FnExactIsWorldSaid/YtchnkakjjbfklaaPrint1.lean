-- Written by a program of this session (printx.py) out of the translation; Lean checks it.
import Derived.Test.YtchnkakjjbfklaaPrint0
namespace Go.Proofs.Ytchnkakjjbfklaa.Print
open Go.RowKit Go.Proofs.YtchnkakjjbfklaaW.PrintWords Go.Proofs.YtchnkakjjbfklaaW.PrintLast Go.Proofs.YtchnkakjjbfklaaW.PrintMore Go.Proofs.Ytchnkakjjbfklaa.Short
attribute [local go_sem] max2_int min2_int max_two min_two max_three min_three max_four min_four   -- for this text's walks alone
set_option linter.unusedVariables false
set_option linter.unusedSimpArgs false

/-! ### laws_szIntS: function 12 -/
def laws_szIntS.f (l0 : List Int) (a1 : Int) : Option (Int) := if (wrap64 (a1 - (l0.length : Int))) < 0 then (some (-1)) else (some (wrap64 (a1 - (l0.length : Int))))
set_option maxHeartbeats 8000000 in
set_option maxRecDepth 100000 in
theorem laws_szIntS.calls (A0 : Option Addr) (c0 : Nat) (l0 : List Int) (a1 : Int) (r : Int) (w : World) (hr0 : Kd.C (Kd.int .i64) w A0 l0.length l0) (hc0 : l0.length ≤ c0) (h : laws_szIntS.f l0 a1 = some r) :
    Calls Try.prog 12 #[.slice A0 l0.length c0, .int .i64 a1] w fun e w' => e = .returned (.int .i64 r) ∧ Drawn0 w w' := by
  have HR0 := Aside0.mk hr0
  have HC0 := Aside0.mk hc0
  clear hr0 hc0
  have H : (if (wrap64 (a1 - (l0.length : Int))) < 0 then (some (-1)) else (some (wrap64 (a1 - (l0.length : Int))))) = some r := h
  clear h
  by_cases c3 : (wrap64 (a1 - (l0.length : Int))) < 0
  rotate_left
  · rw [if_neg c3] at H
    have c3b0 : decide ((wrap64 (a1 - (l0.length : Int))) < 0) = false := decide_eq_false c3
    clear c3
    obtain rfl := Option.some.inj H
    go_enter Try.func12, Try.ntmps12
    go_wp2
    go_ret
    exact ⟨by first | rfl | (simp; done) | (simp [*]; done), by repeat (first | exact Drawn0.refl _ | apply Drawn0.step)⟩
  rw [if_pos c3] at H
  have c3b0 : decide ((wrap64 (a1 - (l0.length : Int))) < 0) = true := decide_eq_true c3
  clear c3
  obtain rfl := Option.some.inj H
  go_enter Try.func12, Try.ntmps12
  go_wp2
  go_ret
  exact ⟨by first | rfl | (simp; done) | (simp [*]; done), by repeat (first | exact Drawn0.refl _ | apply Drawn0.step)⟩

/-! ### laws_szBox: function 100 -/
def laws_szBox.f (a0_0 : Int) (l0_1 : List Int) (l0_2 : List Int) (a0_3 : Bool) (a1 : Int) : Option (Int) := (laws_szIntS.f l0_1 a1).bind fun t102 => (if t102 < 0 then (some (-1)) else ((laws_szIntS.f l0_2 t102).bind fun t103 => (if t103 < 0 then (some (-1)) else (some t103))))
set_option maxHeartbeats 8000000 in
set_option maxRecDepth 100000 in
theorem laws_szBox.calls (a0_0 : Int) (A0_1 : Option Addr) (c0_1 : Nat) (l0_1 : List Int) (A0_2 : Option Addr) (c0_2 : Nat) (l0_2 : List Int) (a0_3 : Bool) (a1 : Int) (r : Int) (w : World) (hr0_1 : Kd.C (Kd.int .i64) w A0_1 l0_1.length l0_1) (hc0_1 : l0_1.length ≤ c0_1) (hr0_2 : Kd.C (Kd.int .i64) w A0_2 l0_2.length l0_2) (hc0_2 : l0_2.length ≤ c0_2) (h : laws_szBox.f a0_0 l0_1 l0_2 a0_3 a1 = some r) :
    Calls Try.prog 100 #[.agg #[.int .i64 a0_0, .slice A0_1 l0_1.length c0_1, .slice A0_2 l0_2.length c0_2, .bool a0_3], .int .i64 a1] w fun e w' => e = .returned (.int .i64 r) ∧ Below w.heap.size w w' := by
  have hu117 := Try.underlying117
  have HR0_1 := Aside0.mk hr0_1
  have HC0_1 := Aside0.mk hc0_1
  clear hr0_1 hc0_1
  have HR0_2 := Aside0.mk hr0_2
  have HC0_2 := Aside0.mk hc0_2
  clear hr0_2 hc0_2
  have HB := Aside0.mk (Below.refl w.heap.size w)
  have H : ((laws_szIntS.f l0_1 a1).bind fun t102 => (if t102 < 0 then (some (-1)) else ((laws_szIntS.f l0_2 t102).bind fun t103 => (if t103 < 0 then (some (-1)) else (some t103))))) = some r := h
  clear h
  have HS_ := Aside0.mk H
  clear H
  go_enter Try.func100, Try.ntmps100
  go_upto_region 1 with (first | ((with_reducible refine gate_dst (N := 2) rfl ?_); refine box_event ?hg (N := 2) ?hd (cs := #[.int .i64 a0_0, .slice A0_1 l0_1.length c0_1, .slice A0_2 l0_2.length c0_2, .bool a0_3]) (t := 117) ?hr ?_; (case hd => rfl); (case hg => rfl); (case hr => first | (go_simp; done) | (go_simp; rfl)); intro gb101 hg w3 hbox hb; have n0_ := Aside0.mk (below_step (pb_ HB.out) hb); have n1_ := Aside0.mk (hbox); have n2_ := Aside0.mk ((by rw [hg]; exact (below_size (pb_ HB.out)) : w.heap.size ≤ gb101)); have n3_ := Aside0.mk ((by rw [hg]; exact (below_size (pb_ HB.out)) : w.heap.size ≤ gb101)); clear HB; have HB := n0_; have BK101 := n1_; have GW101 := n2_; have GE101 := n3_; clear n0_ n1_ n2_ n3_; clear hb hbox hg))
  (try simp only [Act.put, List.setIfInBounds_toArray, List.set_cons_zero, List.set_cons_succ])
  have H := HS_.out
  clear HS_
  replace H := Option.bind_eq_some_iff.mp H
  obtain ⟨t102, A40, H⟩ := H
  (try dsimp only at H)
  have A4 := Aside0.mk A40
  clear A40
  have HS_ := Aside0.mk H
  clear H
  have hcz5 := bc4_ BK101.out
  go_upto_if 10 with (first | ((with_reducible refine gate_callee (f := 12) rfl ?_); refine gl_ (some 8) Try.func12 #[.slice A0_1 l0_1.length c0_1, .int .i64 a1] ?_; (with_reducible refine (laws_szIntS.calls _ _ l0_1 a1 t102 _ ?side1 ?side2 A4.out).mono ?_); (case side1 => exact cb_ HR0_1 HB); (case side2 => exact HC0_1.out); rintro e w' ⟨rfl, ⟨nd, rfl⟩⟩; refine ⟨_, rfl, ?_⟩))
  (try simp only [Act.put, List.setIfInBounds_toArray, List.set_cons_zero, List.set_cons_succ])
  have H := HS_.out
  clear HS_
  by_cases c6 : t102 < 0
  · rw [if_pos c6] at H
    have c6b0 : decide (t102 < 0) = true := decide_eq_true c6
    clear c6
    (first | rw [c6b0] | (simp only [i64_w, i32_w]; rw [c6b0]) | skip)
    obtain rfl := Option.some.inj H
    go_wp2
    go_ret
    exact ⟨er_, pb1_ HB.out GE101.out⟩
  rw [if_neg c6] at H
  have c6b0 : decide (t102 < 0) = false := decide_eq_false c6
  clear c6
  (first | rw [c6b0] | (simp only [i64_w, i32_w]; rw [c6b0]) | skip)
  replace H := Option.bind_eq_some_iff.mp H
  obtain ⟨t103, A70, H⟩ := H
  replace H : (if t103 < 0 then (some (-1)) else (some t103)) = some r := H
  have A7 := Aside0.mk A70
  clear A70
  have HS_ := Aside0.mk H
  clear H
  have hcz8 := bc4_ BK101.out
  go_upto_if 16 with (first | ((with_reducible refine gate_callee (f := 12) rfl ?_); refine gl_ (some 14) Try.func12 #[.slice A0_2 l0_2.length c0_2, .int .i64 t102] ?_; (with_reducible refine (laws_szIntS.calls _ _ l0_2 t102 t103 _ ?side1 ?side2 A7.out).mono ?_); (case side1 => exact pc_ (Kd.C_below HR0_2.out (pb1_ HB.out GE101.out))); (case side2 => exact HC0_2.out); rintro e w' ⟨rfl, ⟨nd, rfl⟩⟩; refine ⟨_, rfl, ?_⟩))
  (try simp only [Act.put, List.setIfInBounds_toArray, List.set_cons_zero, List.set_cons_succ])
  have H := HS_.out
  clear HS_
  by_cases c9 : t103 < 0
  rotate_left
  · rw [if_neg c9] at H
    have c9b0 : decide (t103 < 0) = false := decide_eq_false c9
    clear c9
    (first | rw [c9b0] | (simp only [i64_w, i32_w]; rw [c9b0]) | skip)
    obtain rfl := Option.some.inj H
    go_wp2
    go_ret
    exact ⟨er_, pb1_ HB.out GE101.out⟩
  rw [if_pos c9] at H
  have c9b0 : decide (t103 < 0) = true := decide_eq_true c9
  clear c9
  (first | rw [c9b0] | (simp only [i64_w, i32_w]; rw [c9b0]) | skip)
  obtain rfl := Option.some.inj H
  go_wp2
  go_ret
  exact ⟨er_, pb1_ HB.out GE101.out⟩

/-! ### laws_szBoxS: function 86 -/
def laws_szBoxS.l0 : Nat → List (S117) → Int → Int → Option (Int)
  | 0, _, _, _ => none
  | k + 1, x0, x1, x5 => if x5 < (x0.length : Int) then (if 0 ≤ x5 then ((laws_szBox.f ((rd_T117 x0 x5).f0) ((rd_T117 x0 x5).f1) ((rd_T117 x0 x5).f2) ((rd_T117 x0 x5).f3) x1).bind fun t105 => (if t105 < 0 then (some (-1)) else (laws_szBoxS.l0 k x0 t105 (wrap64 (x5 + 1))))) else (none)) else (some x1)
def laws_szBoxS.f (k : Nat) (l0 : List (S117)) (a1 : Int) : Option (Int) := if (wrap64 (a1 - (l0.length : Int))) < 0 then (some (-1)) else (laws_szBoxS.l0 k l0 (wrap64 (a1 - (l0.length : Int))) 0)
theorem laws_szBoxS.mono_l : ∀ k, (∀ y0 y1 y2, LeO (laws_szBoxS.l0 k y0 y1 y2) (laws_szBoxS.l0 (k + 1) y0 y1 y2))
  | 0 => fun _ _ _ r h => by simp [laws_szBoxS.l0] at h
  | k + 1 => by
    have ih0 := laws_szBoxS.mono_l k
    · intro y0 y1 y2
      unfold laws_szBoxS.l0
      repeat' first
      | (with_reducible exact ih0 _ _ _)
      | (with_reducible exact LeO.refl _)
      | (with_reducible exact LeO.none _)
      | (with_reducible refine LeO.ite ?_ ?_)
      | (with_reducible refine LeO.bind ?_ (fun _ => ?_))
      | exact ih0 _ _ _
      | exact LeO.none _
      | refine LeO.ite ?_ ?_
      | refine LeO.bind ?_ (fun _ => ?_)
theorem laws_szBoxS.mono : ∀ a0 a1 k, LeO (laws_szBoxS.f k a0 a1) (laws_szBoxS.f (k + 1) a0 a1) := by
  intro a0 a1 k
  have ih0 := laws_szBoxS.mono_l k
  unfold laws_szBoxS.f
  repeat' first
      | (with_reducible exact ih0 _ _ _)
      | (with_reducible exact LeO.refl _)
      | (with_reducible exact LeO.none _)
      | (with_reducible refine LeO.ite ?_ ?_)
      | (with_reducible refine LeO.bind ?_ (fun _ => ?_))
      | exact ih0 _ _ _
      | exact LeO.none _
      | refine LeO.ite ?_ ?_
      | refine LeO.bind ?_ (fun _ => ?_)
set_option maxHeartbeats 8000000 in
set_option maxRecDepth 100000 in
theorem laws_szBoxS.calls (k : Nat) (A0 : Option Addr) (c0 : Nat) (l0 : List (S117)) (a1 : Int) (r : Int) (w : World) (hr0 : Kd.C k117 w A0 l0.length l0) (hc0 : l0.length ≤ c0) (h : laws_szBoxS.f k l0 a1 = some r) :
    Calls Try.prog 86 #[.slice A0 l0.length c0, .int .i64 a1] w fun e w' => e = .returned (.int .i64 r) ∧ Below w.heap.size w w' := by
  have hu117 := Try.underlying117
  have HR0 := Aside0.mk hr0
  have HC0 := Aside0.mk hc0
  clear hr0 hc0
  have HB := Aside0.mk (Below.refl w.heap.size w)
  have H : (if (wrap64 (a1 - (l0.length : Int))) < 0 then (some (-1)) else (laws_szBoxS.l0 k l0 (wrap64 (a1 - (l0.length : Int))) 0)) = some r := h
  clear h
  by_cases c3 : (wrap64 (a1 - (l0.length : Int))) < 0
  rotate_left
  · rw [if_neg c3] at H
    have c3b0 : decide ((wrap64 (a1 - (l0.length : Int))) < 0) = false := decide_eq_false c3
    clear c3
    have H' := Aside0.mk H
    clear H
    go_enter Try.func86, Try.ntmps86
    go_wp2
    go_loopg [1, 5] k (fun kq v1 v5 w' => ∃ (x1_1 : Int) (x5_1 : Int), v1 = .int .i64 x1_1 ∧ v5 = .int .i64 x5_1 ∧ Aside0 (laws_szBoxS.l0 kq l0 x1_1 x5_1 = some r) ∧ Aside0 (kq ≤ k) ∧ Aside0 (Below w.heap.size w w'))
    case atStart => exact ⟨(wrap64 (a1 - (l0.length : Int))), (0), el_, el_, H', ⟨Nat.le_refl _⟩, ⟨pb_ HB.out⟩⟩
    clear H'
    try clear p2
    try clear c3
    try clear c3b0
    obtain ⟨x1_1, x5_1, rfl, rfl, HA, HK1, HB⟩ := hrel
    rcases gk with _ | k1
    · exact absurd HA.out (by simp [laws_szBoxS.l0])
    have H := HA.out
    clear HA
    simp only [laws_szBoxS.l0] at H
    by_cases c4 : x5_1 < (l0.length : Int)
    rotate_left
    · rw [if_neg c4] at H
      have c4b0 : decide (x5_1 < (l0.length : Int)) = false := decide_eq_false c4
      clear c4
      obtain rfl := Option.some.inj H
      go_wp2
      go_ret
      exact ⟨er_, pb_ HB.out⟩
    rw [if_pos c4] at H
    have c4b0 : decide (x5_1 < (l0.length : Int)) = true := decide_eq_true c4
    clear c4
    by_cases c5 : 0 ≤ x5_1
    rotate_left
    · rw [if_neg c5] at H
      exact absurd H (by simp)
    rw [if_pos c5] at H
    have c5b0 : decide (0 ≤ x5_1) = true := decide_eq_true c5
    clear c5
    replace H := Option.bind_eq_some_iff.mp H
    obtain ⟨t105, A60, H⟩ := H
    (try dsimp only at H)
    have A6 := Aside0.mk A60
    clear A60
    have HS_ := Aside0.mk H
    clear H
    have p104 : 0 ≤ (x5_1 : Int) := dt_
    have q104 : x5_1 < (l0.length : Int) := dt_
    obtain ⟨ad104, A104_1, c104_1, A104_2, c104_2, e104, hx104_0, hx104_1, hx104_2, hx104_3, hl104_1, hi104_1, hl104_2, hi104_2⟩ := at_T117 HR0.out x5_1 p104 q104
    cases e104
    replace hx104_0 := bt_ HB hx104_0
    replace hx104_1 := bt_ HB hx104_1
    replace hx104_2 := bt_ HB hx104_2
    replace hx104_3 := bt_ HB hx104_3
    have HR104_1 := Aside0.mk hi104_1
    have HC104_1 := Aside0.mk hl104_1
    clear hi104_1 hl104_1
    have HR104_2 := Aside0.mk hi104_2
    have HC104_2 := Aside0.mk hl104_2
    clear hi104_2 hl104_2
    replace p104 := eq_true p104
    replace q104 := eq_true q104
    go_upto_if 25 with (first | ((with_reducible refine gate_callee (f := 100) rfl ?_); refine gl_ (some 23) Try.func100 #[.agg #[.int .i64 ((rd_T117 l0 x5_1).f0), .slice A104_1 ((rd_T117 l0 x5_1).f1).length c104_1, .slice A104_2 ((rd_T117 l0 x5_1).f2).length c104_2, .bool ((rd_T117 l0 x5_1).f3)], .int .i64 x1_1] ?_; (with_reducible refine (laws_szBox.calls ((rd_T117 l0 x5_1).f0) _ _ ((rd_T117 l0 x5_1).f1) _ _ ((rd_T117 l0 x5_1).f2) ((rd_T117 l0 x5_1).f3) x1_1 t105 _ ?side1 ?side2 ?side3 ?side4 A6.out).mono ?_); (case side1 => exact cb_ HR104_1 HB); (case side2 => exact HC104_1.out); (case side3 => exact cb_ HR104_2 HB); (case side4 => exact HC104_2.out); rintro e w7 ⟨rfl, hb⟩; refine ⟨_, rfl, ?_⟩; have _ := Aside0.mk (below_step (pb_ HB.out) hb); clear HB; rename_i HB; (try clear hb); (try clear hb2); (try clear hk); (try clear hi)))
    (try simp only [Act.put, List.setIfInBounds_toArray, List.set_cons_zero, List.set_cons_succ])
    have H := HS_.out
    clear HS_
    by_cases c8 : t105 < 0
    rotate_left
    · rw [if_neg c8] at H
      have c8b0 : decide (t105 < 0) = false := decide_eq_false c8
      clear c8
      (first | rw [c8b0] | (simp only [i64_w, i32_w]; rw [c8b0]) | skip)
      have H' := Aside0.mk H
      clear H
      go_wp2
      go_roundg k1
      case measure => have := HK1.out; omega
      case rel => exact ⟨(t105), (wrap64 (x5_1 + 1)), el_, el_, H', ⟨by have := HK1.out; omega⟩, ⟨pb_ HB.out⟩⟩
    rw [if_pos c8] at H
    have c8b0 : decide (t105 < 0) = true := decide_eq_true c8
    clear c8
    (first | rw [c8b0] | (simp only [i64_w, i32_w]; rw [c8b0]) | skip)
    obtain rfl := Option.some.inj H
    go_wp2
    go_ret
    exact ⟨er_, pb_ HB.out⟩
  rw [if_pos c3] at H
  have c3b0 : decide ((wrap64 (a1 - (l0.length : Int))) < 0) = true := decide_eq_true c3
  clear c3
  obtain rfl := Option.some.inj H
  go_enter Try.func86, Try.ntmps86
  go_wp2
  go_ret
  exact ⟨er_, pb_ HB.out⟩

/-! ### laws_szEndpoint: function 58 -/
def laws_szEndpoint.f (k : Nat) (l0_0 : List Int) (l0_1 : List Int) (l0_2 : List (S117)) (a0_3 : Int) (a1 : Int) : Option (Int) := (laws_szIntS.f l0_0 a1).bind fun t107 => (if t107 < 0 then (some (-1)) else ((laws_szIntS.f l0_1 t107).bind fun t108 => (if t108 < 0 then (some (-1)) else ((laws_szBoxS.f k l0_2 t108).bind fun t109 => (if t109 < 0 then (some (-1)) else (some t109))))))
theorem laws_szEndpoint.mono : ∀ a0 a1 a2 a3 a4 k, LeO (laws_szEndpoint.f k a0 a1 a2 a3 a4) (laws_szEndpoint.f (k + 1) a0 a1 a2 a3 a4) := by
  intro a0 a1 a2 a3 a4 k
  unfold laws_szEndpoint.f
  repeat' first
      | (with_reducible exact laws_szBoxS.mono _ _ _)
      | (with_reducible exact LeO.refl _)
      | (with_reducible exact LeO.none _)
      | (with_reducible refine LeO.ite ?_ ?_)
      | (with_reducible refine LeO.bind ?_ (fun _ => ?_))
      | exact laws_szBoxS.mono _ _ _
      | exact LeO.none _
      | refine LeO.ite ?_ ?_
      | refine LeO.bind ?_ (fun _ => ?_)
set_option maxHeartbeats 8000000 in
set_option maxRecDepth 100000 in
theorem laws_szEndpoint.calls (k : Nat) (A0_0 : Option Addr) (c0_0 : Nat) (l0_0 : List Int) (A0_1 : Option Addr) (c0_1 : Nat) (l0_1 : List Int) (A0_2 : Option Addr) (c0_2 : Nat) (l0_2 : List (S117)) (a0_3 : Int) (a1 : Int) (r : Int) (w : World) (hr0_0 : Kd.C (Kd.int .i64) w A0_0 l0_0.length l0_0) (hc0_0 : l0_0.length ≤ c0_0) (hr0_1 : Kd.C (Kd.int .i64) w A0_1 l0_1.length l0_1) (hc0_1 : l0_1.length ≤ c0_1) (hr0_2 : Kd.C k117 w A0_2 l0_2.length l0_2) (hc0_2 : l0_2.length ≤ c0_2) (h : laws_szEndpoint.f k l0_0 l0_1 l0_2 a0_3 a1 = some r) :
    Calls Try.prog 58 #[.agg #[.slice A0_0 l0_0.length c0_0, .slice A0_1 l0_1.length c0_1, .slice A0_2 l0_2.length c0_2, .int .i64 a0_3], .int .i64 a1] w fun e w' => e = .returned (.int .i64 r) ∧ Below w.heap.size w w' := by
  have hu85 := Try.underlying85
  have HR0_0 := Aside0.mk hr0_0
  have HC0_0 := Aside0.mk hc0_0
  clear hr0_0 hc0_0
  have HR0_1 := Aside0.mk hr0_1
  have HC0_1 := Aside0.mk hc0_1
  clear hr0_1 hc0_1
  have HR0_2 := Aside0.mk hr0_2
  have HC0_2 := Aside0.mk hc0_2
  clear hr0_2 hc0_2
  have HB := Aside0.mk (Below.refl w.heap.size w)
  have H : ((laws_szIntS.f l0_0 a1).bind fun t107 => (if t107 < 0 then (some (-1)) else ((laws_szIntS.f l0_1 t107).bind fun t108 => (if t108 < 0 then (some (-1)) else ((laws_szBoxS.f k l0_2 t108).bind fun t109 => (if t109 < 0 then (some (-1)) else (some t109))))))) = some r := h
  clear h
  have HS_ := Aside0.mk H
  clear H
  go_enter Try.func58, Try.ntmps58
  go_upto_region 1 with (first | ((with_reducible refine gate_dst (N := 2) rfl ?_); refine box_event ?hg (N := 2) ?hd (cs := #[.slice A0_0 l0_0.length c0_0, .slice A0_1 l0_1.length c0_1, .slice A0_2 l0_2.length c0_2, .int .i64 a0_3]) (t := 85) ?hr ?_; (case hd => rfl); (case hg => rfl); (case hr => first | (go_simp; done) | (go_simp; rfl)); intro gb106 hg w3 hbox hb; have n0_ := Aside0.mk (below_step (pb_ HB.out) hb); have n1_ := Aside0.mk (hbox); have n2_ := Aside0.mk ((by rw [hg]; exact (below_size (pb_ HB.out)) : w.heap.size ≤ gb106)); have n3_ := Aside0.mk ((by rw [hg]; exact (below_size (pb_ HB.out)) : w.heap.size ≤ gb106)); clear HB; have HB := n0_; have BK106 := n1_; have GW106 := n2_; have GE106 := n3_; clear n0_ n1_ n2_ n3_; clear hb hbox hg))
  (try simp only [Act.put, List.setIfInBounds_toArray, List.set_cons_zero, List.set_cons_succ])
  have H := HS_.out
  clear HS_
  replace H := Option.bind_eq_some_iff.mp H
  obtain ⟨t107, A40, H⟩ := H
  (try dsimp only at H)
  have A4 := Aside0.mk A40
  clear A40
  have HS_ := Aside0.mk H
  clear H
  have hcz5 := bc4_ BK106.out
  go_upto_if 10 with (first | ((with_reducible refine gate_callee (f := 12) rfl ?_); refine gl_ (some 8) Try.func12 #[.slice A0_0 l0_0.length c0_0, .int .i64 a1] ?_; (with_reducible refine (laws_szIntS.calls _ _ l0_0 a1 t107 _ ?side1 ?side2 A4.out).mono ?_); (case side1 => exact cb_ HR0_0 HB); (case side2 => exact HC0_0.out); rintro e w' ⟨rfl, ⟨nd, rfl⟩⟩; refine ⟨_, rfl, ?_⟩))
  (try simp only [Act.put, List.setIfInBounds_toArray, List.set_cons_zero, List.set_cons_succ])
  have H := HS_.out
  clear HS_
  by_cases c6 : t107 < 0
  · rw [if_pos c6] at H
    have c6b0 : decide (t107 < 0) = true := decide_eq_true c6
    clear c6
    (first | rw [c6b0] | (simp only [i64_w, i32_w]; rw [c6b0]) | skip)
    obtain rfl := Option.some.inj H
    go_wp2
    go_ret
    exact ⟨er_, pb1_ HB.out GE106.out⟩
  rw [if_neg c6] at H
  have c6b0 : decide (t107 < 0) = false := decide_eq_false c6
  clear c6
  (first | rw [c6b0] | (simp only [i64_w, i32_w]; rw [c6b0]) | skip)
  replace H := Option.bind_eq_some_iff.mp H
  obtain ⟨t108, A70, H⟩ := H
  (try dsimp only at H)
  have A7 := Aside0.mk A70
  clear A70
  have HS_ := Aside0.mk H
  clear H
  have hcz8 := bc4_ BK106.out
  go_upto_if 16 with (first | ((with_reducible refine gate_callee (f := 12) rfl ?_); refine gl_ (some 14) Try.func12 #[.slice A0_1 l0_1.length c0_1, .int .i64 t107] ?_; (with_reducible refine (laws_szIntS.calls _ _ l0_1 t107 t108 _ ?side1 ?side2 A7.out).mono ?_); (case side1 => exact pc_ (Kd.C_below HR0_1.out (pb1_ HB.out GE106.out))); (case side2 => exact HC0_1.out); rintro e w' ⟨rfl, ⟨nd, rfl⟩⟩; refine ⟨_, rfl, ?_⟩))
  (try simp only [Act.put, List.setIfInBounds_toArray, List.set_cons_zero, List.set_cons_succ])
  have H := HS_.out
  clear HS_
  by_cases c9 : t108 < 0
  · rw [if_pos c9] at H
    have c9b0 : decide (t108 < 0) = true := decide_eq_true c9
    clear c9
    (first | rw [c9b0] | (simp only [i64_w, i32_w]; rw [c9b0]) | skip)
    obtain rfl := Option.some.inj H
    go_wp2
    go_ret
    exact ⟨er_, pb1_ HB.out GE106.out⟩
  rw [if_neg c9] at H
  have c9b0 : decide (t108 < 0) = false := decide_eq_false c9
  clear c9
  (first | rw [c9b0] | (simp only [i64_w, i32_w]; rw [c9b0]) | skip)
  replace H := Option.bind_eq_some_iff.mp H
  obtain ⟨t109, A100, H⟩ := H
  replace H : (if t109 < 0 then (some (-1)) else (some t109)) = some r := H
  have A10 := Aside0.mk A100
  clear A100
  have HS_ := Aside0.mk H
  clear H
  have hcz11 := bc4_ BK106.out
  go_upto_if 22 with (first | ((with_reducible refine gate_callee (f := 86) rfl ?_); refine gl_ (some 20) Try.func86 #[.slice A0_2 l0_2.length c0_2, .int .i64 t108] ?_; (with_reducible refine (laws_szBoxS.calls k _ _ l0_2 t108 t109 _ ?side1 ?side2 A10.out).mono ?_); (case side1 => exact pc_ (Kd.C_below HR0_2.out (pb1_ HB.out GE106.out))); (case side2 => exact HC0_2.out); rintro e w12 ⟨rfl, hb⟩; refine ⟨_, rfl, ?_⟩; have _ := Aside0.mk (bb_ BK106.out hb); have _ := Aside0.mk (below_step (pb1_ HB.out GE106.out) hb); clear BK106 HB; rename_i BK106 HB; (try clear hb); (try clear hb2); (try clear hk); (try clear hi)))
  (try simp only [Act.put, List.setIfInBounds_toArray, List.set_cons_zero, List.set_cons_succ])
  have H := HS_.out
  clear HS_
  by_cases c13 : t109 < 0
  rotate_left
  · rw [if_neg c13] at H
    have c13b0 : decide (t109 < 0) = false := decide_eq_false c13
    clear c13
    (first | rw [c13b0] | (simp only [i64_w, i32_w]; rw [c13b0]) | skip)
    obtain rfl := Option.some.inj H
    go_wp2
    go_ret
    exact ⟨er_, pb1_ HB.out GE106.out⟩
  rw [if_pos c13] at H
  have c13b0 : decide (t109 < 0) = true := decide_eq_true c13
  clear c13
  (first | rw [c13b0] | (simp only [i64_w, i32_w]; rw [c13b0]) | skip)
  obtain rfl := Option.some.inj H
  go_wp2
  go_ret
  exact ⟨er_, pb1_ HB.out GE106.out⟩

/-! ### laws_szEndpointS: function 13 -/
def laws_szEndpointS.l0 : Nat → List (S85) → Int → Int → Option (Int)
  | 0, _, _, _ => none
  | k + 1, x0, x1, x5 => if x5 < (x0.length : Int) then (if 0 ≤ x5 then ((laws_szEndpoint.f k ((rd_T85 x0 x5).f0) ((rd_T85 x0 x5).f1) ((rd_T85 x0 x5).f2) ((rd_T85 x0 x5).f3) x1).bind fun t111 => (if t111 < 0 then (some (-1)) else (laws_szEndpointS.l0 k x0 t111 (wrap64 (x5 + 1))))) else (none)) else (some x1)
def laws_szEndpointS.f (k : Nat) (l0 : List (S85)) (a1 : Int) : Option (Int) := if (wrap64 (a1 - (l0.length : Int))) < 0 then (some (-1)) else (laws_szEndpointS.l0 k l0 (wrap64 (a1 - (l0.length : Int))) 0)
theorem laws_szEndpointS.mono_l : ∀ k, (∀ y0 y1 y2, LeO (laws_szEndpointS.l0 k y0 y1 y2) (laws_szEndpointS.l0 (k + 1) y0 y1 y2))
  | 0 => fun _ _ _ r h => by simp [laws_szEndpointS.l0] at h
  | k + 1 => by
    have ih0 := laws_szEndpointS.mono_l k
    · intro y0 y1 y2
      unfold laws_szEndpointS.l0
      repeat' first
      | (with_reducible exact ih0 _ _ _)
      | (with_reducible exact laws_szEndpoint.mono _ _ _ _ _ _)
      | (with_reducible exact LeO.refl _)
      | (with_reducible exact LeO.none _)
      | (with_reducible refine LeO.ite ?_ ?_)
      | (with_reducible refine LeO.bind ?_ (fun _ => ?_))
      | exact ih0 _ _ _
      | exact laws_szEndpoint.mono _ _ _ _ _ _
      | exact LeO.none _
      | refine LeO.ite ?_ ?_
      | refine LeO.bind ?_ (fun _ => ?_)
theorem laws_szEndpointS.mono : ∀ a0 a1 k, LeO (laws_szEndpointS.f k a0 a1) (laws_szEndpointS.f (k + 1) a0 a1) := by
  intro a0 a1 k
  have ih0 := laws_szEndpointS.mono_l k
  unfold laws_szEndpointS.f
  repeat' first
      | (with_reducible exact ih0 _ _ _)
      | (with_reducible exact laws_szEndpoint.mono _ _ _ _ _ _)
      | (with_reducible exact LeO.refl _)
      | (with_reducible exact LeO.none _)
      | (with_reducible refine LeO.ite ?_ ?_)
      | (with_reducible refine LeO.bind ?_ (fun _ => ?_))
      | exact ih0 _ _ _
      | exact laws_szEndpoint.mono _ _ _ _ _ _
      | exact LeO.none _
      | refine LeO.ite ?_ ?_
      | refine LeO.bind ?_ (fun _ => ?_)
set_option maxHeartbeats 8000000 in
set_option maxRecDepth 100000 in
theorem laws_szEndpointS.calls (k : Nat) (A0 : Option Addr) (c0 : Nat) (l0 : List (S85)) (a1 : Int) (r : Int) (w : World) (hr0 : Kd.C k85 w A0 l0.length l0) (hc0 : l0.length ≤ c0) (h : laws_szEndpointS.f k l0 a1 = some r) :
    Calls Try.prog 13 #[.slice A0 l0.length c0, .int .i64 a1] w fun e w' => e = .returned (.int .i64 r) ∧ Below w.heap.size w w' := by
  have hu85 := Try.underlying85
  have HR0 := Aside0.mk hr0
  have HC0 := Aside0.mk hc0
  clear hr0 hc0
  have HB := Aside0.mk (Below.refl w.heap.size w)
  have H : (if (wrap64 (a1 - (l0.length : Int))) < 0 then (some (-1)) else (laws_szEndpointS.l0 k l0 (wrap64 (a1 - (l0.length : Int))) 0)) = some r := h
  clear h
  by_cases c3 : (wrap64 (a1 - (l0.length : Int))) < 0
  rotate_left
  · rw [if_neg c3] at H
    have c3b0 : decide ((wrap64 (a1 - (l0.length : Int))) < 0) = false := decide_eq_false c3
    clear c3
    have H' := Aside0.mk H
    clear H
    go_enter Try.func13, Try.ntmps13
    go_wp2
    go_loopg [1, 5] k (fun kq v1 v5 w' => ∃ (x1_1 : Int) (x5_1 : Int), v1 = .int .i64 x1_1 ∧ v5 = .int .i64 x5_1 ∧ Aside0 (laws_szEndpointS.l0 kq l0 x1_1 x5_1 = some r) ∧ Aside0 (kq ≤ k) ∧ Aside0 (Below w.heap.size w w'))
    case atStart => exact ⟨(wrap64 (a1 - (l0.length : Int))), (0), el_, el_, H', ⟨Nat.le_refl _⟩, ⟨pb_ HB.out⟩⟩
    clear H'
    try clear c1
    try clear p2
    try clear c3
    try clear c3b0
    obtain ⟨x1_1, x5_1, rfl, rfl, HA, HK1, HB⟩ := hrel
    rcases gk with _ | k1
    · exact absurd HA.out (by simp [laws_szEndpointS.l0])
    have H := HA.out
    clear HA
    simp only [laws_szEndpointS.l0] at H
    by_cases c4 : x5_1 < (l0.length : Int)
    rotate_left
    · rw [if_neg c4] at H
      have c4b0 : decide (x5_1 < (l0.length : Int)) = false := decide_eq_false c4
      clear c4
      obtain rfl := Option.some.inj H
      go_wp2
      go_ret
      exact ⟨er_, pb_ HB.out⟩
    rw [if_pos c4] at H
    have c4b0 : decide (x5_1 < (l0.length : Int)) = true := decide_eq_true c4
    clear c4
    by_cases c5 : 0 ≤ x5_1
    rotate_left
    · rw [if_neg c5] at H
      exact absurd H (by simp)
    rw [if_pos c5] at H
    have c5b0 : decide (0 ≤ x5_1) = true := decide_eq_true c5
    clear c5
    replace H := Option.bind_eq_some_iff.mp H
    obtain ⟨t111, A60, H⟩ := H
    (try dsimp only at H)
    have A6 := Aside0.mk A60
    clear A60
    have HS_ := Aside0.mk H
    clear H
    have p110 : 0 ≤ (x5_1 : Int) := dt_
    have q110 : x5_1 < (l0.length : Int) := dt_
    obtain ⟨ad110, A110_0, c110_0, A110_1, c110_1, A110_2, c110_2, e110, hx110_0, hx110_1, hx110_2, hx110_3, hl110_0, hi110_0, hl110_1, hi110_1, hl110_2, hi110_2⟩ := at_T85 HR0.out x5_1 p110 q110
    cases e110
    replace hx110_0 := bt_ HB hx110_0
    replace hx110_1 := bt_ HB hx110_1
    replace hx110_2 := bt_ HB hx110_2
    replace hx110_3 := bt_ HB hx110_3
    have HR110_0 := Aside0.mk hi110_0
    have HC110_0 := Aside0.mk hl110_0
    clear hi110_0 hl110_0
    have HR110_1 := Aside0.mk hi110_1
    have HC110_1 := Aside0.mk hl110_1
    clear hi110_1 hl110_1
    have HR110_2 := Aside0.mk hi110_2
    have HC110_2 := Aside0.mk hl110_2
    clear hi110_2 hl110_2
    replace p110 := eq_true p110
    replace q110 := eq_true q110
    go_upto_if 25 with (first | ((with_reducible refine gate_callee (f := 58) rfl ?_); refine gl_ (some 23) Try.func58 #[.agg #[.slice A110_0 ((rd_T85 l0 x5_1).f0).length c110_0, .slice A110_1 ((rd_T85 l0 x5_1).f1).length c110_1, .slice A110_2 ((rd_T85 l0 x5_1).f2).length c110_2, .int .i64 ((rd_T85 l0 x5_1).f3)], .int .i64 x1_1] ?_; (with_reducible refine (laws_szEndpoint.calls k1 _ _ ((rd_T85 l0 x5_1).f0) _ _ ((rd_T85 l0 x5_1).f1) _ _ ((rd_T85 l0 x5_1).f2) ((rd_T85 l0 x5_1).f3) x1_1 t111 _ ?side1 ?side2 ?side3 ?side4 ?side5 ?side6 A6.out).mono ?_); (case side1 => exact cb_ HR110_0 HB); (case side2 => exact HC110_0.out); (case side3 => exact cb_ HR110_1 HB); (case side4 => exact HC110_1.out); (case side5 => exact cb_ HR110_2 HB); (case side6 => exact HC110_2.out); rintro e w7 ⟨rfl, hb⟩; refine ⟨_, rfl, ?_⟩; have _ := Aside0.mk (below_step (pb_ HB.out) hb); clear HB; rename_i HB; (try clear hb); (try clear hb2); (try clear hk); (try clear hi)))
    (try simp only [Act.put, List.setIfInBounds_toArray, List.set_cons_zero, List.set_cons_succ])
    have H := HS_.out
    clear HS_
    by_cases c8 : t111 < 0
    rotate_left
    · rw [if_neg c8] at H
      have c8b0 : decide (t111 < 0) = false := decide_eq_false c8
      clear c8
      (first | rw [c8b0] | (simp only [i64_w, i32_w]; rw [c8b0]) | skip)
      have H' := Aside0.mk H
      clear H
      go_wp2
      go_roundg k1
      case measure => have := HK1.out; omega
      case rel => exact ⟨(t111), (wrap64 (x5_1 + 1)), el_, el_, H', ⟨by have := HK1.out; omega⟩, ⟨pb_ HB.out⟩⟩
    rw [if_pos c8] at H
    have c8b0 : decide (t111 < 0) = true := decide_eq_true c8
    clear c8
    (first | rw [c8b0] | (simp only [i64_w, i32_w]; rw [c8b0]) | skip)
    obtain rfl := Option.some.inj H
    go_wp2
    go_ret
    exact ⟨er_, pb_ HB.out⟩
  rw [if_pos c3] at H
  have c3b0 : decide ((wrap64 (a1 - (l0.length : Int))) < 0) = true := decide_eq_true c3
  clear c3
  obtain rfl := Option.some.inj H
  go_enter Try.func13, Try.ntmps13
  go_wp2
  go_ret
  exact ⟨er_, pb_ HB.out⟩

/-! ### laws_szRollout: function 14 -/
def laws_szRollout.f (a0_0 : Int) (l0_1 : List Int) (a0_2 : Int) (a0_3 : Bool) (a1 : Int) : Option (Int) := (laws_szIntS.f l0_1 a1).bind fun t113 => (if t113 < 0 then (some (-1)) else (some t113))
set_option maxHeartbeats 8000000 in
set_option maxRecDepth 100000 in
theorem laws_szRollout.calls (a0_0 : Int) (A0_1 : Option Addr) (c0_1 : Nat) (l0_1 : List Int) (a0_2 : Int) (a0_3 : Bool) (a1 : Int) (r : Int) (w : World) (hr0_1 : Kd.C (Kd.int .i64) w A0_1 l0_1.length l0_1) (hc0_1 : l0_1.length ≤ c0_1) (h : laws_szRollout.f a0_0 l0_1 a0_2 a0_3 a1 = some r) :
    Calls Try.prog 14 #[.agg #[.int .i64 a0_0, .slice A0_1 l0_1.length c0_1, .int .i64 a0_2, .bool a0_3], .int .i64 a1] w fun e w' => e = .returned (.int .i64 r) ∧ Below w.heap.size w w' := by
  have hu25 := Try.underlying25
  have HR0_1 := Aside0.mk hr0_1
  have HC0_1 := Aside0.mk hc0_1
  clear hr0_1 hc0_1
  have HB := Aside0.mk (Below.refl w.heap.size w)
  have H : ((laws_szIntS.f l0_1 a1).bind fun t113 => (if t113 < 0 then (some (-1)) else (some t113))) = some r := h
  clear h
  have HS_ := Aside0.mk H
  clear H
  go_enter Try.func14, Try.ntmps14
  go_upto_region 1 with (first | ((with_reducible refine gate_dst (N := 2) rfl ?_); refine box_event ?hg (N := 2) ?hd (cs := #[.int .i64 a0_0, .slice A0_1 l0_1.length c0_1, .int .i64 a0_2, .bool a0_3]) (t := 25) ?hr ?_; (case hd => rfl); (case hg => rfl); (case hr => first | (go_simp; done) | (go_simp; rfl)); intro gb112 hg w3 hbox hb; have n0_ := Aside0.mk (below_step (pb_ HB.out) hb); have n1_ := Aside0.mk (hbox); have n2_ := Aside0.mk ((by rw [hg]; exact (below_size (pb_ HB.out)) : w.heap.size ≤ gb112)); have n3_ := Aside0.mk ((by rw [hg]; exact (below_size (pb_ HB.out)) : w.heap.size ≤ gb112)); clear HB; have HB := n0_; have BK112 := n1_; have GW112 := n2_; have GE112 := n3_; clear n0_ n1_ n2_ n3_; clear hb hbox hg))
  (try simp only [Act.put, List.setIfInBounds_toArray, List.set_cons_zero, List.set_cons_succ])
  have H := HS_.out
  clear HS_
  replace H := Option.bind_eq_some_iff.mp H
  obtain ⟨t113, A40, H⟩ := H
  replace H : (if t113 < 0 then (some (-1)) else (some t113)) = some r := H
  have A4 := Aside0.mk A40
  clear A40
  have HS_ := Aside0.mk H
  clear H
  have hcz5 := bc4_ BK112.out
  go_upto_if 10 with (first | ((with_reducible refine gate_callee (f := 12) rfl ?_); refine gl_ (some 8) Try.func12 #[.slice A0_1 l0_1.length c0_1, .int .i64 a1] ?_; (with_reducible refine (laws_szIntS.calls _ _ l0_1 a1 t113 _ ?side1 ?side2 A4.out).mono ?_); (case side1 => exact cb_ HR0_1 HB); (case side2 => exact HC0_1.out); rintro e w' ⟨rfl, ⟨nd, rfl⟩⟩; refine ⟨_, rfl, ?_⟩))
  (try simp only [Act.put, List.setIfInBounds_toArray, List.set_cons_zero, List.set_cons_succ])
  have H := HS_.out
  clear HS_
  by_cases c6 : t113 < 0
  rotate_left
  · rw [if_neg c6] at H
    have c6b0 : decide (t113 < 0) = false := decide_eq_false c6
    clear c6
    (first | rw [c6b0] | (simp only [i64_w, i32_w]; rw [c6b0]) | skip)
    obtain rfl := Option.some.inj H
    go_wp2
    go_ret
    exact ⟨er_, pb1_ HB.out GE112.out⟩
  rw [if_pos c6] at H
  have c6b0 : decide (t113 < 0) = true := decide_eq_true c6
  clear c6
  (first | rw [c6b0] | (simp only [i64_w, i32_w]; rw [c6b0]) | skip)
  obtain rfl := Option.some.inj H
  go_wp2
  go_ret
  exact ⟨er_, pb1_ HB.out GE112.out⟩

/-! ### laws_szDeal: function 87 -/
def laws_szDeal.f (a0_0 : Bool) (a0_1 : Int) (l0_2 : List Int) (a1 : Int) : Option (Int) := (laws_szIntS.f l0_2 a1).bind fun t115 => (if t115 < 0 then (some (-1)) else (some t115))
set_option maxHeartbeats 8000000 in
set_option maxRecDepth 100000 in
theorem laws_szDeal.calls (a0_0 : Bool) (a0_1 : Int) (A0_2 : Option Addr) (c0_2 : Nat) (l0_2 : List Int) (a1 : Int) (r : Int) (w : World) (hr0_2 : Kd.C (Kd.int .i64) w A0_2 l0_2.length l0_2) (hc0_2 : l0_2.length ≤ c0_2) (h : laws_szDeal.f a0_0 a0_1 l0_2 a1 = some r) :
    Calls Try.prog 87 #[.agg #[.bool a0_0, .int .i64 a0_1, .slice A0_2 l0_2.length c0_2], .int .i64 a1] w fun e w' => e = .returned (.int .i64 r) ∧ Below w.heap.size w w' := by
  have hu87 := Try.underlying87
  have HR0_2 := Aside0.mk hr0_2
  have HC0_2 := Aside0.mk hc0_2
  clear hr0_2 hc0_2
  have HB := Aside0.mk (Below.refl w.heap.size w)
  have H : ((laws_szIntS.f l0_2 a1).bind fun t115 => (if t115 < 0 then (some (-1)) else (some t115))) = some r := h
  clear h
  have HS_ := Aside0.mk H
  clear H
  go_enter Try.func87, Try.ntmps87
  go_upto_region 1 with (first | ((with_reducible refine gate_dst (N := 2) rfl ?_); refine box_event ?hg (N := 2) ?hd (cs := #[.bool a0_0, .int .i64 a0_1, .slice A0_2 l0_2.length c0_2]) (t := 87) ?hr ?_; (case hd => rfl); (case hg => rfl); (case hr => first | (go_simp; done) | (go_simp; rfl)); intro gb114 hg w3 hbox hb; have n0_ := Aside0.mk (below_step (pb_ HB.out) hb); have n1_ := Aside0.mk (hbox); have n2_ := Aside0.mk ((by rw [hg]; exact (below_size (pb_ HB.out)) : w.heap.size ≤ gb114)); have n3_ := Aside0.mk ((by rw [hg]; exact (below_size (pb_ HB.out)) : w.heap.size ≤ gb114)); clear HB; have HB := n0_; have BK114 := n1_; have GW114 := n2_; have GE114 := n3_; clear n0_ n1_ n2_ n3_; clear hb hbox hg))
  (try simp only [Act.put, List.setIfInBounds_toArray, List.set_cons_zero, List.set_cons_succ])
  have H := HS_.out
  clear HS_
  replace H := Option.bind_eq_some_iff.mp H
  obtain ⟨t115, A40, H⟩ := H
  replace H : (if t115 < 0 then (some (-1)) else (some t115)) = some r := H
  have A4 := Aside0.mk A40
  clear A40
  have HS_ := Aside0.mk H
  clear H
  have hcz5 := bc3_ BK114.out
  go_upto_if 10 with (first | ((with_reducible refine gate_callee (f := 12) rfl ?_); refine gl_ (some 8) Try.func12 #[.slice A0_2 l0_2.length c0_2, .int .i64 a1] ?_; (with_reducible refine (laws_szIntS.calls _ _ l0_2 a1 t115 _ ?side1 ?side2 A4.out).mono ?_); (case side1 => exact cb_ HR0_2 HB); (case side2 => exact HC0_2.out); rintro e w' ⟨rfl, ⟨nd, rfl⟩⟩; refine ⟨_, rfl, ?_⟩))
  (try simp only [Act.put, List.setIfInBounds_toArray, List.set_cons_zero, List.set_cons_succ])
  have H := HS_.out
  clear HS_
  by_cases c6 : t115 < 0
  rotate_left
  · rw [if_neg c6] at H
    have c6b0 : decide (t115 < 0) = false := decide_eq_false c6
    clear c6
    (first | rw [c6b0] | (simp only [i64_w, i32_w]; rw [c6b0]) | skip)
    obtain rfl := Option.some.inj H
    go_wp2
    go_ret
    exact ⟨er_, pb1_ HB.out GE114.out⟩
  rw [if_pos c6] at H
  have c6b0 : decide (t115 < 0) = true := decide_eq_true c6
  clear c6
  (first | rw [c6b0] | (simp only [i64_w, i32_w]; rw [c6b0]) | skip)
  obtain rfl := Option.some.inj H
  go_wp2
  go_ret
  exact ⟨er_, pb1_ HB.out GE114.out⟩

/-! ### laws_szDialed: function 59 -/
def laws_szDialed.f (a0_0 : Bool) (a0_1 : Int) (l0_2 : List Int) (a0_3 : Int) (l0_4 : List Int) (a1 : Int) : Option (Int) := (laws_szDeal.f a0_0 a0_1 l0_2 a1).bind fun t117 => (if t117 < 0 then (some (-1)) else ((laws_szIntS.f l0_4 t117).bind fun t118 => (if t118 < 0 then (some (-1)) else (some t118))))
set_option maxHeartbeats 8000000 in
set_option maxRecDepth 100000 in
theorem laws_szDialed.calls (a0_0 : Bool) (a0_1 : Int) (A0_2 : Option Addr) (c0_2 : Nat) (l0_2 : List Int) (a0_3 : Int) (A0_4 : Option Addr) (c0_4 : Nat) (l0_4 : List Int) (a1 : Int) (r : Int) (w : World) (hr0_2 : Kd.C (Kd.int .i64) w A0_2 l0_2.length l0_2) (hc0_2 : l0_2.length ≤ c0_2) (hr0_4 : Kd.C (Kd.int .i64) w A0_4 l0_4.length l0_4) (hc0_4 : l0_4.length ≤ c0_4) (h : laws_szDialed.f a0_0 a0_1 l0_2 a0_3 l0_4 a1 = some r) :
    Calls Try.prog 59 #[.agg #[.bool a0_0, .int .i64 a0_1, .slice A0_2 l0_2.length c0_2, .int .i64 a0_3, .slice A0_4 l0_4.length c0_4], .int .i64 a1] w fun e w' => e = .returned (.int .i64 r) ∧ Below w.heap.size w w' := by
  have hu89 := Try.underlying89
  have hu87 := Try.underlying87
  have HR0_2 := Aside0.mk hr0_2
  have HC0_2 := Aside0.mk hc0_2
  clear hr0_2 hc0_2
  have HR0_4 := Aside0.mk hr0_4
  have HC0_4 := Aside0.mk hc0_4
  clear hr0_4 hc0_4
  have HB := Aside0.mk (Below.refl w.heap.size w)
  have H : ((laws_szDeal.f a0_0 a0_1 l0_2 a1).bind fun t117 => (if t117 < 0 then (some (-1)) else ((laws_szIntS.f l0_4 t117).bind fun t118 => (if t118 < 0 then (some (-1)) else (some t118))))) = some r := h
  clear h
  have HS_ := Aside0.mk H
  clear H
  go_enter Try.func59, Try.ntmps59
  go_upto_region 1 with (first | ((with_reducible refine gate_dst (N := 2) rfl ?_); refine box_event ?hg (N := 2) ?hd (cs := #[.bool a0_0, .int .i64 a0_1, .slice A0_2 l0_2.length c0_2, .int .i64 a0_3, .slice A0_4 l0_4.length c0_4]) (t := 89) ?hr ?_; (case hd => rfl); (case hg => rfl); (case hr => first | (go_simp; done) | (go_simp; rfl)); intro gb116 hg w3 hbox hb; have n0_ := Aside0.mk (below_step (pb_ HB.out) hb); have n1_ := Aside0.mk (hbox); have n2_ := Aside0.mk ((by rw [hg]; exact (below_size (pb_ HB.out)) : w.heap.size ≤ gb116)); have n3_ := Aside0.mk ((by rw [hg]; exact (below_size (pb_ HB.out)) : w.heap.size ≤ gb116)); clear HB; have HB := n0_; have BK116 := n1_; have GW116 := n2_; have GE116 := n3_; clear n0_ n1_ n2_ n3_; clear hb hbox hg))
  (try simp only [Act.put, List.setIfInBounds_toArray, List.set_cons_zero, List.set_cons_succ])
  have H := HS_.out
  clear HS_
  replace H := Option.bind_eq_some_iff.mp H
  obtain ⟨t117, A40, H⟩ := H
  (try dsimp only at H)
  have A4 := Aside0.mk A40
  clear A40
  have HS_ := Aside0.mk H
  clear H
  have hcz5 := bc5_ BK116.out
  go_upto_if 10 with (first | ((with_reducible refine gate_callee (f := 87) rfl ?_); refine gl_ (some 8) Try.func87 #[.agg #[.bool a0_0, .int .i64 a0_1, .slice A0_2 l0_2.length c0_2], .int .i64 a1] ?_; (with_reducible refine (laws_szDeal.calls a0_0 a0_1 _ _ l0_2 a1 t117 _ ?side1 ?side2 A4.out).mono ?_); (case side1 => exact cb_ HR0_2 HB); (case side2 => exact HC0_2.out); rintro e w6 ⟨rfl, hb⟩; refine ⟨_, rfl, ?_⟩; have _ := Aside0.mk (bb_ BK116.out hb); have _ := Aside0.mk (below_step (pb1_ HB.out GE116.out) hb); clear BK116 HB; rename_i BK116 HB; (try clear hb); (try clear hb2); (try clear hk); (try clear hi)))
  (try simp only [Act.put, List.setIfInBounds_toArray, List.set_cons_zero, List.set_cons_succ])
  have H := HS_.out
  clear HS_
  by_cases c7 : t117 < 0
  · rw [if_pos c7] at H
    have c7b0 : decide (t117 < 0) = true := decide_eq_true c7
    clear c7
    (first | rw [c7b0] | (simp only [i64_w, i32_w]; rw [c7b0]) | skip)
    obtain rfl := Option.some.inj H
    go_wp2
    go_ret
    exact ⟨er_, pb1_ HB.out GE116.out⟩
  rw [if_neg c7] at H
  have c7b0 : decide (t117 < 0) = false := decide_eq_false c7
  clear c7
  (first | rw [c7b0] | (simp only [i64_w, i32_w]; rw [c7b0]) | skip)
  replace H := Option.bind_eq_some_iff.mp H
  obtain ⟨t118, A80, H⟩ := H
  replace H : (if t118 < 0 then (some (-1)) else (some t118)) = some r := H
  have A8 := Aside0.mk A80
  clear A80
  have HS_ := Aside0.mk H
  clear H
  have hcz9 := bc5_ BK116.out
  go_upto_if 16 with (first | ((with_reducible refine gate_callee (f := 12) rfl ?_); refine gl_ (some 14) Try.func12 #[.slice A0_4 l0_4.length c0_4, .int .i64 t117] ?_; (with_reducible refine (laws_szIntS.calls _ _ l0_4 t117 t118 _ ?side1 ?side2 A8.out).mono ?_); (case side1 => exact cb_ HR0_4 HB); (case side2 => exact HC0_4.out); rintro e w' ⟨rfl, ⟨nd, rfl⟩⟩; refine ⟨_, rfl, ?_⟩))
  (try simp only [Act.put, List.setIfInBounds_toArray, List.set_cons_zero, List.set_cons_succ])
  have H := HS_.out
  clear HS_
  by_cases c10 : t118 < 0
  rotate_left
  · rw [if_neg c10] at H
    have c10b0 : decide (t118 < 0) = false := decide_eq_false c10
    clear c10
    (first | rw [c10b0] | (simp only [i64_w, i32_w]; rw [c10b0]) | skip)
    obtain rfl := Option.some.inj H
    go_wp2
    go_ret
    exact ⟨er_, pb1_ HB.out GE116.out⟩
  rw [if_pos c10] at H
  have c10b0 : decide (t118 < 0) = true := decide_eq_true c10
  clear c10
  (first | rw [c10b0] | (simp only [i64_w, i32_w]; rw [c10b0]) | skip)
  obtain rfl := Option.some.inj H
  go_wp2
  go_ret
  exact ⟨er_, pb1_ HB.out GE116.out⟩

/-! ### laws_szDialedS: function 15 -/
def laws_szDialedS.l0 : Nat → List (S89) → Int → Int → Option (Int)
  | 0, _, _, _ => none
  | k + 1, x0, x1, x5 => if x5 < (x0.length : Int) then (if 0 ≤ x5 then ((laws_szDialed.f ((rd_T89 x0 x5).f0.f0) ((rd_T89 x0 x5).f0.f1) ((rd_T89 x0 x5).f0.f2) ((rd_T89 x0 x5).f1) ((rd_T89 x0 x5).f2) x1).bind fun t120 => (if t120 < 0 then (some (-1)) else (laws_szDialedS.l0 k x0 t120 (wrap64 (x5 + 1))))) else (none)) else (some x1)
def laws_szDialedS.f (k : Nat) (l0 : List (S89)) (a1 : Int) : Option (Int) := if (wrap64 (a1 - (l0.length : Int))) < 0 then (some (-1)) else (laws_szDialedS.l0 k l0 (wrap64 (a1 - (l0.length : Int))) 0)
theorem laws_szDialedS.mono_l : ∀ k, (∀ y0 y1 y2, LeO (laws_szDialedS.l0 k y0 y1 y2) (laws_szDialedS.l0 (k + 1) y0 y1 y2))
  | 0 => fun _ _ _ r h => by simp [laws_szDialedS.l0] at h
  | k + 1 => by
    have ih0 := laws_szDialedS.mono_l k
    · intro y0 y1 y2
      unfold laws_szDialedS.l0
      repeat' first
      | (with_reducible exact ih0 _ _ _)
      | (with_reducible exact LeO.refl _)
      | (with_reducible exact LeO.none _)
      | (with_reducible refine LeO.ite ?_ ?_)
      | (with_reducible refine LeO.bind ?_ (fun _ => ?_))
      | exact ih0 _ _ _
      | exact LeO.none _
      | refine LeO.ite ?_ ?_
      | refine LeO.bind ?_ (fun _ => ?_)
theorem laws_szDialedS.mono : ∀ a0 a1 k, LeO (laws_szDialedS.f k a0 a1) (laws_szDialedS.f (k + 1) a0 a1) := by
  intro a0 a1 k
  have ih0 := laws_szDialedS.mono_l k
  unfold laws_szDialedS.f
  repeat' first
      | (with_reducible exact ih0 _ _ _)
      | (with_reducible exact LeO.refl _)
      | (with_reducible exact LeO.none _)
      | (with_reducible refine LeO.ite ?_ ?_)
      | (with_reducible refine LeO.bind ?_ (fun _ => ?_))
      | exact ih0 _ _ _
      | exact LeO.none _
      | refine LeO.ite ?_ ?_
      | refine LeO.bind ?_ (fun _ => ?_)
set_option maxHeartbeats 8000000 in
set_option maxRecDepth 100000 in
theorem laws_szDialedS.calls (k : Nat) (A0 : Option Addr) (c0 : Nat) (l0 : List (S89)) (a1 : Int) (r : Int) (w : World) (hr0 : Kd.C k89 w A0 l0.length l0) (hc0 : l0.length ≤ c0) (h : laws_szDialedS.f k l0 a1 = some r) :
    Calls Try.prog 15 #[.slice A0 l0.length c0, .int .i64 a1] w fun e w' => e = .returned (.int .i64 r) ∧ Below w.heap.size w w' := by
  have hu89 := Try.underlying89
  have HR0 := Aside0.mk hr0
  have HC0 := Aside0.mk hc0
  clear hr0 hc0
  have HB := Aside0.mk (Below.refl w.heap.size w)
  have H : (if (wrap64 (a1 - (l0.length : Int))) < 0 then (some (-1)) else (laws_szDialedS.l0 k l0 (wrap64 (a1 - (l0.length : Int))) 0)) = some r := h
  clear h
  by_cases c3 : (wrap64 (a1 - (l0.length : Int))) < 0
  rotate_left
  · rw [if_neg c3] at H
    have c3b0 : decide ((wrap64 (a1 - (l0.length : Int))) < 0) = false := decide_eq_false c3
    clear c3
    have H' := Aside0.mk H
    clear H
    go_enter Try.func15, Try.ntmps15
    go_wp2
    go_loopg [1, 5] k (fun kq v1 v5 w' => ∃ (x1_1 : Int) (x5_1 : Int), v1 = .int .i64 x1_1 ∧ v5 = .int .i64 x5_1 ∧ Aside0 (laws_szDialedS.l0 kq l0 x1_1 x5_1 = some r) ∧ Aside0 (kq ≤ k) ∧ Aside0 (Below w.heap.size w w'))
    case atStart => exact ⟨(wrap64 (a1 - (l0.length : Int))), (0), el_, el_, H', ⟨Nat.le_refl _⟩, ⟨pb_ HB.out⟩⟩
    clear H'
    try clear c1
    try clear p2
    try clear c3
    try clear c3b0
    obtain ⟨x1_1, x5_1, rfl, rfl, HA, HK1, HB⟩ := hrel
    rcases gk with _ | k1
    · exact absurd HA.out (by simp [laws_szDialedS.l0])
    have H := HA.out
    clear HA
    simp only [laws_szDialedS.l0] at H
    by_cases c4 : x5_1 < (l0.length : Int)
    rotate_left
    · rw [if_neg c4] at H
      have c4b0 : decide (x5_1 < (l0.length : Int)) = false := decide_eq_false c4
      clear c4
      obtain rfl := Option.some.inj H
      go_wp2
      go_ret
      exact ⟨er_, pb_ HB.out⟩
    rw [if_pos c4] at H
    have c4b0 : decide (x5_1 < (l0.length : Int)) = true := decide_eq_true c4
    clear c4
    by_cases c5 : 0 ≤ x5_1
    rotate_left
    · rw [if_neg c5] at H
      exact absurd H (by simp)
    rw [if_pos c5] at H
    have c5b0 : decide (0 ≤ x5_1) = true := decide_eq_true c5
    clear c5
    replace H := Option.bind_eq_some_iff.mp H
    obtain ⟨t120, A60, H⟩ := H
    (try dsimp only at H)
    have A6 := Aside0.mk A60
    clear A60
    have HS_ := Aside0.mk H
    clear H
    have p119 : 0 ≤ (x5_1 : Int) := dt_
    have q119 : x5_1 < (l0.length : Int) := dt_
    obtain ⟨ad119, A119_2, c119_2, A119_4, c119_4, e119, hx119_0, hx119_1, hx119_2, hx119_3, hx119_4, hl119_2, hi119_2, hl119_4, hi119_4⟩ := at_T89 HR0.out x5_1 p119 q119
    cases e119
    replace hx119_0 := bt_ HB hx119_0
    replace hx119_1 := bt_ HB hx119_1
    replace hx119_2 := bt_ HB hx119_2
    replace hx119_3 := bt_ HB hx119_3
    replace hx119_4 := bt_ HB hx119_4
    have HR119_2 := Aside0.mk hi119_2
    have HC119_2 := Aside0.mk hl119_2
    clear hi119_2 hl119_2
    have HR119_4 := Aside0.mk hi119_4
    have HC119_4 := Aside0.mk hl119_4
    clear hi119_4 hl119_4
    replace p119 := eq_true p119
    replace q119 := eq_true q119
    go_upto_if 25 with (first | ((with_reducible refine gate_callee (f := 59) rfl ?_); refine gl_ (some 23) Try.func59 #[.agg #[.bool ((rd_T89 l0 x5_1).f0.f0), .int .i64 ((rd_T89 l0 x5_1).f0.f1), .slice A119_2 ((rd_T89 l0 x5_1).f0.f2).length c119_2, .int .i64 ((rd_T89 l0 x5_1).f1), .slice A119_4 ((rd_T89 l0 x5_1).f2).length c119_4], .int .i64 x1_1] ?_; (with_reducible refine (laws_szDialed.calls ((rd_T89 l0 x5_1).f0.f0) ((rd_T89 l0 x5_1).f0.f1) _ _ ((rd_T89 l0 x5_1).f0.f2) ((rd_T89 l0 x5_1).f1) _ _ ((rd_T89 l0 x5_1).f2) x1_1 t120 _ ?side1 ?side2 ?side3 ?side4 A6.out).mono ?_); (case side1 => exact cb_ HR119_2 HB); (case side2 => exact HC119_2.out); (case side3 => exact cb_ HR119_4 HB); (case side4 => exact HC119_4.out); rintro e w7 ⟨rfl, hb⟩; refine ⟨_, rfl, ?_⟩; have _ := Aside0.mk (below_step (pb_ HB.out) hb); clear HB; rename_i HB; (try clear hb); (try clear hb2); (try clear hk); (try clear hi)))
    (try simp only [Act.put, List.setIfInBounds_toArray, List.set_cons_zero, List.set_cons_succ])
    have H := HS_.out
    clear HS_
    by_cases c8 : t120 < 0
    rotate_left
    · rw [if_neg c8] at H
      have c8b0 : decide (t120 < 0) = false := decide_eq_false c8
      clear c8
      (first | rw [c8b0] | (simp only [i64_w, i32_w]; rw [c8b0]) | skip)
      have H' := Aside0.mk H
      clear H
      go_wp2
      go_roundg k1
      case measure => have := HK1.out; omega
      case rel => exact ⟨(t120), (wrap64 (x5_1 + 1)), el_, el_, H', ⟨by have := HK1.out; omega⟩, ⟨pb_ HB.out⟩⟩
    rw [if_pos c8] at H
    have c8b0 : decide (t120 < 0) = true := decide_eq_true c8
    clear c8
    (first | rw [c8b0] | (simp only [i64_w, i32_w]; rw [c8b0]) | skip)
    obtain rfl := Option.some.inj H
    go_wp2
    go_ret
    exact ⟨er_, pb_ HB.out⟩
  rw [if_pos c3] at H
  have c3b0 : decide ((wrap64 (a1 - (l0.length : Int))) < 0) = true := decide_eq_true c3
  clear c3
  obtain rfl := Option.some.inj H
  go_enter Try.func15, Try.ntmps15
  go_wp2
  go_ret
  exact ⟨er_, pb_ HB.out⟩

/-! ### laws_szLogged: function 60 -/
def laws_szLogged.f (a0_0 : Int) (a0_1 : Int) (a0_2 : Bool) (a0_3 : Bool) (a0_4 : Int) (l0_5 : List Int) (a0_6 : Int) (l0_7 : List Int) (a1 : Int) : Option (Int) := (laws_szDialed.f a0_3 a0_4 l0_5 a0_6 l0_7 a1).bind fun t122 => (if t122 < 0 then (some (-1)) else (some t122))
set_option maxHeartbeats 8000000 in
set_option maxRecDepth 100000 in
theorem laws_szLogged.calls (a0_0 : Int) (a0_1 : Int) (a0_2 : Bool) (a0_3 : Bool) (a0_4 : Int) (A0_5 : Option Addr) (c0_5 : Nat) (l0_5 : List Int) (a0_6 : Int) (A0_7 : Option Addr) (c0_7 : Nat) (l0_7 : List Int) (a1 : Int) (r : Int) (w : World) (hr0_5 : Kd.C (Kd.int .i64) w A0_5 l0_5.length l0_5) (hc0_5 : l0_5.length ≤ c0_5) (hr0_7 : Kd.C (Kd.int .i64) w A0_7 l0_7.length l0_7) (hc0_7 : l0_7.length ≤ c0_7) (h : laws_szLogged.f a0_0 a0_1 a0_2 a0_3 a0_4 l0_5 a0_6 l0_7 a1 = some r) :
    Calls Try.prog 60 #[.agg #[.int .i64 a0_0, .int .i64 a0_1, .bool a0_2, .bool a0_3, .int .i64 a0_4, .slice A0_5 l0_5.length c0_5, .int .i64 a0_6, .slice A0_7 l0_7.length c0_7], .int .i64 a1] w fun e w' => e = .returned (.int .i64 r) ∧ Below w.heap.size w w' := by
  have hu92 := Try.underlying92
  have hu89 := Try.underlying89
  have HR0_5 := Aside0.mk hr0_5
  have HC0_5 := Aside0.mk hc0_5
  clear hr0_5 hc0_5
  have HR0_7 := Aside0.mk hr0_7
  have HC0_7 := Aside0.mk hc0_7
  clear hr0_7 hc0_7
  have HB := Aside0.mk (Below.refl w.heap.size w)
  have H : ((laws_szDialed.f a0_3 a0_4 l0_5 a0_6 l0_7 a1).bind fun t122 => (if t122 < 0 then (some (-1)) else (some t122))) = some r := h
  clear h
  have HS_ := Aside0.mk H
  clear H
  go_enter Try.func60, Try.ntmps60
  go_upto_region 1 with (first | ((with_reducible refine gate_dst (N := 2) rfl ?_); refine box_event ?hg (N := 2) ?hd (cs := #[.int .i64 a0_0, .int .i64 a0_1, .bool a0_2, .bool a0_3, .int .i64 a0_4, .slice A0_5 l0_5.length c0_5, .int .i64 a0_6, .slice A0_7 l0_7.length c0_7]) (t := 92) ?hr ?_; (case hd => rfl); (case hg => rfl); (case hr => first | (go_simp; done) | (go_simp; rfl)); intro gb121 hg w3 hbox hb; have n0_ := Aside0.mk (below_step (pb_ HB.out) hb); have n1_ := Aside0.mk (hbox); have n2_ := Aside0.mk ((by rw [hg]; exact (below_size (pb_ HB.out)) : w.heap.size ≤ gb121)); have n3_ := Aside0.mk ((by rw [hg]; exact (below_size (pb_ HB.out)) : w.heap.size ≤ gb121)); clear HB; have HB := n0_; have BK121 := n1_; have GW121 := n2_; have GE121 := n3_; clear n0_ n1_ n2_ n3_; clear hb hbox hg))
  (try simp only [Act.put, List.setIfInBounds_toArray, List.set_cons_zero, List.set_cons_succ])
  have H := HS_.out
  clear HS_
  replace H := Option.bind_eq_some_iff.mp H
  obtain ⟨t122, A40, H⟩ := H
  replace H : (if t122 < 0 then (some (-1)) else (some t122)) = some r := H
  have A4 := Aside0.mk A40
  clear A40
  have HS_ := Aside0.mk H
  clear H
  have hcz5 := bc8_ BK121.out
  go_upto_if 10 with (first | ((with_reducible refine gate_callee (f := 59) rfl ?_); refine gl_ (some 8) Try.func59 #[.agg #[.bool a0_3, .int .i64 a0_4, .slice A0_5 l0_5.length c0_5, .int .i64 a0_6, .slice A0_7 l0_7.length c0_7], .int .i64 a1] ?_; (with_reducible refine (laws_szDialed.calls a0_3 a0_4 _ _ l0_5 a0_6 _ _ l0_7 a1 t122 _ ?side1 ?side2 ?side3 ?side4 A4.out).mono ?_); (case side1 => exact cb_ HR0_5 HB); (case side2 => exact HC0_5.out); (case side3 => exact cb_ HR0_7 HB); (case side4 => exact HC0_7.out); rintro e w6 ⟨rfl, hb⟩; refine ⟨_, rfl, ?_⟩; have _ := Aside0.mk (bb_ BK121.out hb); have _ := Aside0.mk (below_step (pb1_ HB.out GE121.out) hb); clear BK121 HB; rename_i BK121 HB; (try clear hb); (try clear hb2); (try clear hk); (try clear hi)))
  (try simp only [Act.put, List.setIfInBounds_toArray, List.set_cons_zero, List.set_cons_succ])
  have H := HS_.out
  clear HS_
  by_cases c7 : t122 < 0
  rotate_left
  · rw [if_neg c7] at H
    have c7b0 : decide (t122 < 0) = false := decide_eq_false c7
    clear c7
    (first | rw [c7b0] | (simp only [i64_w, i32_w]; rw [c7b0]) | skip)
    obtain rfl := Option.some.inj H
    go_wp2
    go_ret
    exact ⟨er_, pb1_ HB.out GE121.out⟩
  rw [if_pos c7] at H
  have c7b0 : decide (t122 < 0) = true := decide_eq_true c7
  clear c7
  (first | rw [c7b0] | (simp only [i64_w, i32_w]; rw [c7b0]) | skip)
  obtain rfl := Option.some.inj H
  go_wp2
  go_ret
  exact ⟨er_, pb1_ HB.out GE121.out⟩

end Go.Proofs.Ytchnkakjjbfklaa.Print
