-- Written by a program of this session (printx.py) out of the translation; Lean checks it.
import Derived.Test.YtchnkakjjbfklaaPrint0
import Derived.Test.YtchnkakjjbfklaaPrint6
namespace Go.Proofs.Ytchnkakjjbfklaa.Print
open Go.RowKit Go.Proofs.YtchnkakjjbfklaaW.PrintWords Go.Proofs.YtchnkakjjbfklaaW.PrintLast Go.Proofs.YtchnkakjjbfklaaW.PrintMore Go.Proofs.Ytchnkakjjbfklaa.Short
attribute [local go_sem] max2_int min2_int max_two min_two max_three min_three max_four min_four   -- for this text's walks alone
set_option linter.unusedVariables false
set_option linter.unusedSimpArgs false

/-! ### spec_l9Byte: function 92 -/
def spec_l9Byte.l0 : Nat → List Int → Int → Option (Bool)
  | 0, _, _ => none
  | k + 1, x0, x3 => if x3 < (x0.length : Int) then (if 0 ≤ x3 then ((spec_l1In.f (rd x0 x3) 0 255).bind fun t328 => (if t328 = true then (spec_l9Byte.l0 k x0 (wrap64 (x3 + 1))) else (some false))) else (none)) else (some true)
def spec_l9Byte.f (k : Nat) (l0 : List Int) : Option (Bool) := spec_l9Byte.l0 k l0 0
theorem spec_l9Byte.mono_l : ∀ k, (∀ y0 y1, LeO (spec_l9Byte.l0 k y0 y1) (spec_l9Byte.l0 (k + 1) y0 y1))
  | 0 => fun _ _ r h => by simp [spec_l9Byte.l0] at h
  | k + 1 => by
    have ih0 := spec_l9Byte.mono_l k
    · intro y0 y1
      unfold spec_l9Byte.l0
      repeat' first
      | (with_reducible exact ih0 _ _)
      | (with_reducible exact LeO.refl _)
      | (with_reducible exact LeO.none _)
      | (with_reducible refine LeO.ite ?_ ?_)
      | (with_reducible refine LeO.bind ?_ (fun _ => ?_))
      | exact ih0 _ _
      | exact LeO.none _
      | refine LeO.ite ?_ ?_
      | refine LeO.bind ?_ (fun _ => ?_)
theorem spec_l9Byte.mono : ∀ a0 k, LeO (spec_l9Byte.f k a0) (spec_l9Byte.f (k + 1) a0) := by
  intro a0 k
  have ih0 := spec_l9Byte.mono_l k
  unfold spec_l9Byte.f
  repeat' first
      | (with_reducible exact ih0 _ _)
      | (with_reducible exact LeO.refl _)
      | (with_reducible exact LeO.none _)
      | (with_reducible refine LeO.ite ?_ ?_)
      | (with_reducible refine LeO.bind ?_ (fun _ => ?_))
      | exact ih0 _ _
      | exact LeO.none _
      | refine LeO.ite ?_ ?_
      | refine LeO.bind ?_ (fun _ => ?_)
set_option maxHeartbeats 8000000 in
set_option maxRecDepth 100000 in
theorem spec_l9Byte.calls (k : Nat) (A0 : Option Addr) (c0 : Nat) (l0 : List Int) (r : Bool) (w : World) (hr0 : Kd.C (Kd.int .i64) w A0 l0.length l0) (hc0 : l0.length ≤ c0) (h : spec_l9Byte.f k l0 = some r) :
    Calls Try.prog 92 #[.slice A0 l0.length c0] w fun e w' => e = .returned (.bool r) ∧ Drawn0 w w' := by
  have HR0 := Aside0.mk hr0
  have HC0 := Aside0.mk hc0
  clear hr0 hc0
  have H : (spec_l9Byte.l0 k l0 0) = some r := h
  clear h
  have H' := Aside0.mk H
  clear H
  go_enter Try.func92, Try.ntmps92
  go_wp2
  go_loopg [3] k (fun kq v3 w' => ∃ (x3_1 : Int), v3 = .int .i64 x3_1 ∧ Aside0 (spec_l9Byte.l0 kq l0 x3_1 = some r) ∧ Aside0 (kq ≤ k) ∧ Drawn0 w w')
  case atStart => exact ⟨(0), el_, H', ⟨Nat.le_refl _⟩, by repeat (first | exact Drawn0.refl _ | apply Drawn0.step)⟩
  clear H'
  obtain ⟨x3_1, rfl, HA, HK1, ⟨m1, rfl⟩⟩ := hrel
  rcases gk with _ | k1
  · exact absurd HA.out (by simp [spec_l9Byte.l0])
  have H := HA.out
  clear HA
  simp only [spec_l9Byte.l0] at H
  by_cases c2 : x3_1 < (l0.length : Int)
  rotate_left
  · rw [if_neg c2] at H
    have c2b0 : decide (x3_1 < (l0.length : Int)) = false := decide_eq_false c2
    clear c2
    obtain rfl := Option.some.inj H
    go_wp2
    go_ret
    exact ⟨by first | rfl | (simp; done) | (simp [*]; done), by repeat (first | exact Drawn0.refl _ | apply Drawn0.step)⟩
  rw [if_pos c2] at H
  have c2b0 : decide (x3_1 < (l0.length : Int)) = true := decide_eq_true c2
  clear c2
  by_cases c3 : 0 ≤ x3_1
  rotate_left
  · rw [if_neg c3] at H
    exact absurd H (by simp)
  rw [if_pos c3] at H
  have c3b0 : decide (0 ≤ x3_1) = true := decide_eq_true c3
  clear c3
  replace H := Option.bind_eq_some_iff.mp H
  obtain ⟨t328, A40, H⟩ := H
  (try dsimp only at H)
  have A4 := Aside0.mk A40
  clear A40
  have HS_ := Aside0.mk H
  clear H
  have p327 : 0 ≤ (x3_1 : Int) := dt_
  have q327 : x3_1 < (l0.length : Int) := dt_
  obtain ⟨ad327, e327, hx327_0⟩ := Kd.at_int HR0.out x3_1 p327 q327
  cases e327
  replace p327 := eq_true p327
  replace q327 := eq_true q327
  go_upto_if 15 with (first | ((with_reducible refine gate_callee (f := 47) rfl ?_); refine gl_ (some 14) Try.func47 #[.int .i64 (rd l0 x3_1), .int .i64 0, .int .i64 255] ?_; (with_reducible refine (spec_l1In.calls (rd l0 x3_1) 0 255 t328 _ A4.out).mono ?_); rintro e w' ⟨rfl, ⟨nd, rfl⟩⟩; refine ⟨_, rfl, ?_⟩))
  (try simp only [Act.put, List.setIfInBounds_toArray, List.set_cons_zero, List.set_cons_succ])
  have H := HS_.out
  clear HS_
  by_cases c5 : t328 = true
  rotate_left
  · replace c5 := Bool.eq_false_iff.mpr c5
    subst c5
    rw [if_neg (show ¬ (false = true) by decide)] at H
    obtain rfl := Option.some.inj H
    go_wp2
    go_ret
    exact ⟨by first | rfl | (simp; done) | (simp [*]; done), by repeat (first | exact Drawn0.refl _ | apply Drawn0.step)⟩
  subst c5
  rw [if_pos rfl] at H
  have H' := Aside0.mk H
  clear H
  go_wp2
  go_roundg k1
  case measure => have := HK1.out; omega
  case rel => exact ⟨(wrap64 (x3_1 + 1)), el_, H', ⟨by have := HK1.out; omega⟩, by repeat (first | exact Drawn0.refl _ | apply Drawn0.step)⟩

/-! ### spec_IsBox: function 73 -/
def spec_IsBox.f (k : Nat) (a0_0 : Int) (l0_1 : List Int) (l0_2 : List Int) (a0_3 : Bool) : Option (Bool) := (spec_l1In.f a0_0 0 9).bind fun t330 => (if t330 = true then (if (l0_1.length : Int) ≤ 6 then (if (l0_2.length : Int) ≤ 6 then ((spec_l9Byte.f k l0_1).bind fun t331 => (if t331 = true then ((spec_l9Byte.f k l0_2).bind fun t332 => (some t332)) else (some false))) else (some false)) else (some false)) else (some false))
theorem spec_IsBox.mono : ∀ a0 a1 a2 a3 k, LeO (spec_IsBox.f k a0 a1 a2 a3) (spec_IsBox.f (k + 1) a0 a1 a2 a3) := by
  intro a0 a1 a2 a3 k
  unfold spec_IsBox.f
  repeat' first
      | (with_reducible exact spec_l9Byte.mono _ _)
      | (with_reducible exact LeO.refl _)
      | (with_reducible exact LeO.none _)
      | (with_reducible refine LeO.ite ?_ ?_)
      | (with_reducible refine LeO.bind ?_ (fun _ => ?_))
      | exact spec_l9Byte.mono _ _
      | exact LeO.none _
      | refine LeO.ite ?_ ?_
      | refine LeO.bind ?_ (fun _ => ?_)
set_option maxHeartbeats 8000000 in
set_option maxRecDepth 100000 in
theorem spec_IsBox.calls (k : Nat) (a0_0 : Int) (A0_1 : Option Addr) (c0_1 : Nat) (l0_1 : List Int) (A0_2 : Option Addr) (c0_2 : Nat) (l0_2 : List Int) (a0_3 : Bool) (r : Bool) (w : World) (hr0_1 : Kd.C (Kd.int .i64) w A0_1 l0_1.length l0_1) (hc0_1 : l0_1.length ≤ c0_1) (hr0_2 : Kd.C (Kd.int .i64) w A0_2 l0_2.length l0_2) (hc0_2 : l0_2.length ≤ c0_2) (h : spec_IsBox.f k a0_0 l0_1 l0_2 a0_3 = some r) :
    Calls Try.prog 73 #[.agg #[.int .i64 a0_0, .slice A0_1 l0_1.length c0_1, .slice A0_2 l0_2.length c0_2, .bool a0_3]] w fun e w' => e = .returned (.bool r) ∧ Below w.heap.size w w' := by
  have hu95 := Try.underlying95
  have HR0_1 := Aside0.mk hr0_1
  have HC0_1 := Aside0.mk hc0_1
  clear hr0_1 hc0_1
  have HR0_2 := Aside0.mk hr0_2
  have HC0_2 := Aside0.mk hc0_2
  clear hr0_2 hc0_2
  have HB := Aside0.mk (Below.refl w.heap.size w)
  have H : ((spec_l1In.f a0_0 0 9).bind fun t330 => (if t330 = true then (if (l0_1.length : Int) ≤ 6 then (if (l0_2.length : Int) ≤ 6 then ((spec_l9Byte.f k l0_1).bind fun t331 => (if t331 = true then ((spec_l9Byte.f k l0_2).bind fun t332 => (some t332)) else (some false))) else (some false)) else (some false)) else (some false))) = some r := h
  clear h
  have HS_ := Aside0.mk H
  clear H
  go_enter Try.func73, Try.ntmps73
  go_upto_region 1 with (first | ((with_reducible refine gate_dst (N := 1) rfl ?_); (try (refine gate_guard (by rfl) ?_; dsimp only)); refine box_event ?hg (N := 1) ?hd (cs := #[.int .i64 a0_0, .slice A0_1 l0_1.length c0_1, .slice A0_2 l0_2.length c0_2, .bool a0_3]) (t := 95) ?hr ?_; (case hd => rfl); (case hg => rfl); (case hr => first | (go_simp; done) | (go_simp; rfl)); intro gb329 hg w2 hbox hb; have n0_ := Aside0.mk (below_step (pb_ HB.out) hb); have n1_ := Aside0.mk (hbox); have n2_ := Aside0.mk ((by rw [hg]; exact (below_size (pb_ HB.out)) : w.heap.size ≤ gb329)); have n3_ := Aside0.mk ((by rw [hg]; exact (below_size (pb_ HB.out)) : w.heap.size ≤ gb329)); clear HB; have HB := n0_; have BK329 := n1_; have GW329 := n2_; have GE329 := n3_; clear n0_ n1_ n2_ n3_; clear hb hbox hg))
  (try simp only [Act.put, List.setIfInBounds_toArray, List.set_cons_zero, List.set_cons_succ])
  have H := HS_.out
  clear HS_
  replace H := Option.bind_eq_some_iff.mp H
  obtain ⟨t330, A30, H⟩ := H
  (try dsimp only at H)
  have A3 := Aside0.mk A30
  clear A30
  by_cases c4 : t330 = true
  rotate_left
  · replace c4 := Bool.eq_false_iff.mpr c4
    subst c4
    rw [if_neg (show ¬ (false = true) by decide)] at H
    obtain rfl := Option.some.inj H
    have hcz5 := bc4_ BK329.out
    go_wp2_with (first | ((with_reducible refine gate_callee (f := 47) rfl ?_); refine gl_ (some 5) Try.func47 #[.int .i64 a0_0, .int .i64 0, .int .i64 9] ?_; (with_reducible refine (spec_l1In.calls a0_0 0 9 false _ A3.out).mono ?_); rintro e w' ⟨rfl, ⟨nd, rfl⟩⟩; refine ⟨_, rfl, ?_⟩))
    go_ret
    exact ⟨er_, pb1_ HB.out GE329.out⟩
  subst c4
  rw [if_pos rfl] at H
  by_cases c6 : (l0_1.length : Int) ≤ 6
  rotate_left
  · rw [if_neg c6] at H
    have c6b0 : decide ((l0_1.length : Int) ≤ 6) = false := decide_eq_false c6
    have c6b1 : decide (l0_1.length ≤ 6) = false := decide_eq_false (by omega)
    clear c6
    (first | rw [c6b0] | (simp only [i64_w, i32_w]; rw [c6b0]) | rw [c6b1] | skip)
    obtain rfl := Option.some.inj H
    have hcz7 := bc4_ BK329.out
    go_wp2_with (first | ((with_reducible refine gate_callee (f := 47) rfl ?_); refine gl_ (some 5) Try.func47 #[.int .i64 a0_0, .int .i64 0, .int .i64 9] ?_; (with_reducible refine (spec_l1In.calls a0_0 0 9 true _ A3.out).mono ?_); rintro e w' ⟨rfl, ⟨nd, rfl⟩⟩; refine ⟨_, rfl, ?_⟩))
    go_ret
    exact ⟨er_, pb1_ HB.out GE329.out⟩
  rw [if_pos c6] at H
  have c6b0 : decide ((l0_1.length : Int) ≤ 6) = true := decide_eq_true c6
  have c6b1 : decide (l0_1.length ≤ 6) = true := decide_eq_true (by omega)
  clear c6
  (first | rw [c6b0] | (simp only [i64_w, i32_w]; rw [c6b0]) | rw [c6b1] | skip)
  by_cases c8 : (l0_2.length : Int) ≤ 6
  rotate_left
  · rw [if_neg c8] at H
    have c8b0 : decide ((l0_2.length : Int) ≤ 6) = false := decide_eq_false c8
    have c8b1 : decide (l0_2.length ≤ 6) = false := decide_eq_false (by omega)
    clear c8
    obtain rfl := Option.some.inj H
    have hcz9 := bc4_ BK329.out
    go_wp2_with (first | ((with_reducible refine gate_callee (f := 47) rfl ?_); refine gl_ (some 5) Try.func47 #[.int .i64 a0_0, .int .i64 0, .int .i64 9] ?_; (with_reducible refine (spec_l1In.calls a0_0 0 9 true _ A3.out).mono ?_); rintro e w' ⟨rfl, ⟨nd, rfl⟩⟩; refine ⟨_, rfl, ?_⟩))
    go_ret
    exact ⟨er_, pb1_ HB.out GE329.out⟩
  rw [if_pos c8] at H
  have c8b0 : decide ((l0_2.length : Int) ≤ 6) = true := decide_eq_true c8
  have c8b1 : decide (l0_2.length ≤ 6) = true := decide_eq_true (by omega)
  clear c8
  replace H := Option.bind_eq_some_iff.mp H
  obtain ⟨t331, A100, H⟩ := H
  (try dsimp only at H)
  have A10 := Aside0.mk A100
  clear A100
  by_cases c11 : t331 = true
  rotate_left
  · replace c11 := Bool.eq_false_iff.mpr c11
    subst c11
    rw [if_neg (show ¬ (false = true) by decide)] at H
    obtain rfl := Option.some.inj H
    have hcz12 := bc4_ BK329.out
    go_wp2_with (first | ((with_reducible refine gate_callee (f := 47) rfl ?_); refine gl_ (some 5) Try.func47 #[.int .i64 a0_0, .int .i64 0, .int .i64 9] ?_; (with_reducible refine (spec_l1In.calls a0_0 0 9 true _ A3.out).mono ?_); rintro e w' ⟨rfl, ⟨nd, rfl⟩⟩; refine ⟨_, rfl, ?_⟩) | (go_at_call 92; (with_reducible refine (spec_l9Byte.calls k _ _ l0_1 false _ ?side1 ?side2 A10.out).mono ?_); (case side1 => exact pc_ (Kd.C_below HR0_1.out (pb1_ HB.out GE329.out))); (case side2 => exact HC0_1.out); rintro e w' ⟨rfl, ⟨nd, rfl⟩⟩))
    go_ret
    exact ⟨er_, pb1_ HB.out GE329.out⟩
  subst c11
  rw [if_pos rfl] at H
  replace H := Option.bind_eq_some_iff.mp H
  obtain ⟨t332, A130, H⟩ := H
  replace H : (some t332) = some r := H
  have A13 := Aside0.mk A130
  clear A130
  obtain rfl := Option.some.inj H
  have hcz14 := bc4_ BK329.out
  go_wp2_with (first | ((with_reducible refine gate_callee (f := 47) rfl ?_); refine gl_ (some 5) Try.func47 #[.int .i64 a0_0, .int .i64 0, .int .i64 9] ?_; (with_reducible refine (spec_l1In.calls a0_0 0 9 true _ A3.out).mono ?_); rintro e w' ⟨rfl, ⟨nd, rfl⟩⟩; refine ⟨_, rfl, ?_⟩) | (go_at_call 92; (with_reducible refine (spec_l9Byte.calls k _ _ l0_1 true _ ?side1 ?side2 A10.out).mono ?_); (case side1 => exact pc_ (Kd.C_below HR0_1.out (pb1_ HB.out GE329.out))); (case side2 => exact HC0_1.out); rintro e w' ⟨rfl, ⟨nd, rfl⟩⟩) | (go_at_call 92; (with_reducible refine (spec_l9Byte.calls k _ _ l0_2 t332 _ ?side1 ?side2 A13.out).mono ?_); (case side1 => exact pc_ (Kd.C_below HR0_2.out (pb1_ HB.out GE329.out))); (case side2 => exact HC0_2.out); rintro e w' ⟨rfl, ⟨nd, rfl⟩⟩))
  go_ret
  exact ⟨er_, pb1_ HB.out GE329.out⟩

/-! ### spec_IsEndpoint: function 39 -/
mutual
def spec_IsEndpoint.l0 : Nat → Int → List Int → List Int → List (S95) → Int → Option (Bool)
  | 0, _, _, _, _, _ => none
  | k + 1, x3, x334000, x334001, x334002, x334003 => if x3 < (x334001.length : Int) then (if 0 ≤ x3 then ((spec_l1In.f (rd x334001 x3) 0 255).bind fun t335 => (if t335 = true then ((spec_IsReserved.f (rd x334001 x3)).bind fun t337 => (if t337 = true then (some false) else (if x3 > 0 then (if 0 ≤ (wrap64 (x3 - 1)) then (if (wrap64 (x3 - 1)) < (x334001.length : Int) then (if (rd x334001 (wrap64 (x3 - 1))) ≥ (rd x334001 x3) then (some false) else (spec_IsEndpoint.l0 k (wrap64 (x3 + 1)) x334000 x334001 x334002 x334003)) else (none)) else (none)) else (spec_IsEndpoint.l0 k (wrap64 (x3 + 1)) x334000 x334001 x334002 x334003)))) else (some false))) else (none)) else (spec_IsEndpoint.l1 k 0 x334000 x334001 x334002 x334003)
def spec_IsEndpoint.l1 : Nat → Int → List Int → List Int → List (S95) → Int → Option (Bool)
  | 0, _, _, _, _, _ => none
  | k + 1, x4, x334000, x334001, x334002, x334003 => if x4 < (x334002.length : Int) then (if 0 ≤ x4 then ((spec_IsBox.f k ((rd_T95 x334002 x4).f0) ((rd_T95 x334002 x4).f1) ((rd_T95 x334002 x4).f2) ((rd_T95 x334002 x4).f3)).bind fun t341 => (if t341 = true then (spec_IsEndpoint.l1 k (wrap64 (x4 + 1)) x334000 x334001 x334002 x334003) else (some false))) else (none)) else ((spec_AreVersions.f k x334000).bind fun t342 => (if t342 = true then (if (x334001.length : Int) ≤ 5 then (if (x334002.length : Int) ≤ 4 then ((spec_l1In.f x334003 0 5).bind fun t343 => (some t343)) else (some false)) else (some false)) else (some false)))
end
def spec_IsEndpoint.f (k : Nat) (l0_0 : List Int) (l0_1 : List Int) (l0_2 : List (S95)) (a0_3 : Int) : Option (Bool) := spec_IsEndpoint.l0 k 0 l0_0 l0_1 l0_2 a0_3
theorem spec_IsEndpoint.mono_l : ∀ k, (∀ y0 y1 y2 y3 y4, LeO (spec_IsEndpoint.l0 k y0 y1 y2 y3 y4) (spec_IsEndpoint.l0 (k + 1) y0 y1 y2 y3 y4)) ∧ (∀ y0 y1 y2 y3 y4, LeO (spec_IsEndpoint.l1 k y0 y1 y2 y3 y4) (spec_IsEndpoint.l1 (k + 1) y0 y1 y2 y3 y4))
  | 0 => ⟨fun _ _ _ _ _ r h => by simp [spec_IsEndpoint.l0] at h, fun _ _ _ _ _ r h => by simp [spec_IsEndpoint.l1] at h⟩
  | k + 1 => by
    obtain ⟨ih0, ih1⟩ := spec_IsEndpoint.mono_l k
    refine ⟨?_, ?_⟩
    · intro y0 y1 y2 y3 y4
      unfold spec_IsEndpoint.l0
      repeat' first
      | (with_reducible exact ih0 _ _ _ _ _)
      | (with_reducible exact ih1 _ _ _ _ _)
      | (with_reducible exact spec_AreVersions.mono _ _)
      | (with_reducible exact spec_IsBox.mono _ _ _ _ _)
      | (with_reducible exact LeO.refl _)
      | (with_reducible exact LeO.none _)
      | (with_reducible refine LeO.ite ?_ ?_)
      | (with_reducible refine LeO.bind ?_ (fun _ => ?_))
      | exact ih0 _ _ _ _ _
      | exact ih1 _ _ _ _ _
      | exact spec_AreVersions.mono _ _
      | exact spec_IsBox.mono _ _ _ _ _
      | exact LeO.none _
      | refine LeO.ite ?_ ?_
      | refine LeO.bind ?_ (fun _ => ?_)
    · intro y0 y1 y2 y3 y4
      unfold spec_IsEndpoint.l1
      repeat' first
      | (with_reducible exact ih0 _ _ _ _ _)
      | (with_reducible exact ih1 _ _ _ _ _)
      | (with_reducible exact spec_AreVersions.mono _ _)
      | (with_reducible exact spec_IsBox.mono _ _ _ _ _)
      | (with_reducible exact LeO.refl _)
      | (with_reducible exact LeO.none _)
      | (with_reducible refine LeO.ite ?_ ?_)
      | (with_reducible refine LeO.bind ?_ (fun _ => ?_))
      | exact ih0 _ _ _ _ _
      | exact ih1 _ _ _ _ _
      | exact spec_AreVersions.mono _ _
      | exact spec_IsBox.mono _ _ _ _ _
      | exact LeO.none _
      | refine LeO.ite ?_ ?_
      | refine LeO.bind ?_ (fun _ => ?_)
theorem spec_IsEndpoint.mono : ∀ a0 a1 a2 a3 k, LeO (spec_IsEndpoint.f k a0 a1 a2 a3) (spec_IsEndpoint.f (k + 1) a0 a1 a2 a3) := by
  intro a0 a1 a2 a3 k
  obtain ⟨ih0, ih1⟩ := spec_IsEndpoint.mono_l k
  unfold spec_IsEndpoint.f
  repeat' first
      | (with_reducible exact ih0 _ _ _ _ _)
      | (with_reducible exact ih1 _ _ _ _ _)
      | (with_reducible exact spec_AreVersions.mono _ _)
      | (with_reducible exact spec_IsBox.mono _ _ _ _ _)
      | (with_reducible exact LeO.refl _)
      | (with_reducible exact LeO.none _)
      | (with_reducible refine LeO.ite ?_ ?_)
      | (with_reducible refine LeO.bind ?_ (fun _ => ?_))
      | exact ih0 _ _ _ _ _
      | exact ih1 _ _ _ _ _
      | exact spec_AreVersions.mono _ _
      | exact spec_IsBox.mono _ _ _ _ _
      | exact LeO.none _
      | refine LeO.ite ?_ ?_
      | refine LeO.bind ?_ (fun _ => ?_)
def spec_IsEndpoint.T4 : Bool × List (List Nat × List Nat) := (true, [([], []), ([0], [0]), ([], []), ([1, 2], [1, 2]), ([3], [3]), ([4], [4]), ([5], [5]), ([6, 5], [6]), ([7], [7]), ([8, 7], [7, 8]), ([7], [7]), ([9, 10, 7], [7, 9, 10]), ([11, 7], [7, 11]), ([12, 7, 7], [7, 12]), ([7, 13], [7, 13]), ([14, 13], [14]), ([15], [15]), ([16, 15], [15, 16]), ([17, 15, 15], [15, 17]), ([18], [18]), ([19, 18], [18, 19]), ([18], [18]), ([21, 18], [18, 21]), ([20, 22, 18], [18, 20, 22]), ([23, 18], [18, 23]), ([18], [18]), ([25, 18], [18, 25]), ([18], [18]), ([26, 27, 18], [18, 26, 27]), ([28, 18], [18, 28]), ([24, 29, 18], [18, 24, 29]), ([18, 30, 15], [15, 18, 30]), ([15, 31], [15, 31])])
def spec_IsEndpoint.B4 : List Nat := [0, 1, 0, 7, 15, 31, 63, 127, 255, 511, 255, 2047, 4095, 8191, 16383, 32767, 65535, 131071, 262143, 524287, 1048575, 524287, 2621439, 8388607, 16777215, 524287, 34078719, 524287, 235405311, 503840767, 1073741823, 2147483647, 4294967295]
theorem spec_IsEndpoint.tab4 : rtab .any (opsOf Try.f39 4) = spec_IsEndpoint.T4 := by kernel_rfl
theorem spec_IsEndpoint.bits4 : waitsOk spec_IsEndpoint.T4.2 spec_IsEndpoint.B4 = true := by kernel_rfl
set_option maxHeartbeats 8000000 in
set_option maxRecDepth 100000 in
theorem spec_IsEndpoint.calls (k : Nat) (A0_0 : Option Addr) (c0_0 : Nat) (l0_0 : List Int) (A0_1 : Option Addr) (c0_1 : Nat) (l0_1 : List Int) (A0_2 : Option Addr) (c0_2 : Nat) (l0_2 : List (S95)) (a0_3 : Int) (r : Bool) (w : World) (hr0_0 : Kd.C (Kd.int .i64) w A0_0 l0_0.length l0_0) (hc0_0 : l0_0.length ≤ c0_0) (hr0_1 : Kd.C (Kd.int .i64) w A0_1 l0_1.length l0_1) (hc0_1 : l0_1.length ≤ c0_1) (hr0_2 : Kd.C k95 w A0_2 l0_2.length l0_2) (hc0_2 : l0_2.length ≤ c0_2) (h : spec_IsEndpoint.f k l0_0 l0_1 l0_2 a0_3 = some r) :
    Calls Try.prog 39 #[.agg #[.slice A0_0 l0_0.length c0_0, .slice A0_1 l0_1.length c0_1, .slice A0_2 l0_2.length c0_2, .int .i64 a0_3]] w fun e w' => e = .returned (.bool r) ∧ Below w.heap.size w w' := by
  have hu50 := Try.underlying50
  have hu95 := Try.underlying95
  have HR0_0 := Aside0.mk hr0_0
  have HC0_0 := Aside0.mk hc0_0
  clear hr0_0 hc0_0
  have HR0_1 := Aside0.mk hr0_1
  have HC0_1 := Aside0.mk hc0_1
  clear hr0_1 hc0_1
  have HR0_2 := Aside0.mk hr0_2
  have HC0_2 := Aside0.mk hc0_2
  clear hr0_2 hc0_2
  have HB := Aside0.mk (Below.refl w.heap.size w)
  have H : (spec_IsEndpoint.l0 k 0 l0_0 l0_1 l0_2 a0_3) = some r := h
  clear h
  have H' := Aside0.mk H
  clear H
  go_enter Try.func39, Try.ntmps39
  go_wp2_with (first | ((with_reducible refine gate_dst (N := 1) rfl ?_); (try (refine gate_guard (by rfl) ?_; dsimp only)); refine box_event ?hg (N := 1) ?hd (cs := #[.slice A0_0 l0_0.length c0_0, .slice A0_1 l0_1.length c0_1, .slice A0_2 l0_2.length c0_2, .int .i64 a0_3]) (t := 50) ?hr ?_; (case hd => rfl); (case hg => rfl); (case hr => first | (go_simp; done) | (go_simp; rfl)); intro gb333 hg w2 hbox hb; have n0_ := Aside0.mk (below_step (pb_ HB.out) hb); have n1_ := Aside0.mk (hbox); have n2_ := Aside0.mk ((by rw [hg]; exact (below_size (pb_ HB.out)) : w.heap.size ≤ gb333)); have n3_ := Aside0.mk ((by rw [hg]; exact (below_size (pb_ HB.out)) : w.heap.size ≤ gb333)); clear HB; have HB := n0_; have BK333 := n1_; have GW333 := n2_; have GE333 := n3_; clear n0_ n1_ n2_ n3_; clear hb hbox hg))
  (try simp only [Act.put, List.setIfInBounds_toArray, List.set_cons_zero, List.set_cons_succ])
  go_loopg [3] k (fun kq v3 w' => ∃ (x3_1 : Int), v3 = .int .i64 x3_1 ∧ Aside0 (spec_IsEndpoint.l0 kq x3_1 l0_0 l0_1 l0_2 a0_3 = some r) ∧ Aside0 (kq ≤ k) ∧ Aside0 (w'.heap[gb333]? = some (.cells #[(.slice A0_0 l0_0.length c0_0), (.slice A0_1 l0_1.length c0_1), (.slice A0_2 l0_2.length c0_2), .int .i64 a0_3] 50 (0, 0))) ∧ Aside0 (Below w.heap.size w w'))
  case atStart => exact ⟨(0), el_, H', ⟨Nat.le_refl _⟩, ⟨pk_ BK333.out⟩, ⟨pb1_ HB.out GE333.out⟩⟩
  clear H'
  try clear p2
  obtain ⟨x3_1, rfl, HA, HK1, BK333, HB⟩ := hrel
  rcases gk with _ | k1
  · exact absurd HA.out (by simp [spec_IsEndpoint.l0])
  have H := HA.out
  clear HA
  simp only [spec_IsEndpoint.l0] at H
  by_cases c3 : x3_1 < (l0_1.length : Int)
  rotate_left
  · rw [if_neg c3] at H
    have c3b0 : decide (x3_1 < (l0_1.length : Int)) = false := decide_eq_false c3
    clear c3
    have H' := Aside0.mk H
    clear H
    have hcz4 := bc4_ BK333.out
    go_wp2
    go_loopg [4] k1 (fun kq v4 w' => ∃ (x4_2 : Int), v4 = .int .i64 x4_2 ∧ Aside0 (spec_IsEndpoint.l1 kq x4_2 l0_0 l0_1 l0_2 a0_3 = some r) ∧ Aside0 (kq ≤ k1) ∧ Aside0 (w'.heap[gb333]? = some (.cells #[(.slice A0_0 l0_0.length c0_0), (.slice A0_1 l0_1.length c0_1), (.slice A0_2 l0_2.length c0_2), .int .i64 a0_3] 50 (0, 0))) ∧ Aside0 (Below w.heap.size w w'))
    case atStart => exact ⟨(0), el_, H', ⟨Nat.le_refl _⟩, ⟨pk_ BK333.out⟩, ⟨pb1_ HB.out GE333.out⟩⟩
    clear H'
    try clear p2
    try clear c3
    try clear c3b0
    try clear hcz4
    try clear p2
    obtain ⟨x4_2, rfl, HA, HK2, BK333, HB⟩ := hrel
    rcases gk with _ | k2
    · exact absurd HA.out (by simp [spec_IsEndpoint.l1])
    have H := HA.out
    clear HA
    simp only [spec_IsEndpoint.l1] at H
    by_cases c5 : x4_2 < (l0_2.length : Int)
    · rw [if_pos c5] at H
      have c5b0 : decide (x4_2 < (l0_2.length : Int)) = true := decide_eq_true c5
      clear c5
      by_cases c6 : 0 ≤ x4_2
      rotate_left
      · rw [if_neg c6] at H
        exact absurd H (by simp)
      rw [if_pos c6] at H
      have c6b0 : decide (0 ≤ x4_2) = true := decide_eq_true c6
      clear c6
      replace H := Option.bind_eq_some_iff.mp H
      obtain ⟨t341, A70, H⟩ := H
      (try dsimp only at H)
      have A7 := Aside0.mk A70
      clear A70
      have HS_ := Aside0.mk H
      clear H
      have hcz8 := bc4_ BK333.out
      have p340 : 0 ≤ (x4_2 : Int) := dt_
      have q340 : x4_2 < (l0_2.length : Int) := dt_
      obtain ⟨ad340, A340_1, c340_1, A340_2, c340_2, e340, hx340_0, hx340_1, hx340_2, hx340_3, hl340_1, hi340_1, hl340_2, hi340_2⟩ := at_T95 HR0_2.out x4_2 p340 q340
      cases e340
      replace hx340_0 := bt_ HB hx340_0
      replace hx340_1 := bt_ HB hx340_1
      replace hx340_2 := bt_ HB hx340_2
      replace hx340_3 := bt_ HB hx340_3
      have HR340_1 := Aside0.mk hi340_1
      have HC340_1 := Aside0.mk hl340_1
      clear hi340_1 hl340_1
      have HR340_2 := Aside0.mk hi340_2
      have HC340_2 := Aside0.mk hl340_2
      clear hi340_2 hl340_2
      replace p340 := eq_true p340
      replace q340 := eq_true q340
      go_upto_if 58 with (first | ((with_reducible refine gate_callee (f := 73) rfl ?_); refine gl_ (some 57) Try.func73 #[.agg #[.int .i64 ((rd_T95 l0_2 x4_2).f0), .slice A340_1 ((rd_T95 l0_2 x4_2).f1).length c340_1, .slice A340_2 ((rd_T95 l0_2 x4_2).f2).length c340_2, .bool ((rd_T95 l0_2 x4_2).f3)]] ?_; (with_reducible refine (spec_IsBox.calls k2 ((rd_T95 l0_2 x4_2).f0) _ _ ((rd_T95 l0_2 x4_2).f1) _ _ ((rd_T95 l0_2 x4_2).f2) ((rd_T95 l0_2 x4_2).f3) t341 _ ?side1 ?side2 ?side3 ?side4 A7.out).mono ?_); (case side1 => exact cb_ HR340_1 HB); (case side2 => exact HC340_1.out); (case side3 => exact cb_ HR340_2 HB); (case side4 => exact HC340_2.out); rintro e w9 ⟨rfl, hb⟩; refine ⟨_, rfl, ?_⟩; have _ := Aside0.mk (bb_ BK333.out hb); have _ := Aside0.mk (below_step (pb1_ HB.out GE333.out) hb); clear BK333 HB; rename_i BK333 HB; (try clear hb); (try clear hb2); (try clear hk); (try clear hi)))
      (try simp only [Act.put, List.setIfInBounds_toArray, List.set_cons_zero, List.set_cons_succ])
      have H := HS_.out
      clear HS_
      by_cases c10 : t341 = true
      rotate_left
      · replace c10 := Bool.eq_false_iff.mpr c10
        subst c10
        rw [if_neg (show ¬ (false = true) by decide)] at H
        obtain rfl := Option.some.inj H
        go_wp2
        go_ret
        exact ⟨er_, pb1_ HB.out GE333.out⟩
      subst c10
      rw [if_pos rfl] at H
      have H' := Aside0.mk H
      clear H
      go_wp2
      go_roundg k2
      case measure => have := HK1.out; have := HK2.out; omega
      case rel => exact ⟨(wrap64 (x4_2 + 1)), el_, H', ⟨by have := HK1.out; have := HK2.out; omega⟩, ⟨pk_ BK333.out⟩, ⟨pb1_ HB.out GE333.out⟩⟩
    rw [if_neg c5] at H
    have c5b0 : decide (x4_2 < (l0_2.length : Int)) = false := decide_eq_false c5
    clear c5
    replace H := Option.bind_eq_some_iff.mp H
    obtain ⟨t342, A110, H⟩ := H
    (try dsimp only at H)
    have A11 := Aside0.mk A110
    clear A110
    by_cases c12 : t342 = true
    rotate_left
    · replace c12 := Bool.eq_false_iff.mpr c12
      subst c12
      rw [if_neg (show ¬ (false = true) by decide)] at H
      obtain rfl := Option.some.inj H
      have hcz13 := bc4_ BK333.out
      go_wp2_with (first | ((with_reducible refine gate_callee (f := 40) rfl ?_); refine gl_ (some 61) Try.func40 #[.slice A0_0 l0_0.length c0_0] ?_; (with_reducible refine (spec_AreVersions.calls k2 _ _ l0_0 false _ ?side1 ?side2 A11.out).mono ?_); (case side1 => exact cb_ HR0_0 HB); (case side2 => exact HC0_0.out); rintro e w' ⟨rfl, ⟨nd, rfl⟩⟩; refine ⟨_, rfl, ?_⟩))
      go_ret
      exact ⟨er_, pb1_ HB.out GE333.out⟩
    subst c12
    rw [if_pos rfl] at H
    by_cases c14 : (l0_1.length : Int) ≤ 5
    rotate_left
    · rw [if_neg c14] at H
      have c14b0 : decide ((l0_1.length : Int) ≤ 5) = false := decide_eq_false c14
      have c14b1 : decide (l0_1.length ≤ 5) = false := decide_eq_false (by omega)
      clear c14
      obtain rfl := Option.some.inj H
      have hcz15 := bc4_ BK333.out
      go_wp2_with (first | ((with_reducible refine gate_callee (f := 40) rfl ?_); refine gl_ (some 61) Try.func40 #[.slice A0_0 l0_0.length c0_0] ?_; (with_reducible refine (spec_AreVersions.calls k2 _ _ l0_0 true _ ?side1 ?side2 A11.out).mono ?_); (case side1 => exact cb_ HR0_0 HB); (case side2 => exact HC0_0.out); rintro e w' ⟨rfl, ⟨nd, rfl⟩⟩; refine ⟨_, rfl, ?_⟩))
      go_ret
      exact ⟨er_, pb1_ HB.out GE333.out⟩
    rw [if_pos c14] at H
    have c14b0 : decide ((l0_1.length : Int) ≤ 5) = true := decide_eq_true c14
    have c14b1 : decide (l0_1.length ≤ 5) = true := decide_eq_true (by omega)
    clear c14
    by_cases c16 : (l0_2.length : Int) ≤ 4
    rotate_left
    · rw [if_neg c16] at H
      have c16b0 : decide ((l0_2.length : Int) ≤ 4) = false := decide_eq_false c16
      have c16b1 : decide (l0_2.length ≤ 4) = false := decide_eq_false (by omega)
      clear c16
      obtain rfl := Option.some.inj H
      have hcz17 := bc4_ BK333.out
      go_wp2_with (first | ((with_reducible refine gate_callee (f := 40) rfl ?_); refine gl_ (some 61) Try.func40 #[.slice A0_0 l0_0.length c0_0] ?_; (with_reducible refine (spec_AreVersions.calls k2 _ _ l0_0 true _ ?side1 ?side2 A11.out).mono ?_); (case side1 => exact cb_ HR0_0 HB); (case side2 => exact HC0_0.out); rintro e w' ⟨rfl, ⟨nd, rfl⟩⟩; refine ⟨_, rfl, ?_⟩))
      go_ret
      exact ⟨er_, pb1_ HB.out GE333.out⟩
    rw [if_pos c16] at H
    have c16b0 : decide ((l0_2.length : Int) ≤ 4) = true := decide_eq_true c16
    have c16b1 : decide (l0_2.length ≤ 4) = true := decide_eq_true (by omega)
    clear c16
    replace H := Option.bind_eq_some_iff.mp H
    obtain ⟨t343, A180, H⟩ := H
    replace H : (some t343) = some r := H
    have A18 := Aside0.mk A180
    clear A180
    obtain rfl := Option.some.inj H
    have hcz19 := bc4_ BK333.out
    go_wp2_with (first | ((with_reducible refine gate_callee (f := 40) rfl ?_); refine gl_ (some 61) Try.func40 #[.slice A0_0 l0_0.length c0_0] ?_; (with_reducible refine (spec_AreVersions.calls k2 _ _ l0_0 true _ ?side1 ?side2 A11.out).mono ?_); (case side1 => exact cb_ HR0_0 HB); (case side2 => exact HC0_0.out); rintro e w' ⟨rfl, ⟨nd, rfl⟩⟩; refine ⟨_, rfl, ?_⟩) | (go_at_call 47; (with_reducible refine (spec_l1In.calls a0_3 0 5 t343 _ A18.out).mono ?_); rintro e w' ⟨rfl, ⟨nd, rfl⟩⟩))
    go_ret
    exact ⟨er_, pb1_ HB.out GE333.out⟩
  rw [if_pos c3] at H
  have c3b0 : decide (x3_1 < (l0_1.length : Int)) = true := decide_eq_true c3
  clear c3
  by_cases c20 : 0 ≤ x3_1
  rotate_left
  · rw [if_neg c20] at H
    exact absurd H (by simp)
  rw [if_pos c20] at H
  have c20b0 : decide (0 ≤ x3_1) = true := decide_eq_true c20
  clear c20
  replace H := Option.bind_eq_some_iff.mp H
  obtain ⟨t335, A210, H⟩ := H
  (try dsimp only at H)
  have A21 := Aside0.mk A210
  clear A210
  by_cases c22 : t335 = true
  rotate_left
  · replace c22 := Bool.eq_false_iff.mpr c22
    subst c22
    rw [if_neg (show ¬ (false = true) by decide)] at H
    obtain rfl := Option.some.inj H
    have hcz23 := bc4_ BK333.out
    try go_wp2
    have _ := Aside0.mk (blk_drew BK333.out)
    have _ := Aside0.mk (below_drew1 HB.out)
    clear BK333 HB
    rename_i BK333 HB
    have p334 : 0 ≤ (x3_1 : Int) := dt_
    have q334 : x3_1 < (l0_1.length : Int) := dt_
    obtain ⟨ad334, e334, hx334_0⟩ := Kd.at_int HR0_1.out x3_1 p334 q334
    have hw334_0 := hx334_0
    cases e334
    replace hx334_0 := bt_ HB hx334_0
    replace p334 := eq_true p334
    replace q334 := eq_true q334
    refine start_ (n := 33) (S := fun w' => w'.cell? ⟨gb333, 0, none⟩ = some (.slice A0_0 l0_0.length c0_0) ∧ w'.cell? ⟨gb333, 1, none⟩ = some (.slice (some ad334) l0_1.length c0_1) ∧ w'.cell? ⟨gb333, 2, none⟩ = some (.slice A0_2 l0_2.length c0_2) ∧ w'.cell? ⟨gb333, 3, none⟩ = some (.int .i64 a0_3) ∧ w'.cell? (ad334.add (x3_1).toNat) = some (.int .i64 (rd l0_1 x3_1))) (ds := []) (tf_ 0 33) (by kernel_rfl) rfl rfl ⟨(blk_cell BK333.out 0).trans rfl, (blk_cell BK333.out 1).trans rfl, (blk_cell BK333.out 2).trans rfl, (blk_cell BK333.out 3).trans rfl, (bt_ HB hw334_0)⟩ (fun hHeld => ?_); refine with_tabW spec_IsEndpoint.tab4 spec_IsEndpoint.bits4 (fun HT_ HW_ => ?_)
    generalize wr.drew = w24 at BK333 HB hx334_0 hHeld ⊢
    refine pu_ 0 (some 12) (tf_ 1 33) HT_ ?_
    refine pu_ 2 (some 14) (tm_ 33 5) HT_ ?_
    refine ta_ 1 (some 13) (tf_ 3 33) HT_ HW_ hHeld ?_
    refine pu_ 3 (some 15) (tf_ 4 33) HT_ ?_
    refine ta_ 4 (some 16) (tf_ 5 33) HT_ HW_ hHeld ?_
    refine on_ 5 (some 17) (tf_ 6 33) HT_ (fun K hK => ?_)
    refine goes_ Try.func47 (by kernel_rfl) rfl #[.int .i64 (rd l0_1 x3_1), .int .i64 0, .int .i64 255] (by rfl) rfl rfl mp_ ?_
    with_reducible refine (spec_l1In.calls (rd l0_1 x3_1) 0 255 false _ A21.out).mono ?_
    rintro e w' ⟨rfl, ⟨nd, rfl⟩⟩
    refine ⟨_, rfl, ?_⟩
    refine hK.out _ _ ⟨(blk_cell BK333.out 0).trans rfl, (blk_cell BK333.out 1).trans rfl, (blk_cell BK333.out 2).trans rfl, (blk_cell BK333.out 3).trans rfl, (bt_ HB hw334_0)⟩ (fun hHeld => ?_)
    clear hK K
    refine no_ (some 17) ?_
    refine pu_ 6 (some 18) (tf_ 7 33) HT_ ?_
    refine pu_ 7 (some 19) (tf_ 8 33) HT_ ?_
    refine pn_ 8 (some 20) (tf_ 9 33) HT_ ?_
    refine pn_ 9 (some 21) (tf_ 10 33) HT_ ?_
    refine pn_ 10 (some 22) (tf_ 11 33) HT_ ?_
    refine pn_ 11 (some 23) (tf_ 12 33) HT_ ?_
    refine pn_ 12 (some 24) (tf_ 13 33) HT_ ?_
    refine pn_ 13 (some 25) (tf_ 14 33) HT_ ?_
    refine pu_ 14 (some 26) (tf_ 15 33) HT_ ?_
    refine pu_ 15 (some 27) (tf_ 16 33) HT_ ?_
    refine pn_ 16 (some 28) (tf_ 17 33) HT_ ?_
    refine pn_ 17 (some 29) (tf_ 18 33) HT_ ?_
    refine pn_ 18 (some 30) (tf_ 19 33) HT_ ?_
    refine pn_ 19 (some 31) (tf_ 20 33) HT_ ?_
    refine pn_ 20 (some 32) (tf_ 21 33) HT_ ?_
    refine pn_ 21 (some 33) (tf_ 22 33) HT_ ?_
    refine pn_ 22 (some 34) (tf_ 23 33) HT_ ?_
    refine pn_ 23 (some 35) (tf_ 24 33) HT_ ?_
    refine pn_ 24 (some 36) (tf_ 25 33) HT_ ?_
    refine pn_ 25 (some 37) (tf_ 26 33) HT_ ?_
    refine pn_ 26 (some 38) (tf_ 27 33) HT_ ?_
    refine pn_ 27 (some 39) (tf_ 28 33) HT_ ?_
    refine pn_ 28 (some 40) (tf_ 29 33) HT_ ?_
    refine pn_ 29 (some 41) (tf_ 30 33) HT_ ?_
    refine pn_ 30 (some 42) (tf_ 31 33) HT_ ?_
    refine pn_ 31 (some 43) (tf_ 32 33) HT_ ?_
    refine pu_ 32 (some 44) (tf_ 33 33) HT_ ?_
    refine done_ (done_of HT_.out (by kernel_rfl)) ?_
    try go_wp2
    go_ret
    exact ⟨er_, pb1_ HB.out GE333.out⟩
  subst c22
  rw [if_pos rfl] at H
  replace H := Option.bind_eq_some_iff.mp H
  obtain ⟨t337, A250, H⟩ := H
  (try dsimp only at H)
  have A25 := Aside0.mk A250
  clear A250
  by_cases c26 : t337 = true
  · subst c26
    rw [if_pos rfl] at H
    obtain rfl := Option.some.inj H
    have hcz27 := bc4_ BK333.out
    try go_wp2
    have _ := Aside0.mk (blk_drew BK333.out)
    have _ := Aside0.mk (below_drew1 HB.out)
    clear BK333 HB
    rename_i BK333 HB
    have p334 : 0 ≤ (x3_1 : Int) := dt_
    have q334 : x3_1 < (l0_1.length : Int) := dt_
    obtain ⟨ad334, e334, hx334_0⟩ := Kd.at_int HR0_1.out x3_1 p334 q334
    have hw334_0 := hx334_0
    cases e334
    replace hx334_0 := bt_ HB hx334_0
    replace p334 := eq_true p334
    replace q334 := eq_true q334
    have p336 : 0 ≤ (x3_1 : Int) := dt_
    have q336 : x3_1 < (l0_1.length : Int) := dt_
    obtain ⟨ad336, e336, hx336_0⟩ := Kd.at_int HR0_1.out x3_1 p336 q336
    have hw336_0 := hx336_0
    obtain rfl : ad334 = ad336 := (by injection e336)
    replace hx336_0 := bt_ HB hx336_0
    replace p336 := eq_true p336
    replace q336 := eq_true q336
    refine start_ (n := 33) (S := fun w' => w'.cell? ⟨gb333, 0, none⟩ = some (.slice A0_0 l0_0.length c0_0) ∧ w'.cell? ⟨gb333, 1, none⟩ = some (.slice (some ad334) l0_1.length c0_1) ∧ w'.cell? ⟨gb333, 2, none⟩ = some (.slice A0_2 l0_2.length c0_2) ∧ w'.cell? ⟨gb333, 3, none⟩ = some (.int .i64 a0_3) ∧ w'.cell? (ad334.add (x3_1).toNat) = some (.int .i64 (rd l0_1 x3_1)) ∧ w'.cell? (ad334.add (x3_1).toNat) = some (.int .i64 (rd l0_1 x3_1))) (ds := []) (tf_ 0 33) (by kernel_rfl) rfl rfl ⟨(blk_cell BK333.out 0).trans rfl, (blk_cell BK333.out 1).trans rfl, (blk_cell BK333.out 2).trans rfl, (blk_cell BK333.out 3).trans rfl, (bt_ HB hw334_0), (bt_ HB hw336_0)⟩ (fun hHeld => ?_); refine with_tabW spec_IsEndpoint.tab4 spec_IsEndpoint.bits4 (fun HT_ HW_ => ?_)
    generalize wr.drew = w28 at BK333 HB hx334_0 hx336_0 hHeld ⊢
    refine pu_ 0 (some 12) (tf_ 1 33) HT_ ?_
    refine pu_ 2 (some 14) (tm_ 33 5) HT_ ?_
    refine ta_ 1 (some 13) (tf_ 3 33) HT_ HW_ hHeld ?_
    refine pu_ 3 (some 15) (tf_ 4 33) HT_ ?_
    refine ta_ 4 (some 16) (tf_ 5 33) HT_ HW_ hHeld ?_
    refine on_ 5 (some 17) (tf_ 6 33) HT_ (fun K hK => ?_)
    refine goes_ Try.func47 (by kernel_rfl) rfl #[.int .i64 (rd l0_1 x3_1), .int .i64 0, .int .i64 255] (by rfl) rfl rfl mp_ ?_
    with_reducible refine (spec_l1In.calls (rd l0_1 x3_1) 0 255 true _ A21.out).mono ?_
    rintro e w' ⟨rfl, ⟨nd, rfl⟩⟩
    refine ⟨_, rfl, ?_⟩
    refine hK.out _ _ ⟨(blk_cell BK333.out 0).trans rfl, (blk_cell BK333.out 1).trans rfl, (blk_cell BK333.out 2).trans rfl, (blk_cell BK333.out 3).trans rfl, (bt_ HB hw334_0), (bt_ HB hw336_0)⟩ (fun hHeld => ?_)
    clear hK K
    refine no_ (some 17) ?_
    refine pu_ 6 (some 18) (tf_ 7 33) HT_ ?_
    refine pu_ 7 (some 19) (tf_ 8 33) HT_ ?_
    refine pu_ 8 (some 20) (tf_ 9 33) HT_ ?_
    refine pu_ 10 (some 22) (tm_ 33 1535) HT_ ?_
    refine ta_ 9 (some 21) (tf_ 11 33) HT_ HW_ hHeld ?_
    refine pu_ 11 (some 23) (tf_ 12 33) HT_ ?_
    refine ta_ 12 (some 24) (tf_ 13 33) HT_ HW_ hHeld ?_
    refine on_ 13 (some 25) (tf_ 14 33) HT_ (fun K hK => ?_)
    refine goes_ Try.func72 (by kernel_rfl) rfl #[.int .i64 (rd l0_1 x3_1)] (by rfl) rfl rfl mp_ ?_
    with_reducible refine (spec_IsReserved.calls (rd l0_1 x3_1) true _ A25.out).mono ?_
    rintro e w' ⟨rfl, ⟨nd, rfl⟩⟩
    refine ⟨_, rfl, ?_⟩
    refine hK.out _ _ ⟨(blk_cell BK333.out 0).trans rfl, (blk_cell BK333.out 1).trans rfl, (blk_cell BK333.out 2).trans rfl, (blk_cell BK333.out 3).trans rfl, (bt_ HB hw334_0), (bt_ HB hw336_0)⟩ (fun hHeld => ?_)
    clear hK K
    refine no_ (some 25) ?_
    refine pu_ 14 (some 26) (tf_ 15 33) HT_ ?_
    refine pu_ 15 (some 27) (tf_ 16 33) HT_ ?_
    refine pn_ 16 (some 28) (tf_ 17 33) HT_ ?_
    refine pn_ 17 (some 29) (tf_ 18 33) HT_ ?_
    refine pn_ 18 (some 30) (tf_ 19 33) HT_ ?_
    refine pn_ 19 (some 31) (tf_ 20 33) HT_ ?_
    refine pn_ 20 (some 32) (tf_ 21 33) HT_ ?_
    refine pn_ 21 (some 33) (tf_ 22 33) HT_ ?_
    refine pn_ 22 (some 34) (tf_ 23 33) HT_ ?_
    refine pn_ 23 (some 35) (tf_ 24 33) HT_ ?_
    refine pn_ 24 (some 36) (tf_ 25 33) HT_ ?_
    refine pn_ 25 (some 37) (tf_ 26 33) HT_ ?_
    refine pn_ 26 (some 38) (tf_ 27 33) HT_ ?_
    refine pn_ 27 (some 39) (tf_ 28 33) HT_ ?_
    refine pn_ 28 (some 40) (tf_ 29 33) HT_ ?_
    refine pn_ 29 (some 41) (tf_ 30 33) HT_ ?_
    refine pn_ 30 (some 42) (tf_ 31 33) HT_ ?_
    refine pn_ 31 (some 43) (tf_ 32 33) HT_ ?_
    refine pu_ 32 (some 44) (tf_ 33 33) HT_ ?_
    refine done_ (done_of HT_.out (by kernel_rfl)) ?_
    try go_wp2
    go_ret
    exact ⟨er_, pb1_ HB.out GE333.out⟩
  replace c26 := Bool.eq_false_iff.mpr c26
  subst c26
  rw [if_neg (show ¬ (false = true) by decide)] at H
  by_cases c29 : x3_1 > 0
  rotate_left
  · rw [if_neg c29] at H
    have c29b0 : decide (0 < x3_1) = false := decide_eq_false c29
    clear c29
    have H' := Aside0.mk H
    clear H
    have hcz30 := bc4_ BK333.out
    try go_wp2
    have _ := Aside0.mk (blk_drew BK333.out)
    have _ := Aside0.mk (below_drew1 HB.out)
    clear BK333 HB
    rename_i BK333 HB
    have p334 : 0 ≤ (x3_1 : Int) := dt_
    have q334 : x3_1 < (l0_1.length : Int) := dt_
    obtain ⟨ad334, e334, hx334_0⟩ := Kd.at_int HR0_1.out x3_1 p334 q334
    have hw334_0 := hx334_0
    cases e334
    replace hx334_0 := bt_ HB hx334_0
    replace p334 := eq_true p334
    replace q334 := eq_true q334
    have p336 : 0 ≤ (x3_1 : Int) := dt_
    have q336 : x3_1 < (l0_1.length : Int) := dt_
    obtain ⟨ad336, e336, hx336_0⟩ := Kd.at_int HR0_1.out x3_1 p336 q336
    have hw336_0 := hx336_0
    obtain rfl : ad334 = ad336 := (by injection e336)
    replace hx336_0 := bt_ HB hx336_0
    replace p336 := eq_true p336
    replace q336 := eq_true q336
    refine start_ (n := 33) (S := fun w' => w'.cell? ⟨gb333, 0, none⟩ = some (.slice A0_0 l0_0.length c0_0) ∧ w'.cell? ⟨gb333, 1, none⟩ = some (.slice (some ad334) l0_1.length c0_1) ∧ w'.cell? ⟨gb333, 2, none⟩ = some (.slice A0_2 l0_2.length c0_2) ∧ w'.cell? ⟨gb333, 3, none⟩ = some (.int .i64 a0_3) ∧ w'.cell? (ad334.add (x3_1).toNat) = some (.int .i64 (rd l0_1 x3_1)) ∧ w'.cell? (ad334.add (x3_1).toNat) = some (.int .i64 (rd l0_1 x3_1))) (ds := []) (tf_ 0 33) (by kernel_rfl) rfl rfl ⟨(blk_cell BK333.out 0).trans rfl, (blk_cell BK333.out 1).trans rfl, (blk_cell BK333.out 2).trans rfl, (blk_cell BK333.out 3).trans rfl, (bt_ HB hw334_0), (bt_ HB hw336_0)⟩ (fun hHeld => ?_); refine with_tabW spec_IsEndpoint.tab4 spec_IsEndpoint.bits4 (fun HT_ HW_ => ?_)
    generalize wr.drew = w31 at BK333 HB hx334_0 hx336_0 hHeld ⊢
    refine pu_ 0 (some 12) (tf_ 1 33) HT_ ?_
    refine pu_ 2 (some 14) (tm_ 33 5) HT_ ?_
    refine ta_ 1 (some 13) (tf_ 3 33) HT_ HW_ hHeld ?_
    refine pu_ 3 (some 15) (tf_ 4 33) HT_ ?_
    refine ta_ 4 (some 16) (tf_ 5 33) HT_ HW_ hHeld ?_
    refine on_ 5 (some 17) (tf_ 6 33) HT_ (fun K hK => ?_)
    refine goes_ Try.func47 (by kernel_rfl) rfl #[.int .i64 (rd l0_1 x3_1), .int .i64 0, .int .i64 255] (by rfl) rfl rfl mp_ ?_
    with_reducible refine (spec_l1In.calls (rd l0_1 x3_1) 0 255 true _ A21.out).mono ?_
    rintro e w' ⟨rfl, ⟨nd, rfl⟩⟩
    refine ⟨_, rfl, ?_⟩
    refine hK.out _ _ ⟨(blk_cell BK333.out 0).trans rfl, (blk_cell BK333.out 1).trans rfl, (blk_cell BK333.out 2).trans rfl, (blk_cell BK333.out 3).trans rfl, (bt_ HB hw334_0), (bt_ HB hw336_0)⟩ (fun hHeld => ?_)
    clear hK K
    refine no_ (some 17) ?_
    refine pu_ 6 (some 18) (tf_ 7 33) HT_ ?_
    refine pu_ 7 (some 19) (tf_ 8 33) HT_ ?_
    refine pu_ 8 (some 20) (tf_ 9 33) HT_ ?_
    refine pu_ 10 (some 22) (tm_ 33 1535) HT_ ?_
    refine ta_ 9 (some 21) (tf_ 11 33) HT_ HW_ hHeld ?_
    refine pu_ 11 (some 23) (tf_ 12 33) HT_ ?_
    refine ta_ 12 (some 24) (tf_ 13 33) HT_ HW_ hHeld ?_
    refine on_ 13 (some 25) (tf_ 14 33) HT_ (fun K hK => ?_)
    refine goes_ Try.func72 (by kernel_rfl) rfl #[.int .i64 (rd l0_1 x3_1)] (by rfl) rfl rfl mp_ ?_
    with_reducible refine (spec_IsReserved.calls (rd l0_1 x3_1) false _ A25.out).mono ?_
    rintro e w' ⟨rfl, ⟨nd, rfl⟩⟩
    refine ⟨_, rfl, ?_⟩
    refine hK.out _ _ ⟨(blk_cell BK333.out 0).trans rfl, (blk_cell BK333.out 1).trans rfl, (blk_cell BK333.out 2).trans rfl, (blk_cell BK333.out 3).trans rfl, (bt_ HB hw334_0), (bt_ HB hw336_0)⟩ (fun hHeld => ?_)
    clear hK K
    refine no_ (some 25) ?_
    refine pu_ 14 (some 26) (tf_ 15 33) HT_ ?_
    refine pu_ 15 (some 27) (tf_ 16 33) HT_ ?_
    refine pu_ 16 (some 28) (tf_ 17 33) HT_ ?_
    refine pu_ 17 (some 29) (tf_ 18 33) HT_ ?_
    refine pu_ 18 (some 30) (tf_ 19 33) HT_ ?_
    refine pn_ 19 (some 31) (tf_ 20 33) HT_ ?_
    refine pn_ 20 (some 32) (tf_ 21 33) HT_ ?_
    refine pn_ 21 (some 33) (tf_ 22 33) HT_ ?_
    refine pn_ 22 (some 34) (tf_ 23 33) HT_ ?_
    refine pn_ 23 (some 35) (tf_ 24 33) HT_ ?_
    refine pn_ 24 (some 36) (tf_ 25 33) HT_ ?_
    refine pn_ 25 (some 37) (tf_ 26 33) HT_ ?_
    refine pn_ 26 (some 38) (tf_ 27 33) HT_ ?_
    refine pn_ 27 (some 39) (tf_ 28 33) HT_ ?_
    refine pn_ 28 (some 40) (tf_ 29 33) HT_ ?_
    refine pn_ 29 (some 41) (tf_ 30 33) HT_ ?_
    refine pn_ 30 (some 42) (tf_ 31 33) HT_ ?_
    refine pu_ 31 (some 43) (tf_ 32 33) HT_ ?_
    refine pu_ 32 (some 44) (tf_ 33 33) HT_ ?_
    refine done_ (done_of HT_.out (by kernel_rfl)) ?_
    try go_wp2
    go_roundg k1
    case measure => have := HK1.out; omega
    case rel => exact ⟨(wrap64 (x3_1 + 1)), el_, H', ⟨by have := HK1.out; omega⟩, ⟨pk_ BK333.out⟩, ⟨pb1_ HB.out GE333.out⟩⟩
  rw [if_pos c29] at H
  have c29b0 : decide (0 < x3_1) = true := decide_eq_true c29
  clear c29
  obtain ⟨ji32, hji32⟩ : ∃ j_ : Int, (wrap64 (x3_1 - 1)) = j_ := ⟨_, rfl⟩
  replace H : (if 0 ≤ (ji32) then (if (ji32) < (l0_1.length : Int) then (if (rd l0_1 (ji32)) ≥ (rd l0_1 x3_1) then (some false) else (spec_IsEndpoint.l0 k1 (wrap64 (x3_1 + 1)) l0_0 l0_1 l0_2 a0_3)) else (none)) else (none)) = some r := by first | (rw [hji32] at H; exact H) | (simp only [hji32] at H ⊢; exact H)
  (try rw [hji32] at A21)
  (try rw [hji32] at A25)
  have hji32w : (IntKind.i64.wrap (x3_1 - 1)) = ji32 := (i64_w _).trans hji32
  by_cases c33 : 0 ≤ (ji32)
  rotate_left
  · rw [if_neg c33] at H
    exact absurd H (by simp)
  rw [if_pos c33] at H
  have c33b0 : decide (0 ≤ (ji32)) = true := decide_eq_true c33
  clear c33
  by_cases c34 : (ji32) < (l0_1.length : Int)
  rotate_left
  · rw [if_neg c34] at H
    exact absurd H (by simp)
  rw [if_pos c34] at H
  have c34b0 : decide ((ji32) < (l0_1.length : Int)) = true := decide_eq_true c34
  clear c34
  have HS_ := Aside0.mk H
  clear H
  have hcz35 := bc4_ BK333.out
  try go_wp2
  have _ := Aside0.mk (blk_drew BK333.out)
  have _ := Aside0.mk (below_drew1 HB.out)
  clear BK333 HB
  rename_i BK333 HB
  have p334 : 0 ≤ (x3_1 : Int) := dt_
  have q334 : x3_1 < (l0_1.length : Int) := dt_
  obtain ⟨ad334, e334, hx334_0⟩ := Kd.at_int HR0_1.out x3_1 p334 q334
  have hw334_0 := hx334_0
  cases e334
  replace hx334_0 := bt_ HB hx334_0
  replace p334 := eq_true p334
  replace q334 := eq_true q334
  have p336 : 0 ≤ (x3_1 : Int) := dt_
  have q336 : x3_1 < (l0_1.length : Int) := dt_
  obtain ⟨ad336, e336, hx336_0⟩ := Kd.at_int HR0_1.out x3_1 p336 q336
  have hw336_0 := hx336_0
  obtain rfl : ad334 = ad336 := (by injection e336)
  replace hx336_0 := bt_ HB hx336_0
  replace p336 := eq_true p336
  replace q336 := eq_true q336
  have p338 : 0 ≤ ((ji32) : Int) := dt_
  have q338 : (ji32) < (l0_1.length : Int) := dt_
  obtain ⟨ad338, e338, hx338_0⟩ := Kd.at_int HR0_1.out (ji32) p338 q338
  have hw338_0 := hx338_0
  obtain rfl : ad334 = ad338 := (by injection e338)
  replace hx338_0 := bt_ HB hx338_0
  replace p338 := eq_true p338
  replace q338 := eq_true q338
  have p339 : 0 ≤ (x3_1 : Int) := dt_
  have q339 : x3_1 < (l0_1.length : Int) := dt_
  obtain ⟨ad339, e339, hx339_0⟩ := Kd.at_int HR0_1.out x3_1 p339 q339
  have hw339_0 := hx339_0
  obtain rfl : ad334 = ad339 := (by injection e339)
  replace hx339_0 := bt_ HB hx339_0
  replace p339 := eq_true p339
  replace q339 := eq_true q339
  refine start_ (n := 33) (S := fun w' => w'.cell? ⟨gb333, 0, none⟩ = some (.slice A0_0 l0_0.length c0_0) ∧ w'.cell? ⟨gb333, 1, none⟩ = some (.slice (some ad334) l0_1.length c0_1) ∧ w'.cell? ⟨gb333, 2, none⟩ = some (.slice A0_2 l0_2.length c0_2) ∧ w'.cell? ⟨gb333, 3, none⟩ = some (.int .i64 a0_3) ∧ w'.cell? (ad334.add (x3_1).toNat) = some (.int .i64 (rd l0_1 x3_1)) ∧ w'.cell? (ad334.add (x3_1).toNat) = some (.int .i64 (rd l0_1 x3_1)) ∧ w'.cell? (ad334.add ((ji32)).toNat) = some (.int .i64 (rd l0_1 (ji32))) ∧ w'.cell? (ad334.add (x3_1).toNat) = some (.int .i64 (rd l0_1 x3_1))) (ds := []) (tf_ 0 33) (by kernel_rfl) rfl rfl ⟨(blk_cell BK333.out 0).trans rfl, (blk_cell BK333.out 1).trans rfl, (blk_cell BK333.out 2).trans rfl, (blk_cell BK333.out 3).trans rfl, (bt_ HB hw334_0), (bt_ HB hw336_0), (bt_ HB hw338_0), (bt_ HB hw339_0)⟩ (fun hHeld => ?_); refine with_tabW spec_IsEndpoint.tab4 spec_IsEndpoint.bits4 (fun HT_ HW_ => ?_)
  generalize wr.drew = w36 at BK333 HB hx334_0 hx336_0 hx338_0 hx339_0 hHeld ⊢
  refine pu_ 0 (some 12) (tf_ 1 33) HT_ ?_
  refine pu_ 2 (some 14) (tm_ 33 5) HT_ ?_
  refine ta_ 1 (some 13) (tf_ 3 33) HT_ HW_ hHeld ?_
  refine pu_ 3 (some 15) (tf_ 4 33) HT_ ?_
  refine ta_ 4 (some 16) (tf_ 5 33) HT_ HW_ hHeld ?_
  refine on_ 5 (some 17) (tf_ 6 33) HT_ (fun K hK => ?_)
  refine goes_ Try.func47 (by kernel_rfl) rfl #[.int .i64 (rd l0_1 x3_1), .int .i64 0, .int .i64 255] (by rfl) rfl rfl mp_ ?_
  with_reducible refine (spec_l1In.calls (rd l0_1 x3_1) 0 255 true _ A21.out).mono ?_
  rintro e w' ⟨rfl, ⟨nd, rfl⟩⟩
  refine ⟨_, rfl, ?_⟩
  refine hK.out _ _ ⟨(blk_cell BK333.out 0).trans rfl, (blk_cell BK333.out 1).trans rfl, (blk_cell BK333.out 2).trans rfl, (blk_cell BK333.out 3).trans rfl, (bt_ HB hw334_0), (bt_ HB hw336_0), (bt_ HB hw338_0), (bt_ HB hw339_0)⟩ (fun hHeld => ?_)
  clear hK K
  refine no_ (some 17) ?_
  refine pu_ 6 (some 18) (tf_ 7 33) HT_ ?_
  refine pu_ 7 (some 19) (tf_ 8 33) HT_ ?_
  refine pu_ 8 (some 20) (tf_ 9 33) HT_ ?_
  refine pu_ 10 (some 22) (tm_ 33 1535) HT_ ?_
  refine ta_ 9 (some 21) (tf_ 11 33) HT_ HW_ hHeld ?_
  refine pu_ 11 (some 23) (tf_ 12 33) HT_ ?_
  refine ta_ 12 (some 24) (tf_ 13 33) HT_ HW_ hHeld ?_
  refine on_ 13 (some 25) (tf_ 14 33) HT_ (fun K hK => ?_)
  refine goes_ Try.func72 (by kernel_rfl) rfl #[.int .i64 (rd l0_1 x3_1)] (by rfl) rfl rfl mp_ ?_
  with_reducible refine (spec_IsReserved.calls (rd l0_1 x3_1) false _ A25.out).mono ?_
  rintro e w' ⟨rfl, ⟨nd, rfl⟩⟩
  refine ⟨_, rfl, ?_⟩
  refine hK.out _ _ ⟨(blk_cell BK333.out 0).trans rfl, (blk_cell BK333.out 1).trans rfl, (blk_cell BK333.out 2).trans rfl, (blk_cell BK333.out 3).trans rfl, (bt_ HB hw334_0), (bt_ HB hw336_0), (bt_ HB hw338_0), (bt_ HB hw339_0)⟩ (fun hHeld => ?_)
  clear hK K
  refine no_ (some 25) ?_
  refine pu_ 14 (some 26) (tf_ 15 33) HT_ ?_
  refine pu_ 15 (some 27) (tf_ 16 33) HT_ ?_
  refine pu_ 16 (some 28) (tf_ 17 33) HT_ ?_
  refine pu_ 17 (some 29) (tf_ 18 33) HT_ ?_
  refine pu_ 18 (some 30) (tf_ 19 33) HT_ ?_
  refine pu_ 19 (some 31) (tf_ 20 33) HT_ ?_
  refine pu_ 21 (some 33) (tm_ 33 3145727) HT_ ?_
  refine pu_ 22 (some 34) (tm_ 33 7340031) HT_ ?_
  refine pu_ 25 (some 37) (tm_ 33 40894463) HT_ ?_
  refine pu_ 27 (some 39) (tm_ 33 175112191) HT_ ?_
  refine ta_ 20 (some 32) (tm_ 33 176160767) HT_ HW_ hHeld ?_
  refine pu_ 23 (some 35) (tm_ 33 184549375) HT_ ?_
  refine ta_ 24 (some 36) (tm_ 33 201326591) HT_ HW_ hHeld ?_
  refine ta_ 26 (some 38) (tf_ 28 33) HT_ HW_ hHeld ?_
  refine pu_ 28 (some 40) (tf_ 29 33) HT_ ?_
  refine ta_ 29 (some 41) (tf_ 30 33) HT_ HW_ hHeld ?_
  refine pu_ 30 (some 42) (tf_ 31 33) HT_ ?_
  refine pu_ 31 (some 43) (tf_ 32 33) HT_ ?_
  refine pu_ 32 (some 44) (tf_ 33 33) HT_ ?_
  refine done_ (done_of HT_.out (by kernel_rfl)) ?_
  go_upto_if 44 with (fail)
  have H := HS_.out
  clear HS_
  by_cases c37 : (rd l0_1 (ji32)) ≥ (rd l0_1 x3_1)
  rotate_left
  · rw [if_neg c37] at H
    have c37b0 : decide ((rd l0_1 x3_1) ≤ (rd l0_1 (ji32))) = false := decide_eq_false c37
    clear c37
    (first | rw [c37b0] | (simp only [i64_w, i32_w]; rw [c37b0]) | skip)
    have H' := Aside0.mk H
    clear H
    go_wp2
    go_roundg k1
    case measure => have := HK1.out; omega
    case rel => exact ⟨(wrap64 (x3_1 + 1)), el_, H', ⟨by have := HK1.out; omega⟩, ⟨pk_ BK333.out⟩, ⟨pb1_ HB.out GE333.out⟩⟩
  rw [if_pos c37] at H
  have c37b0 : decide ((rd l0_1 x3_1) ≤ (rd l0_1 (ji32))) = true := decide_eq_true c37
  clear c37
  (first | rw [c37b0] | (simp only [i64_w, i32_w]; rw [c37b0]) | skip)
  obtain rfl := Option.some.inj H
  go_wp2
  go_ret
  exact ⟨by first | rfl | (simp [errW_none, errW_some] <;> rfl) | (simp only [← hji32]; first | rfl | (simp [errW_none, errW_some] <;> rfl)) | (simp [*, errW_none, errW_some] <;> rfl), pb1_ HB.out GE333.out⟩

end Go.Proofs.Ytchnkakjjbfklaa.Print
