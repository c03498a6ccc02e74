-- Written by a program of this session (printx.py) out of the translation; Lean checks it.
import Derived.Test.YtchnkakjjbfklaaPrint0
import Derived.Test.YtchnkakjjbfklaaPrint13
namespace Go.Proofs.Ytchnkakjjbfklaa.Print
open Go.RowKit Go.Proofs.YtchnkakjjbfklaaW.PrintWords Go.Proofs.YtchnkakjjbfklaaW.PrintLast Go.Proofs.YtchnkakjjbfklaaW.PrintMore Go.Proofs.Ytchnkakjjbfklaa.Short
attribute [local go_sem] max2_int min2_int max_two min_two max_three min_three max_four min_four   -- for this text's walks alone
set_option linter.unusedVariables false
set_option linter.unusedSimpArgs false

/-! ### slices_IndexFunc_impl_Endpoint_impl_Endpoint_with_impl_IsWorld_1: function 100012 -/
def slices_IndexFunc_impl_Endpoint_impl_Endpoint_with_impl_IsWorld_1.l0 : Nat → List (S50) → Int → Int → Option (Int)
  | 0, _, _, _ => none
  | k + 1, x0, x7, x8 => if x8 < x7 then (if 0 ≤ x8 then (if x8 < (x0.length : Int) then ((impl_IsWorld_1.f k ((rd_T50 x0 x8).f0) ((rd_T50 x0 x8).f1) ((rd_T50 x0 x8).f2) ((rd_T50 x0 x8).f3)).bind fun t491 => (if t491 = true then (some x8) else (slices_IndexFunc_impl_Endpoint_impl_Endpoint_with_impl_IsWorld_1.l0 k x0 x7 (wrap64 (x8 + 1))))) else (none)) else (none)) else (some (-1))
def slices_IndexFunc_impl_Endpoint_impl_Endpoint_with_impl_IsWorld_1.f (k : Nat) (l0 : List (S50)) : Option (Int) := slices_IndexFunc_impl_Endpoint_impl_Endpoint_with_impl_IsWorld_1.l0 k l0 (l0.length : Int) 0
theorem slices_IndexFunc_impl_Endpoint_impl_Endpoint_with_impl_IsWorld_1.mono_l : ∀ k, (∀ y0 y1 y2, LeO (slices_IndexFunc_impl_Endpoint_impl_Endpoint_with_impl_IsWorld_1.l0 k y0 y1 y2) (slices_IndexFunc_impl_Endpoint_impl_Endpoint_with_impl_IsWorld_1.l0 (k + 1) y0 y1 y2))
  | 0 => fun _ _ _ r h => by simp [slices_IndexFunc_impl_Endpoint_impl_Endpoint_with_impl_IsWorld_1.l0] at h
  | k + 1 => by
    have ih0 := slices_IndexFunc_impl_Endpoint_impl_Endpoint_with_impl_IsWorld_1.mono_l k
    · intro y0 y1 y2
      unfold slices_IndexFunc_impl_Endpoint_impl_Endpoint_with_impl_IsWorld_1.l0
      repeat' first
      | (with_reducible exact ih0 _ _ _)
      | (with_reducible exact impl_IsWorld_1.mono _ _ _ _ _)
      | (with_reducible exact LeO.refl _)
      | (with_reducible exact LeO.none _)
      | (with_reducible refine LeO.ite ?_ ?_)
      | (with_reducible refine LeO.bind ?_ (fun _ => ?_))
      | exact ih0 _ _ _
      | exact impl_IsWorld_1.mono _ _ _ _ _
      | exact LeO.none _
      | refine LeO.ite ?_ ?_
      | refine LeO.bind ?_ (fun _ => ?_)
theorem slices_IndexFunc_impl_Endpoint_impl_Endpoint_with_impl_IsWorld_1.mono : ∀ a0 k, LeO (slices_IndexFunc_impl_Endpoint_impl_Endpoint_with_impl_IsWorld_1.f k a0) (slices_IndexFunc_impl_Endpoint_impl_Endpoint_with_impl_IsWorld_1.f (k + 1) a0) := by
  intro a0 k
  have ih0 := slices_IndexFunc_impl_Endpoint_impl_Endpoint_with_impl_IsWorld_1.mono_l k
  unfold slices_IndexFunc_impl_Endpoint_impl_Endpoint_with_impl_IsWorld_1.f
  repeat' first
      | (with_reducible exact ih0 _ _ _)
      | (with_reducible exact impl_IsWorld_1.mono _ _ _ _ _)
      | (with_reducible exact LeO.refl _)
      | (with_reducible exact LeO.none _)
      | (with_reducible refine LeO.ite ?_ ?_)
      | (with_reducible refine LeO.bind ?_ (fun _ => ?_))
      | exact ih0 _ _ _
      | exact impl_IsWorld_1.mono _ _ _ _ _
      | exact LeO.none _
      | refine LeO.ite ?_ ?_
      | refine LeO.bind ?_ (fun _ => ?_)
set_option maxHeartbeats 8000000 in
set_option maxRecDepth 100000 in
theorem slices_IndexFunc_impl_Endpoint_impl_Endpoint_with_impl_IsWorld_1.calls (k : Nat) (A0 : Option Addr) (c0 : Nat) (l0 : List (S50)) (r : Int) (w : World) (hr0 : Kd.C k50 w A0 l0.length l0) (hc0 : l0.length ≤ c0) (h : slices_IndexFunc_impl_Endpoint_impl_Endpoint_with_impl_IsWorld_1.f k l0 = some r) :
    Calls Try.prog 80 #[.slice A0 l0.length c0, .func (.func 53) #[] #[]] w fun e w' => e = .returned (.int .i64 r) ∧ Below w.heap.size w w' := by
  have hu50 := Try.underlying50
  have HR0 := Aside0.mk hr0
  have HC0 := Aside0.mk hc0
  clear hr0 hc0
  have HB := Aside0.mk (Below.refl w.heap.size w)
  have H : (slices_IndexFunc_impl_Endpoint_impl_Endpoint_with_impl_IsWorld_1.l0 k l0 (l0.length : Int) 0) = some r := h
  clear h
  have H' := Aside0.mk H
  clear H
  go_enter Try.func80, Try.ntmps80
  go_wp2
  go_loopg [8] k (fun kq v8 w' => ∃ (x8_1 : Int), v8 = .int .i64 x8_1 ∧ Aside0 (slices_IndexFunc_impl_Endpoint_impl_Endpoint_with_impl_IsWorld_1.l0 kq l0 (l0.length : Int) x8_1 = some r) ∧ Aside0 (kq ≤ k) ∧ Aside0 (Below w.heap.size w w'))
  case atStart => exact ⟨(0), el_, H', ⟨Nat.le_refl _⟩, ⟨pb_ HB.out⟩⟩
  clear H'
  obtain ⟨x8_1, rfl, HA, HK1, HB⟩ := hrel
  rcases gk with _ | k1
  · exact absurd HA.out (by simp [slices_IndexFunc_impl_Endpoint_impl_Endpoint_with_impl_IsWorld_1.l0])
  have H := HA.out
  clear HA
  simp only [slices_IndexFunc_impl_Endpoint_impl_Endpoint_with_impl_IsWorld_1.l0] at H
  by_cases c2 : x8_1 < (l0.length : Int)
  rotate_left
  · rw [if_neg c2] at H
    have c2b0 : decide (x8_1 < (l0.length : Int)) = false := decide_eq_false c2
    clear c2
    obtain rfl := Option.some.inj H
    go_wp2
    go_ret
    exact ⟨er_, pb_ HB.out⟩
  rw [if_pos c2] at H
  have c2b0 : decide (x8_1 < (l0.length : Int)) = true := decide_eq_true c2
  clear c2
  by_cases c3 : 0 ≤ x8_1
  rotate_left
  · rw [if_neg c3] at H
    exact absurd H (by simp)
  rw [if_pos c3] at H
  have c3b0 : decide (0 ≤ x8_1) = true := decide_eq_true c3
  clear c3
  by_cases c4 : x8_1 < (l0.length : Int)
  rotate_left
  · rw [if_neg c4] at H
    exact absurd H (by simp)
  rw [if_pos c4] at H
  have c4b0 : decide (x8_1 < (l0.length : Int)) = true := decide_eq_true c4
  clear c4
  replace H := Option.bind_eq_some_iff.mp H
  obtain ⟨t491, A50, H⟩ := H
  (try dsimp only at H)
  have A5 := Aside0.mk A50
  clear A50
  have HS_ := Aside0.mk H
  clear H
  have p490 : 0 ≤ (x8_1 : Int) := dt_
  have q490 : x8_1 < (l0.length : Int) := dt_
  obtain ⟨ad490, A490_0, c490_0, A490_1, c490_1, A490_2, c490_2, e490, hx490_0, hx490_1, hx490_2, hx490_3, hl490_0, hi490_0, hl490_1, hi490_1, hl490_2, hi490_2⟩ := at_T50 HR0.out x8_1 p490 q490
  cases e490
  replace hx490_0 := bt_ HB hx490_0
  replace hx490_1 := bt_ HB hx490_1
  replace hx490_2 := bt_ HB hx490_2
  replace hx490_3 := bt_ HB hx490_3
  have HR490_0 := Aside0.mk hi490_0
  have HC490_0 := Aside0.mk hl490_0
  clear hi490_0 hl490_0
  have HR490_1 := Aside0.mk hi490_1
  have HC490_1 := Aside0.mk hl490_1
  clear hi490_1 hl490_1
  have HR490_2 := Aside0.mk hi490_2
  have HC490_2 := Aside0.mk hl490_2
  clear hi490_2 hl490_2
  replace p490 := eq_true p490
  replace q490 := eq_true q490
  go_upto_if 16 with (first | (go_at_call 53; (with_reducible refine (impl_IsWorld_1.calls k1 _ _ ((rd_T50 l0 x8_1).f0) _ _ ((rd_T50 l0 x8_1).f1) _ _ ((rd_T50 l0 x8_1).f2) ((rd_T50 l0 x8_1).f3) t491 _ ?side1 ?side2 ?side3 ?side4 ?side5 ?side6 A5.out).mono ?_); (case side1 => exact cb_ HR490_0 HB); (case side2 => exact HC490_0.out); (case side3 => exact cb_ HR490_1 HB); (case side4 => exact HC490_1.out); (case side5 => exact cb_ HR490_2 HB); (case side6 => exact HC490_2.out); rintro e w6 ⟨rfl, hb⟩; have _ := Aside0.mk (below_step (pb_ HB.out) hb); clear HB; rename_i HB; (try clear hb); (try clear hb2); (try clear hk); (try clear hi)))
  (try simp only [Act.put, List.setIfInBounds_toArray, List.set_cons_zero, List.set_cons_succ])
  have H := HS_.out
  clear HS_
  by_cases c7 : t491 = true
  rotate_left
  · replace c7 := Bool.eq_false_iff.mpr c7
    subst c7
    rw [if_neg (show ¬ (false = true) by decide)] at H
    have H' := Aside0.mk H
    clear H
    go_wp2
    go_roundg k1
    case measure => have := HK1.out; omega
    case rel => exact ⟨(wrap64 (x8_1 + 1)), el_, H', ⟨by have := HK1.out; omega⟩, ⟨pb_ HB.out⟩⟩
  subst c7
  rw [if_pos rfl] at H
  obtain rfl := Option.some.inj H
  go_wp2
  go_ret
  exact ⟨er_, pb_ HB.out⟩

/-! ### slices_ContainsFunc_impl_Endpoint_impl_Endpoint_with_impl_IsWorld_1: function 100011 -/
def slices_ContainsFunc_impl_Endpoint_impl_Endpoint_with_impl_IsWorld_1.f (k : Nat) (l0 : List (S50)) : Option (Bool) := (slices_IndexFunc_impl_Endpoint_impl_Endpoint_with_impl_IsWorld_1.f k l0).bind fun t492 => (some (decide (t492 ≥ 0)))
theorem slices_ContainsFunc_impl_Endpoint_impl_Endpoint_with_impl_IsWorld_1.mono : ∀ a0 k, LeO (slices_ContainsFunc_impl_Endpoint_impl_Endpoint_with_impl_IsWorld_1.f k a0) (slices_ContainsFunc_impl_Endpoint_impl_Endpoint_with_impl_IsWorld_1.f (k + 1) a0) := by
  intro a0 k
  unfold slices_ContainsFunc_impl_Endpoint_impl_Endpoint_with_impl_IsWorld_1.f
  repeat' first
      | (with_reducible exact slices_IndexFunc_impl_Endpoint_impl_Endpoint_with_impl_IsWorld_1.mono _ _)
      | (with_reducible exact LeO.refl _)
      | (with_reducible exact LeO.none _)
      | (with_reducible refine LeO.ite ?_ ?_)
      | (with_reducible refine LeO.bind ?_ (fun _ => ?_))
      | exact slices_IndexFunc_impl_Endpoint_impl_Endpoint_with_impl_IsWorld_1.mono _ _
      | exact LeO.none _
      | refine LeO.ite ?_ ?_
      | refine LeO.bind ?_ (fun _ => ?_)
set_option maxHeartbeats 8000000 in
set_option maxRecDepth 100000 in
theorem slices_ContainsFunc_impl_Endpoint_impl_Endpoint_with_impl_IsWorld_1.calls (k : Nat) (A0 : Option Addr) (c0 : Nat) (l0 : List (S50)) (r : Bool) (w : World) (hr0 : Kd.C k50 w A0 l0.length l0) (hc0 : l0.length ≤ c0) (h : slices_ContainsFunc_impl_Endpoint_impl_Endpoint_with_impl_IsWorld_1.f k l0 = some r) :
    Calls Try.prog 52 #[.slice A0 l0.length c0, .func (.func 53) #[] #[]] w fun e w' => e = .returned (.bool r) ∧ Below w.heap.size w w' := by
  have HR0 := Aside0.mk hr0
  have HC0 := Aside0.mk hc0
  clear hr0 hc0
  have HB := Aside0.mk (Below.refl w.heap.size w)
  have H : ((slices_IndexFunc_impl_Endpoint_impl_Endpoint_with_impl_IsWorld_1.f k l0).bind fun t492 => (some (decide (t492 ≥ 0)))) = some r := h
  clear h
  replace H := Option.bind_eq_some_iff.mp H
  obtain ⟨t492, A20, H⟩ := H
  replace H : (some (decide (t492 ≥ 0))) = some r := H
  have A2 := Aside0.mk A20
  clear A20
  obtain rfl := Option.some.inj H
  go_enter Try.func52, Try.ntmps52
  go_wp2_with (first | (go_at_call 80; (with_reducible refine (slices_IndexFunc_impl_Endpoint_impl_Endpoint_with_impl_IsWorld_1.calls k _ _ l0 t492 _ ?side1 ?side2 A2.out).mono ?_); (case side1 => exact pc_ HR0.out); (case side2 => exact HC0.out); rintro e w3 ⟨rfl, hb⟩; have _ := Aside0.mk (below_step (pb_ HB.out) hb); clear HB; rename_i HB; (try clear hb); (try clear hb2); (try clear hk); (try clear hi)))
  go_ret
  exact ⟨er_, pb_ HB.out⟩

end Go.Proofs.Ytchnkakjjbfklaa.Print
