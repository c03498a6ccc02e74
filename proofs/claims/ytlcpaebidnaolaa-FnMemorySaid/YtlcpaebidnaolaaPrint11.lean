-- Written by a program of this session (printx.py) out of the translation; Lean checks it.
import Derived.Test.YtlcpaebidnaolaaPrint0
import Derived.Test.YtlcpaebidnaolaaPrint8
import Derived.Test.YtlcpaebidnaolaaPrint9
import Derived.Test.YtlcpaebidnaolaaPrint10
namespace Go.Proofs.Ytlcpaebidnaolaa.Print
open Go.RowKit Go.Proofs.YtlcpaebidnaolaaW.PrintWords Go.Proofs.YtlcpaebidnaolaaW.PrintLast Go.Proofs.YtlcpaebidnaolaaW.PrintMore Go.Proofs.Ytlcpaebidnaolaa.Short
attribute [local go_sem] max2_int min2_int max_two min_two max_three min_three max_four min_four   -- for this text's walks alone
set_option linter.unusedVariables false
set_option maxHeartbeats 8000000
set_option maxRecDepth 100000
set_option linter.unusedSimpArgs false

/-! ### slices_IndexFunc_impl_Known_impl_Known_with_impl_IsMemory_1: function 100010 -/
def slices_IndexFunc_impl_Known_impl_Known_with_impl_IsMemory_1.l0 : Nat → List (S61) → Int → Int → Int → List Int → Int → Option (Int)
 | 0, _, _, _, _, _, _ => none
 | k + 1, x0, x7, x8, x2000, x2001, x2002 => if x8 < x7 then (if 0 ≤ x8 then (if x8 < (x0.length : Int) then ((impl_IsMemory_1.f ((rd_T61 x0 x8).f0) ((rd_T61 x0 x8).f1) ((rd_T61 x0 x8).f2) x2000 x2001 x2002).bind fun t547 => (if t547 = true then (some x8) else (slices_IndexFunc_impl_Known_impl_Known_with_impl_IsMemory_1.l0 k x0 x7 (wrap64 (x8 + 1)) x2000 x2001 x2002))) else (none)) else (none)) else (some (-1))
def slices_IndexFunc_impl_Known_impl_Known_with_impl_IsMemory_1.f (k : Nat) (l0 : List (S61)) (a1_0 : Int) (l1_1 : List Int) (a1_2 : Int) : Option (Int) := slices_IndexFunc_impl_Known_impl_Known_with_impl_IsMemory_1.l0 k l0 (l0.length : Int) 0 a1_0 l1_1 a1_2
theorem slices_IndexFunc_impl_Known_impl_Known_with_impl_IsMemory_1.mono_l : ∀ k, (∀ y0 y1 y2 y3 y4 y5, LeO (slices_IndexFunc_impl_Known_impl_Known_with_impl_IsMemory_1.l0 k y0 y1 y2 y3 y4 y5) (slices_IndexFunc_impl_Known_impl_Known_with_impl_IsMemory_1.l0 (k + 1) y0 y1 y2 y3 y4 y5))
 | 0 => fun _ _ _ _ _ _ r h => by simp [slices_IndexFunc_impl_Known_impl_Known_with_impl_IsMemory_1.l0] at h
 | k + 1 => by
  have ih0 := slices_IndexFunc_impl_Known_impl_Known_with_impl_IsMemory_1.mono_l k
  ·intro y0 y1 y2 y3 y4 y5
   unfold slices_IndexFunc_impl_Known_impl_Known_with_impl_IsMemory_1.l0
   exact mo1_ ih0
theorem slices_IndexFunc_impl_Known_impl_Known_with_impl_IsMemory_1.mono : ∀ a0 a1 a2 a3 k, LeO (slices_IndexFunc_impl_Known_impl_Known_with_impl_IsMemory_1.f k a0 a1 a2 a3) (slices_IndexFunc_impl_Known_impl_Known_with_impl_IsMemory_1.f (k + 1) a0 a1 a2 a3) := by
 intro a0 a1 a2 a3 k
 have ih0 := slices_IndexFunc_impl_Known_impl_Known_with_impl_IsMemory_1.mono_l k
 unfold slices_IndexFunc_impl_Known_impl_Known_with_impl_IsMemory_1.f
 exact mo1_ ih0
theorem slices_IndexFunc_impl_Known_impl_Known_with_impl_IsMemory_1.calls (k : Nat) (A0 : Option Addr) (c0 : Nat) (l0 : List (S61)) (B1 : Nat) (a1_0 : Int) (A1_1 : Option Addr) (c1_1 : Nat) (l1_1 : List Int) (a1_2 : Int) (r : Int) (w : World) (hr0 : Kd.C k61 w A0 l0.length l0) (hc0 : l0.length ≤ c0) (hr1_1 : Kd.C (Kd.int .i64) w A1_1 l1_1.length l1_1) (hc1_1 : l1_1.length ≤ c1_1) (hbv1 : w.heap[B1]? = some (.cells #[.int .i64 a1_0, .slice A1_1 l1_1.length c1_1, .int .i64 a1_2] 61 (0, 0))) (h : slices_IndexFunc_impl_Known_impl_Known_with_impl_IsMemory_1.f k l0 a1_0 l1_1 a1_2 = some r) :
  Calls Try.prog 49 #[.slice A0 l0.length c0, .func (.func 37) #[] #[.pointer (some ⟨B1, 0, none⟩)]] w fun e w' => e = .returned (.int .i64 r) ∧ Below w.heap.size w w' := by
 have hu61 := Try.underlying61
 have HR0 := Q_ hr0
 have HC0 := Q_ hc0
 clear hr0 hc0
 have HR1_1 := Q_ hr1_1
 have HC1_1 := Q_ hc1_1
 clear hr1_1 hc1_1
 have BK1 := Q_ hbv1
 clear hbv1
 have HB := Q_ (Below.refl w.heap.size w)
 have H : (slices_IndexFunc_impl_Known_impl_Known_with_impl_IsMemory_1.l0 k l0 (l0.length : Int) 0 a1_0 l1_1 a1_2) = some r := h
 clear h
 have H' := Q_ H
 clear H
 go_enter Try.func49, Try.ntmps49
 go_wp2
 go_loopg [8] k (fun kq v8 w' => ∃ (x8_1 : Int), v8 = .int .i64 x8_1 ∧ Aside0 (slices_IndexFunc_impl_Known_impl_Known_with_impl_IsMemory_1.l0 kq l0 (l0.length : Int) x8_1 a1_0 l1_1 a1_2 = some r) ∧ Aside0 (kq ≤ k) ∧ Aside0 (w'.heap[B1]? = some (.cells #[.int .i64 a1_0, (.slice A1_1 l1_1.length c1_1), .int .i64 a1_2] 61 (0, 0))) ∧ Aside0 (Below w.heap.size w w'))
 case atStart => exact ⟨(0), el_, H', ⟨Nat.le_refl _⟩, ⟨pk_ BK1.out⟩, ⟨pb_ HB.out⟩⟩
 clear H'
 try clear c1
 try clear p2
 obtain ⟨x8_1, rfl, HA, HK1, BK1, HB⟩ := hrel
 rcases gk with _ | k1
 ·exact absurd HA.out (by simp [slices_IndexFunc_impl_Known_impl_Known_with_impl_IsMemory_1.l0])
 have H := HA.out
 clear HA
 simp only [slices_IndexFunc_impl_Known_impl_Known_with_impl_IsMemory_1.l0] at H
 by_cases c3 : x8_1 < (l0.length : Int)
 rotate_left
 ·rw [if_neg c3] at H
  have c3b0 : decide (x8_1 < (l0.length : Int)) = false := decide_eq_false c3
  clear c3
  obtain rfl := Option.some.inj H
  go_wp2
  go_ret
  exact ⟨er_, pb_ HB.out⟩
 rw [if_pos c3] at H
 have c3b0 : decide (x8_1 < (l0.length : Int)) = true := decide_eq_true c3
 clear c3
 by_cases c4 : 0 ≤ x8_1
 rotate_left
 ·rw [if_neg c4] at H
  exact absurd H (by simp)
 rw [if_pos c4] at H
 have c4b0 : decide (0 ≤ x8_1) = true := decide_eq_true c4
 clear c4
 by_cases c5 : x8_1 < (l0.length : Int)
 rotate_left
 ·rw [if_neg c5] at H
  exact absurd H (by simp)
 rw [if_pos c5] at H
 have c5b0 : decide (x8_1 < (l0.length : Int)) = true := decide_eq_true c5
 clear c5
 replace H := Option.bind_eq_some_iff.mp H
 obtain ⟨t547, A60, H⟩ := H
 (try dsimp only at H)
 have A6 := Q_ A60
 clear A60
 have HS_ := Q_ H
 clear H
 have p546 : 0 ≤ (x8_1 : Int) := dt_
 have q546 : x8_1 < (l0.length : Int) := dt_
 obtain ⟨ad546, A546_1, c546_1, e546, hx546_0, hx546_1, hx546_2, hl546_1, hi546_1⟩ := at_T61 HR0.out x8_1 p546 q546
 cases e546
 replace hx546_0 := bt_ HB hx546_0
 replace hx546_1 := bt_ HB hx546_1
 replace hx546_2 := bt_ HB hx546_2
 have HR546_1 := Q_ hi546_1
 have HC546_1 := Q_ hl546_1
 clear hi546_1 hl546_1
 replace p546 := eq_true p546
 replace q546 := eq_true q546
 go_upto_if 16 with (first | (go_at_call 37; (with_reducible refine (impl_IsMemory_1.calls ((rd_T61 l0 x8_1).f0) _ _ ((rd_T61 l0 x8_1).f1) ((rd_T61 l0 x8_1).f2) _ a1_0 A1_1 c1_1 l1_1 a1_2 t547 _ ?side1 ?side2 ?side3 ?side4 ?side5 A6.out).mono ?_); (case side1 => exact cb_ HR546_1 HB); (case side2 => exact HC546_1.out); (case side3 => exact cb_ HR1_1 HB); (case side4 => exact HC1_1.out); (case side5 => exact pk_ BK1.out); rintro e w7 ⟨rfl, hb⟩; have _ := Q_ (bb_ BK1.out hb); have _ := Q_ (below_step (pb_ HB.out) hb); clear BK1 HB; rename_i BK1 HB; (try clear hb); (try clear hb2); (try clear hk); (try clear hi)))
 (try simp only [Act.put, List.setIfInBounds_toArray, List.set_cons_zero, List.set_cons_succ])
 have H := HS_.out
 clear HS_
 by_cases c8 : t547 = true
 rotate_left
 ·replace c8 := bf_ c8
  subst c8
  rw [if_neg ff_] at H
  have H' := Q_ H
  clear H
  go_wp2
  go_roundg k1
  case measure => have := HK1.out; omega
  case rel => exact ⟨(wrap64 (x8_1 + 1)), el_, H', ⟨by have := HK1.out; omega⟩, ⟨pk_ BK1.out⟩, ⟨pb_ HB.out⟩⟩
 subst c8
 rw [if_pos rfl] at H
 obtain rfl := Option.some.inj H
 go_wp2
 go_ret
 exact ⟨er_, pb_ HB.out⟩

/-! ### slices_ContainsFunc_impl_Known_impl_Known_with_impl_IsMemory_1: function 100009 -/
def slices_ContainsFunc_impl_Known_impl_Known_with_impl_IsMemory_1.f (k : Nat) (l0 : List (S61)) (a1_0 : Int) (l1_1 : List Int) (a1_2 : Int) : Option (Bool) := (slices_IndexFunc_impl_Known_impl_Known_with_impl_IsMemory_1.f k l0 a1_0 l1_1 a1_2).bind fun t548 => (some (decide (t548 ≥ 0)))
theorem slices_ContainsFunc_impl_Known_impl_Known_with_impl_IsMemory_1.mono : ∀ a0 a1 a2 a3 k, LeO (slices_ContainsFunc_impl_Known_impl_Known_with_impl_IsMemory_1.f k a0 a1 a2 a3) (slices_ContainsFunc_impl_Known_impl_Known_with_impl_IsMemory_1.f (k + 1) a0 a1 a2 a3) := by
 intro a0 a1 a2 a3 k
 unfold slices_ContainsFunc_impl_Known_impl_Known_with_impl_IsMemory_1.f
 exact mo1_ slices_IndexFunc_impl_Known_impl_Known_with_impl_IsMemory_1.mono
theorem slices_ContainsFunc_impl_Known_impl_Known_with_impl_IsMemory_1.calls (k : Nat) (A0 : Option Addr) (c0 : Nat) (l0 : List (S61)) (B1 : Nat) (a1_0 : Int) (A1_1 : Option Addr) (c1_1 : Nat) (l1_1 : List Int) (a1_2 : Int) (r : Bool) (w : World) (hr0 : Kd.C k61 w A0 l0.length l0) (hc0 : l0.length ≤ c0) (hr1_1 : Kd.C (Kd.int .i64) w A1_1 l1_1.length l1_1) (hc1_1 : l1_1.length ≤ c1_1) (hbv1 : w.heap[B1]? = some (.cells #[.int .i64 a1_0, .slice A1_1 l1_1.length c1_1, .int .i64 a1_2] 61 (0, 0))) (h : slices_ContainsFunc_impl_Known_impl_Known_with_impl_IsMemory_1.f k l0 a1_0 l1_1 a1_2 = some r) :
  Calls Try.prog 36 #[.slice A0 l0.length c0, .func (.func 37) #[] #[.pointer (some ⟨B1, 0, none⟩)]] w fun e w' => e = .returned (.bool r) ∧ Below w.heap.size w w' := by
 have HR0 := Q_ hr0
 have HC0 := Q_ hc0
 clear hr0 hc0
 have HR1_1 := Q_ hr1_1
 have HC1_1 := Q_ hc1_1
 clear hr1_1 hc1_1
 have BK1 := Q_ hbv1
 clear hbv1
 have HB := Q_ (Below.refl w.heap.size w)
 have H : ((slices_IndexFunc_impl_Known_impl_Known_with_impl_IsMemory_1.f k l0 a1_0 l1_1 a1_2).bind fun t548 => (some (decide (t548 ≥ 0)))) = some r := h
 clear h
 replace H := Option.bind_eq_some_iff.mp H
 obtain ⟨t548, A30, H⟩ := H
 replace H : (some (decide (t548 ≥ 0))) = some r := H
 have A3 := Q_ A30
 clear A30
 obtain rfl := Option.some.inj H
 go_enter Try.func36, Try.ntmps36
 go_wp2_with (first | (go_at_call 49; (with_reducible refine (slices_IndexFunc_impl_Known_impl_Known_with_impl_IsMemory_1.calls k _ _ l0 _ a1_0 A1_1 c1_1 l1_1 a1_2 t548 _ ?side1 ?side2 ?side3 ?side4 ?side5 A3.out).mono ?_); (case side1 => exact pc_ HR0.out); (case side2 => exact HC0.out); (case side3 => exact pc_ HR1_1.out); (case side4 => exact HC1_1.out); (case side5 => exact pk_ BK1.out); rintro e w4 ⟨rfl, hb⟩; have _ := Q_ (bb_ BK1.out hb); have _ := Q_ (below_step (pb_ HB.out) hb); clear BK1 HB; rename_i BK1 HB; (try clear hb); (try clear hb2); (try clear hk); (try clear hi)))
 go_ret
 exact ⟨er_, pb_ HB.out⟩

/-! ### impl_IsMemory: function 13 -/
mutual
def impl_IsMemory.l0 : Nat → List (S61) → Int → List (S61) → Int → Int → Option (Bool)
 | 0, _, _, _, _, _ => none
 | k + 1, x0, x1, x7, x8, x9 => if x9 < x8 then (if 0 ≤ x9 then (if x9 < (x7.length : Int) then ((impl_InRange.f ((rd_T61 x7 x9).f0) 0 5).bind fun t551 => (if t551 = true then (if (((rd_T61 x7 x9).f1).length : Int) > 12 then (impl_IsMemory.j1 k x0 x1 x9 x7 x8 x9 true ((rd_T61 x7 x9).f0) ((rd_T61 x7 x9).f1) ((rd_T61 x7 x9).f2)) else ((impl_areNumbers.f k ((rd_T61 x7 x9).f1) 1 1255).bind fun t552 => (if t552 = true then ((impl_InRange.f ((rd_T61 x7 x9).f2) 0 x1).bind fun t553 => (impl_IsMemory.j1 k x0 x1 x9 x7 x8 x9 (!t553) ((rd_T61 x7 x9).f0) ((rd_T61 x7 x9).f1) ((rd_T61 x7 x9).f2))) else (impl_IsMemory.j1 k x0 x1 x9 x7 x8 x9 true ((rd_T61 x7 x9).f0) ((rd_T61 x7 x9).f1) ((rd_T61 x7 x9).f2))))) else (impl_IsMemory.j1 k x0 x1 x9 x7 x8 x9 true ((rd_T61 x7 x9).f0) ((rd_T61 x7 x9).f1) ((rd_T61 x7 x9).f2)))) else (none)) else (none)) else (some (decide ((x0.length : Int) ≤ 6)))
def impl_IsMemory.j1 : Nat → List (S61) → Int → Int → List (S61) → Int → Int → Bool → Int → List Int → Int → Option (Bool)
 | 0, _, _, _, _, _, _, _, _, _, _ => none
 | k + 1, x0, x1, x5, x7, x8, x9, x36, x551000, x551001, x551002 => if x36 = true then (some false) else (if 0 ≤ x5 then (if x5 ≤ (x0.length : Int) then ((slices_ContainsFunc_impl_Known_impl_Known_with_impl_IsMemory_1.f k (x0.take (x5 : Int).toNat) x551000 x551001 x551002).bind fun t558 => (if t558 = true then (some false) else (impl_IsMemory.l0 k x0 x1 x7 x8 (wrap64 (x9 + 1))))) else (none)) else (none))
end
def impl_IsMemory.f (k : Nat) (l0 : List (S61)) (a1 : Int) : Option (Bool) := impl_IsMemory.l0 k l0 a1 l0 (l0.length : Int) 0
theorem impl_IsMemory.mono_l : ∀ k, (∀ y0 y1 y2 y3 y4, LeO (impl_IsMemory.l0 k y0 y1 y2 y3 y4) (impl_IsMemory.l0 (k + 1) y0 y1 y2 y3 y4)) ∧ (∀ y0 y1 y2 y3 y4 y5 y6 y7 y8 y9, LeO (impl_IsMemory.j1 k y0 y1 y2 y3 y4 y5 y6 y7 y8 y9) (impl_IsMemory.j1 (k + 1) y0 y1 y2 y3 y4 y5 y6 y7 y8 y9))
 | 0 => ⟨fun _ _ _ _ _ r h => by simp [impl_IsMemory.l0] at h, fun _ _ _ _ _ _ _ _ _ _ r h => by simp [impl_IsMemory.j1] at h⟩
 | k + 1 => by
  obtain ⟨ih0, ih1⟩ := impl_IsMemory.mono_l k
  refine ⟨?_, ?_⟩
  ·intro y0 y1 y2 y3 y4
   unfold impl_IsMemory.l0
   exact mo4_ ih0 ih1 impl_areNumbers.mono slices_ContainsFunc_impl_Known_impl_Known_with_impl_IsMemory_1.mono
  ·intro y0 y1 y2 y3 y4 y5 y6 y7 y8 y9
   unfold impl_IsMemory.j1
   exact mo4_ ih0 ih1 impl_areNumbers.mono slices_ContainsFunc_impl_Known_impl_Known_with_impl_IsMemory_1.mono
theorem impl_IsMemory.mono : ∀ a0 a1 k, LeO (impl_IsMemory.f k a0 a1) (impl_IsMemory.f (k + 1) a0 a1) := by
 intro a0 a1 k
 obtain ⟨ih0, ih1⟩ := impl_IsMemory.mono_l k
 unfold impl_IsMemory.f
 exact mo4_ ih0 ih1 impl_areNumbers.mono slices_ContainsFunc_impl_Known_impl_Known_with_impl_IsMemory_1.mono
theorem impl_IsMemory.calls (k : Nat) (A0 : Option Addr) (c0 : Nat) (l0 : List (S61)) (a1 : Int) (r : Bool) (w : World) (hr0 : Kd.C k61 w A0 l0.length l0) (hc0 : l0.length ≤ c0) (h : impl_IsMemory.f k l0 a1 = some r) :
  Calls Try.prog 13 #[.slice A0 l0.length c0, .int .i64 a1] w fun e w' => e = .returned (.bool r) ∧ Below w.heap.size w w' := by
 have hu61 := Try.underlying61
 have HR0 := Q_ hr0
 have HC0 := Q_ hc0
 clear hr0 hc0
 have HB := Q_ (Below.refl w.heap.size w)
 have H : (impl_IsMemory.l0 k l0 a1 l0 (l0.length : Int) 0) = some r := h
 clear h
 have H' := Q_ H
 clear H
 go_enter Try.func13, Try.ntmps13
 go_wp2
 go_loopg [9] k (fun kq v9 w' => ∃ (x9_1 : Int), v9 = .int .i64 x9_1 ∧ Aside0 (impl_IsMemory.l0 kq l0 a1 l0 (l0.length : Int) x9_1 = some r) ∧ Aside0 (kq ≤ k) ∧ Aside0 (Below w.heap.size w w'))
 case atStart => exact ⟨(0), el_, H', ⟨Nat.le_refl _⟩, ⟨pb_ HB.out⟩⟩
 clear H'
 try clear c1
 try clear p2
 obtain ⟨x9_1, rfl, HA, HK1, HB⟩ := hrel
 rcases gk with _ | k1
 ·exact absurd HA.out (by simp [impl_IsMemory.l0])
 have H := HA.out
 clear HA
 simp only [impl_IsMemory.l0] at H
 by_cases c3 : x9_1 < (l0.length : Int)
 rotate_left
 ·rw [if_neg c3] at H
  have c3b0 : decide (x9_1 < (l0.length : Int)) = false := decide_eq_false c3
  clear c3
  obtain rfl := Option.some.inj H
  go_wp2
  go_ret
  exact ⟨er_, pb_ HB.out⟩
 rw [if_pos c3] at H
 have c3b0 : decide (x9_1 < (l0.length : Int)) = true := decide_eq_true c3
 clear c3
 by_cases c4 : 0 ≤ x9_1
 rotate_left
 ·rw [if_neg c4] at H
  exact absurd H (by simp)
 rw [if_pos c4] at H
 have c4b0 : decide (0 ≤ x9_1) = true := decide_eq_true c4
 clear c4
 by_cases c5 : x9_1 < (l0.length : Int)
 rotate_left
 ·rw [if_neg c5] at H
  exact absurd H (by simp)
 rw [if_pos c5] at H
 have c5b0 : decide (x9_1 < (l0.length : Int)) = true := decide_eq_true c5
 clear c5
 have HC6 := Q_ H
 clear H
 have p549 : 0 ≤ (x9_1 : Int) := dt_
 have q549 : x9_1 < (l0.length : Int) := dt_
 obtain ⟨ad549, A549_1, c549_1, e549, hx549_0, hx549_1, hx549_2, hl549_1, hi549_1⟩ := at_T61 HR0.out x9_1 p549 q549
 cases e549
 replace hx549_0 := bt_ HB hx549_0
 replace hx549_1 := bt_ HB hx549_1
 replace hx549_2 := bt_ HB hx549_2
 have HR549_1 := Q_ hi549_1
 have HC549_1 := Q_ hl549_1
 clear hi549_1 hl549_1
 replace p549 := eq_true p549
 replace q549 := eq_true q549
 go_upto_region 4 with (first | ((with_reducible refine gate_dst (N := 6) rfl ?_); (try (refine gate_guard (by rfl) ?_; dsimp only)); refine box_event ?hg (N := 6) ?hd (cs := #[.int .i64 0, .slice none 0 0, .int .i64 0]) (t := 61) ?hr ?_; (case hd => rfl); (case hg => rfl); (case hr => first | (go_simp; done) | (go_simp; rfl)); intro gb550 hg w7 hbox hb; have _ := Q_ (below_step (pb_ HB.out) hb); have BK550 := Q_ (hbox); have GW550 := Q_ ((by rw [hg]; exact (below_size (pb_ HB.out)) : w.heap.size ≤ gb550)); have GE550 := GW550; clear HB; rename_i HB; clear hb hbox hg; have hcz8 := bc3_ BK550.out))
 (try simp only [Act.put, List.setIfInBounds_toArray, List.set_cons_zero, List.set_cons_succ])
 go_cut [36] (fun v36 wc => ∃ (kq : Nat) (x36_5 : Bool), v36 = .bool x36_5 ∧ Aside0 (impl_IsMemory.j1 kq l0 a1 x9_1 l0 (l0.length : Int) x9_1 x36_5 ((rd_T61 l0 x9_1).f0) ((rd_T61 l0 x9_1).f1) ((rd_T61 l0 x9_1).f2) = some r) ∧ Aside0 (kq ≤ k1) ∧ Aside0 (wc.heap[gb550]? = some (.cells #[.int .i64 ((rd_T61 l0 x9_1).f0), (.slice A549_1 ((rd_T61 l0 x9_1).f1).length c549_1), .int .i64 ((rd_T61 l0 x9_1).f2)] 61 (0, 0))) ∧ Aside0 (Below w.heap.size w wc))
 case first =>
  have H := HC6.out
  clear HC6
  replace H := Option.bind_eq_some_iff.mp H
  obtain ⟨t551, A90, H⟩ := H
  (try dsimp only at H)
  have A9 := Q_ A90
  clear A90
  by_cases c10 : t551 = true
  rotate_left
  ·replace c10 := bf_ c10
   subst c10
   rw [if_neg ff_] at H
   have H' := Q_ H
   clear H
   have hcz11 := bc3_ BK550.out
   go_wp2_with (first | ((with_reducible refine gate_callee (f := 28) rfl ?_); refine gl_ (some 16) Try.func28 #[.int .i64 ((rd_T61 l0 x9_1).f0), .int .i64 0, .int .i64 5] ?_; (with_reducible refine (impl_InRange.calls ((rd_T61 l0 x9_1).f0) 0 5 false _ A9.out).mono ?_); rintro e w' ⟨rfl, ⟨nd, rfl⟩⟩; refine ⟨_, rfl, ?_⟩))
   go_meet
   case rel => exact ⟨_, (true), el_, H', ⟨by have := HK1.out; first | omega | exact Nat.le_refl _⟩, ⟨pp_ BK550.out⟩, ⟨pb1_ HB.out GE550.out⟩⟩
  subst c10
  rw [if_pos rfl] at H
  by_cases c12 : (((rd_T61 l0 x9_1).f1).length : Int) > 12
  ·rw [if_pos c12] at H
   have c12b0 : decide (12 < (((rd_T61 l0 x9_1).f1).length : Int)) = true := decide_eq_true c12
   have c12b1 : decide (12 < ((rd_T61 l0 x9_1).f1).length) = true := decide_eq_true (by omega)
   clear c12
   (first | rw [c12b0] | (simp only [i64_w, i32_w]; rw [c12b0]) | rw [c12b1] | skip)
   have H' := Q_ H
   clear H
   have hcz13 := bc3_ BK550.out
   go_wp2_with (first | ((with_reducible refine gate_callee (f := 28) rfl ?_); refine gl_ (some 16) Try.func28 #[.int .i64 ((rd_T61 l0 x9_1).f0), .int .i64 0, .int .i64 5] ?_; (with_reducible refine (impl_InRange.calls ((rd_T61 l0 x9_1).f0) 0 5 true _ A9.out).mono ?_); rintro e w' ⟨rfl, ⟨nd, rfl⟩⟩; refine ⟨_, rfl, ?_⟩))
   go_meet
   case rel => exact ⟨_, (true), el_, H', ⟨by have := HK1.out; first | omega | exact Nat.le_refl _⟩, ⟨pp_ BK550.out⟩, ⟨pb1_ HB.out GE550.out⟩⟩
  rw [if_neg c12] at H
  have c12b0 : decide (12 < (((rd_T61 l0 x9_1).f1).length : Int)) = false := decide_eq_false c12
  have c12b1 : decide (12 < ((rd_T61 l0 x9_1).f1).length) = false := decide_eq_false (by omega)
  clear c12
  (first | rw [c12b0] | (simp only [i64_w, i32_w]; rw [c12b0]) | rw [c12b1] | skip)
  replace H := Option.bind_eq_some_iff.mp H
  obtain ⟨t552, A140, H⟩ := H
  (try dsimp only at H)
  have A14 := Q_ A140
  clear A140
  by_cases c15 : t552 = true
  rotate_left
  ·replace c15 := bf_ c15
   subst c15
   rw [if_neg ff_] at H
   have H' := Q_ H
   clear H
   have hcz16 := bc3_ BK550.out
   go_wp2_with (first | ((with_reducible refine gate_callee (f := 28) rfl ?_); refine gl_ (some 16) Try.func28 #[.int .i64 ((rd_T61 l0 x9_1).f0), .int .i64 0, .int .i64 5] ?_; (with_reducible refine (impl_InRange.calls ((rd_T61 l0 x9_1).f0) 0 5 true _ A9.out).mono ?_); rintro e w' ⟨rfl, ⟨nd, rfl⟩⟩; refine ⟨_, rfl, ?_⟩) | (go_at_call 35; (with_reducible refine (impl_areNumbers.calls k1 _ _ ((rd_T61 l0 x9_1).f1) 1 1255 false _ ?side1 ?side2 A14.out).mono ?_); (case side1 => exact Kd.C_below HR549_1.out (pb1_ HB.out GE550.out)); (case side2 => exact HC549_1.out); rintro e w17 ⟨rfl, hb⟩; have _ := Q_ (blk_below (g := gb550) (o := .cells #[.int .i64 ((rd_T61 l0 x9_1).f0), .slice A549_1 ((rd_T61 l0 x9_1).f1).length c549_1, .int .i64 ((rd_T61 l0 x9_1).f2)] 61 (0, 0)) (pp_ BK550.out) hb); have _ := Q_ (below_step (pb1_ HB.out GE550.out) hb); clear BK550 HB; rename_i BK550 HB; (try clear hb); (try clear hb2); (try clear hk); (try clear hi)))
   go_meet
   case rel => exact ⟨_, (true), el_, H', ⟨by have := HK1.out; first | omega | exact Nat.le_refl _⟩, ⟨pk_ BK550.out⟩, ⟨pb1_ HB.out GE550.out⟩⟩
  subst c15
  rw [if_pos rfl] at H
  replace H := Option.bind_eq_some_iff.mp H
  obtain ⟨t553, A180, H⟩ := H
  (try dsimp only at H)
  have A18 := Q_ A180
  clear A180
  have H' := Q_ H
  clear H
  have hcz19 := bc3_ BK550.out
  go_wp2_with (first | ((with_reducible refine gate_callee (f := 28) rfl ?_); refine gl_ (some 16) Try.func28 #[.int .i64 ((rd_T61 l0 x9_1).f0), .int .i64 0, .int .i64 5] ?_; (with_reducible refine (impl_InRange.calls ((rd_T61 l0 x9_1).f0) 0 5 true _ A9.out).mono ?_); rintro e w' ⟨rfl, ⟨nd, rfl⟩⟩; refine ⟨_, rfl, ?_⟩) | (go_at_call 35; (with_reducible refine (impl_areNumbers.calls k1 _ _ ((rd_T61 l0 x9_1).f1) 1 1255 true _ ?side1 ?side2 A14.out).mono ?_); (case side1 => exact Kd.C_below HR549_1.out (pb1_ HB.out GE550.out)); (case side2 => exact HC549_1.out); rintro e w20 ⟨rfl, hb⟩; have _ := Q_ (blk_below (g := gb550) (o := .cells #[.int .i64 ((rd_T61 l0 x9_1).f0), .slice A549_1 ((rd_T61 l0 x9_1).f1).length c549_1, .int .i64 ((rd_T61 l0 x9_1).f2)] 61 (0, 0)) (pp_ BK550.out) hb); have _ := Q_ (below_step (pb1_ HB.out GE550.out) hb); clear BK550 HB; rename_i BK550 HB; (try clear hb); (try clear hb2); (try clear hk); (try clear hi); have hcz21 := bc3_ BK550.out) | (go_at_call 28; (with_reducible refine (impl_InRange.calls ((rd_T61 l0 x9_1).f2) 0 a1 t553 _ A18.out).mono ?_); rintro e w' ⟨rfl, ⟨nd, rfl⟩⟩))
  go_meet
  case rel => exact ⟨_, (!t553), el_, H', ⟨by have := HK1.out; first | omega | exact Nat.le_refl _⟩, ⟨pk_ BK550.out⟩, ⟨pb1_ HB.out GE550.out⟩⟩
 clear HC6
 try clear c1
 try clear c2
 try clear p2
 try clear c3
 try clear c3b0
 try clear c4
 try clear c4b0
 try clear c5
 try clear c5b0
 try clear p5
 try clear q5
 try clear hx5
 try clear c10
 try clear c12
 try clear c12b0
 try clear c12b1
 try clear c13
 try clear c15
 try clear hcz11
 try clear hcz13
 try clear hcz16
 try clear hcz19
 try clear hcz21
 try clear hcz8
 try clear hx549_0
 try clear hx549_1
 try clear hx549_2
 try clear p2
 try clear p549
 try clear q549
 obtain ⟨kq, x36_5, rfl, HA, HJ5, BK550, HB⟩ := hcut
 rcases kq with _ | kj5
 ·exact absurd HA.out (by simp [impl_IsMemory.j1])
 have H := HA.out
 clear HA
 simp only [impl_IsMemory.j1] at H
 by_cases c22 : x36_5 = true
 ·subst c22
  rw [if_pos rfl] at H
  obtain rfl := Option.some.inj H
  go_wp2
  go_ret
  exact ⟨er_, pb1_ HB.out GE550.out⟩
 replace c22 := bf_ c22
 subst c22
 rw [if_neg ff_] at H
 by_cases c23 : 0 ≤ x9_1
 rotate_left
 ·rw [if_neg c23] at H
  exact absurd H (by simp)
 rw [if_pos c23] at H
 have c23b0 := eq_true c23
 have c23b1 : decide (0 ≤ x9_1) = true := decide_eq_true c23
 clear c23
 by_cases c24 : x9_1 ≤ (l0.length : Int)
 rotate_left
 ·rw [if_neg c24] at H
  exact absurd H (by simp)
 rw [if_pos c24] at H
 have c24b0 := eq_true c24
 have c24b1 : decide (x9_1 ≤ (l0.length : Int)) = true := decide_eq_true c24
 clear c24
 obtain ⟨y554, hy554⟩ : ∃ y_ : List (S61), y_ = (l0.take (x9_1 : Int).toNat) := ⟨_, rfl⟩
 replace H : ((slices_ContainsFunc_impl_Known_impl_Known_with_impl_IsMemory_1.f kj5 y554 ((rd_T61 l0 x9_1).f0) ((rd_T61 l0 x9_1).f1) ((rd_T61 l0 x9_1).f2)).bind fun t558 => (if t558 = true then (some false) else (impl_IsMemory.l0 kj5 l0 a1 l0 (l0.length : Int) (wrap64 (x9_1 + 1))))) = some r := hb_ hy554 H
 have Ny554 := Q_ hy554
 clear hy554
 replace H := Option.bind_eq_some_iff.mp H
 obtain ⟨t558, A250, H⟩ := H
 (try dsimp only at H)
 have A25 := Q_ A250
 clear A250
 have HS_ := Q_ H
 clear H
 have q26 : (x9_1 : Int) ≤ ((l0.length : Int) : Int) := dt_
 obtain ⟨i026, hi026, _, hsz26, _⟩ := info_parts info61
 have hroom26 : l0.length ≤ c0 := HC0.out
 have hC26 : Kd.C k61 _ (some ad549) l0.length l0 := HR0.out
 have hcut26 := cut_to (P := Try.prog) 24 61 .i64 Try.underlying24 hi026 (some ad549) l0.length c0 x9_1 dt_ q26 hroom26
 have hr26 := Kd.C_take (m := (x9_1 : Int).toNat) hC26 (by omega)
 have hy26 : y554.length = (x9_1 : Int).toNat := (by rw [Ny554.out, List.length_take]; omega)
 rw [← Ny554.out] at hr26
 rw [← hy26] at hcut26
 have HR557 := Q_ hr26
 have HC557 := Q_ (show y554.length ≤ c0 from by omega)
 clear hr26 hC26 hroom26 hi026 hsz26
 have KY26 := Q_ hy26
 clear hy26
 replace q26 := eq_true q26
 go_upto_if 41 with (first | (go_at_call 36; (with_reducible refine (slices_ContainsFunc_impl_Known_impl_Known_with_impl_IsMemory_1.calls kj5 _ _ y554 _ ((rd_T61 l0 x9_1).f0) A549_1 c549_1 ((rd_T61 l0 x9_1).f1) ((rd_T61 l0 x9_1).f2) t558 _ ?side1 ?side2 ?side3 ?side4 ?side5 A25.out).mono ?_); (case side1 => exact cb_ HR557 HB); (case side2 => exact HC557.out); (case side3 => exact cb_ HR549_1 HB); (case side4 => exact HC549_1.out); (case side5 => exact pk_ BK550.out); rintro e w27 ⟨rfl, hb⟩; have _ := Q_ (bb_ BK550.out hb); have _ := Q_ (below_step (pb1_ HB.out GE550.out) hb); clear BK550 HB; rename_i BK550 HB; (try clear hb); (try clear hb2); (try clear hk); (try clear hi)))
 (try simp only [Act.put, List.setIfInBounds_toArray, List.set_cons_zero, List.set_cons_succ])
 have H := HS_.out
 clear HS_
 by_cases c28 : t558 = true
 rotate_left
 ·replace c28 := bf_ c28
  subst c28
  rw [if_neg ff_] at H
  have H' := Q_ H
  clear H
  go_wp2
  go_roundg kj5
  case measure => have := HK1.out; have := HJ5.out; omega
  case rel => exact ⟨(wrap64 (x9_1 + 1)), el_, H', ⟨by have := HK1.out; have := HJ5.out; omega⟩, ⟨pb1_ HB.out GE550.out⟩⟩
 subst c28
 rw [if_pos rfl] at H
 obtain rfl := Option.some.inj H
 go_wp2
 go_ret
 exact ⟨er_, pb1_ HB.out GE550.out⟩

/-! ### impl_CountStates_1: function 100014 -/
def impl_CountStates_1.f (k : Nat) (a0_0 : Int) (l0_1 : List Int) (a0_2 : Int) (a1_0 : Int) (l1_1 : List Int) (a1_2 : Int) : Option (Bool) := (slices_Equal_int_int.f k l0_1 l1_1).bind fun t560 => (some t560)
theorem impl_CountStates_1.mono : ∀ a0 a1 a2 a3 a4 a5 k, LeO (impl_CountStates_1.f k a0 a1 a2 a3 a4 a5) (impl_CountStates_1.f (k + 1) a0 a1 a2 a3 a4 a5) := by
 intro a0 a1 a2 a3 a4 a5 k
 unfold impl_CountStates_1.f
 exact mo1_ slices_Equal_int_int.mono
theorem impl_CountStates_1.calls (k : Nat) (a0_0 : Int) (A0_1 : Option Addr) (c0_1 : Nat) (l0_1 : List Int) (a0_2 : Int) (B1 : Nat) (a1_0 : Int) (A1_1 : Option Addr) (c1_1 : Nat) (l1_1 : List Int) (a1_2 : Int) (r : Bool) (w : World) (hr0_1 : Kd.C (Kd.int .i64) w A0_1 l0_1.length l0_1) (hc0_1 : l0_1.length ≤ c0_1) (hr1_1 : Kd.C (Kd.int .i64) w A1_1 l1_1.length l1_1) (hc1_1 : l1_1.length ≤ c1_1) (hbv1 : w.heap[B1]? = some (.cells #[.int .i64 a1_0, .slice A1_1 l1_1.length c1_1, .int .i64 a1_2] 61 (0, 0))) (h : impl_CountStates_1.f k a0_0 l0_1 a0_2 a1_0 l1_1 a1_2 = some r) :
  Calls Try.prog 38 #[.agg #[.int .i64 a0_0, .slice A0_1 l0_1.length c0_1, .int .i64 a0_2], .pointer (some ⟨B1, 0, none⟩)] w fun e w' => e = .returned (.bool r) ∧ Below w.heap.size w w' := by
 have hu61 := Try.underlying61
 have HR0_1 := Q_ hr0_1
 have HC0_1 := Q_ hc0_1
 clear hr0_1 hc0_1
 have HR1_1 := Q_ hr1_1
 have HC1_1 := Q_ hc1_1
 clear hr1_1 hc1_1
 have BK1 := Q_ hbv1
 clear hbv1
 have HB := Q_ (Below.refl w.heap.size w)
 have H : ((slices_Equal_int_int.f k l0_1 l1_1).bind fun t560 => (some t560)) = some r := h
 clear h
 replace H := Option.bind_eq_some_iff.mp H
 obtain ⟨t560, A30, H⟩ := H
 replace H : (some t560) = some r := H
 have A3 := Q_ A30
 clear A30
 obtain rfl := Option.some.inj H
 go_enter Try.func38, Try.ntmps38
 go_wp2_with (first | ((with_reducible refine gate_dst (N := 2) rfl ?_); refine box_event ?hg (N := 2) ?hd (cs := #[.int .i64 a0_0, .slice A0_1 l0_1.length c0_1, .int .i64 a0_2]) (t := 61) ?hr ?_; (case hd => rfl); (case hg => rfl); (case hr => first | (go_simp; done) | (go_simp; rfl)); intro gb559 hg w4 hbox hb; have _ := Q_ (bb_ BK1.out hb); have _ := Q_ (below_step (pb_ HB.out) hb); have BK559 := Q_ (hbox); have GW559 := Q_ ((by rw [hg]; exact (below_size (pb_ HB.out)) : w.heap.size ≤ gb559)); have GE559 := GW559; have NB1_559 := Q_ ((by rw [hg]; exact Nat.ne_of_lt (blk_lt (pk_ BK1.out)) : B1 ≠ gb559)); have NB559_1 := Q_ NB1_559.out.symm; clear BK1 HB; rename_i BK1 HB; clear hb hbox hg; have hnb5 := NB559_1.out; have hnc5 := NB1_559.out; have hcz6 := bc3_ BK559.out; have hcz7 := bc3_ BK1.out) | ((with_reducible refine gate_callee (f := 32) rfl ?_); refine gl_ (some 8) Try.func32 #[.slice A0_1 l0_1.length c0_1, .slice A1_1 l1_1.length c1_1] ?_; (with_reducible refine (slices_Equal_int_int.calls k _ _ l0_1 _ _ l1_1 t560 _ ?side1 ?side2 ?side3 ?side4 A3.out).mono ?_); (case side1 => exact cb_ HR0_1 HB); (case side2 => exact HC0_1.out); (case side3 => exact cb_ HR1_1 HB); (case side4 => exact HC1_1.out); rintro e w' ⟨rfl, ⟨nd, rfl⟩⟩; refine ⟨_, rfl, ?_⟩))
 go_ret
 exact ⟨er_, pb1_ HB.out GE559.out⟩

/-! ### slices_IndexFunc_impl_Known_impl_Known_with_impl_CountStates_1: function 100013 -/
def slices_IndexFunc_impl_Known_impl_Known_with_impl_CountStates_1.l0 : Nat → List (S61) → Int → Int → Int → List Int → Int → Option (Int)
 | 0, _, _, _, _, _, _ => none
 | k + 1, x0, x7, x8, x2000, x2001, x2002 => if x8 < x7 then (if 0 ≤ x8 then (if x8 < (x0.length : Int) then ((impl_CountStates_1.f k ((rd_T61 x0 x8).f0) ((rd_T61 x0 x8).f1) ((rd_T61 x0 x8).f2) x2000 x2001 x2002).bind fun t562 => (if t562 = true then (some x8) else (slices_IndexFunc_impl_Known_impl_Known_with_impl_CountStates_1.l0 k x0 x7 (wrap64 (x8 + 1)) x2000 x2001 x2002))) else (none)) else (none)) else (some (-1))
def slices_IndexFunc_impl_Known_impl_Known_with_impl_CountStates_1.f (k : Nat) (l0 : List (S61)) (a1_0 : Int) (l1_1 : List Int) (a1_2 : Int) : Option (Int) := slices_IndexFunc_impl_Known_impl_Known_with_impl_CountStates_1.l0 k l0 (l0.length : Int) 0 a1_0 l1_1 a1_2
theorem slices_IndexFunc_impl_Known_impl_Known_with_impl_CountStates_1.mono_l : ∀ k, (∀ y0 y1 y2 y3 y4 y5, LeO (slices_IndexFunc_impl_Known_impl_Known_with_impl_CountStates_1.l0 k y0 y1 y2 y3 y4 y5) (slices_IndexFunc_impl_Known_impl_Known_with_impl_CountStates_1.l0 (k + 1) y0 y1 y2 y3 y4 y5))
 | 0 => fun _ _ _ _ _ _ r h => by simp [slices_IndexFunc_impl_Known_impl_Known_with_impl_CountStates_1.l0] at h
 | k + 1 => by
  have ih0 := slices_IndexFunc_impl_Known_impl_Known_with_impl_CountStates_1.mono_l k
  ·intro y0 y1 y2 y3 y4 y5
   unfold slices_IndexFunc_impl_Known_impl_Known_with_impl_CountStates_1.l0
   exact mo2_ ih0 impl_CountStates_1.mono
theorem slices_IndexFunc_impl_Known_impl_Known_with_impl_CountStates_1.mono : ∀ a0 a1 a2 a3 k, LeO (slices_IndexFunc_impl_Known_impl_Known_with_impl_CountStates_1.f k a0 a1 a2 a3) (slices_IndexFunc_impl_Known_impl_Known_with_impl_CountStates_1.f (k + 1) a0 a1 a2 a3) := by
 intro a0 a1 a2 a3 k
 have ih0 := slices_IndexFunc_impl_Known_impl_Known_with_impl_CountStates_1.mono_l k
 unfold slices_IndexFunc_impl_Known_impl_Known_with_impl_CountStates_1.f
 exact mo2_ ih0 impl_CountStates_1.mono
theorem slices_IndexFunc_impl_Known_impl_Known_with_impl_CountStates_1.calls (k : Nat) (A0 : Option Addr) (c0 : Nat) (l0 : List (S61)) (B1 : Nat) (a1_0 : Int) (A1_1 : Option Addr) (c1_1 : Nat) (l1_1 : List Int) (a1_2 : Int) (r : Int) (w : World) (hr0 : Kd.C k61 w A0 l0.length l0) (hc0 : l0.length ≤ c0) (hr1_1 : Kd.C (Kd.int .i64) w A1_1 l1_1.length l1_1) (hc1_1 : l1_1.length ≤ c1_1) (hbv1 : w.heap[B1]? = some (.cells #[.int .i64 a1_0, .slice A1_1 l1_1.length c1_1, .int .i64 a1_2] 61 (0, 0))) (h : slices_IndexFunc_impl_Known_impl_Known_with_impl_CountStates_1.f k l0 a1_0 l1_1 a1_2 = some r) :
  Calls Try.prog 49 #[.slice A0 l0.length c0, .func (.func 38) #[] #[.pointer (some ⟨B1, 0, none⟩)]] w fun e w' => e = .returned (.int .i64 r) ∧ Below w.heap.size w w' := by
 have hu61 := Try.underlying61
 have HR0 := Q_ hr0
 have HC0 := Q_ hc0
 clear hr0 hc0
 have HR1_1 := Q_ hr1_1
 have HC1_1 := Q_ hc1_1
 clear hr1_1 hc1_1
 have BK1 := Q_ hbv1
 clear hbv1
 have HB := Q_ (Below.refl w.heap.size w)
 have H : (slices_IndexFunc_impl_Known_impl_Known_with_impl_CountStates_1.l0 k l0 (l0.length : Int) 0 a1_0 l1_1 a1_2) = some r := h
 clear h
 have H' := Q_ H
 clear H
 go_enter Try.func49, Try.ntmps49
 go_wp2
 go_loopg [8] k (fun kq v8 w' => ∃ (x8_1 : Int), v8 = .int .i64 x8_1 ∧ Aside0 (slices_IndexFunc_impl_Known_impl_Known_with_impl_CountStates_1.l0 kq l0 (l0.length : Int) x8_1 a1_0 l1_1 a1_2 = some r) ∧ Aside0 (kq ≤ k) ∧ Aside0 (w'.heap[B1]? = some (.cells #[.int .i64 a1_0, (.slice A1_1 l1_1.length c1_1), .int .i64 a1_2] 61 (0, 0))) ∧ Aside0 (Below w.heap.size w w'))
 case atStart => exact ⟨(0), el_, H', ⟨Nat.le_refl _⟩, ⟨pk_ BK1.out⟩, ⟨pb_ HB.out⟩⟩
 clear H'
 try clear c1
 try clear p2
 obtain ⟨x8_1, rfl, HA, HK1, BK1, HB⟩ := hrel
 rcases gk with _ | k1
 ·exact absurd HA.out (by simp [slices_IndexFunc_impl_Known_impl_Known_with_impl_CountStates_1.l0])
 have H := HA.out
 clear HA
 simp only [slices_IndexFunc_impl_Known_impl_Known_with_impl_CountStates_1.l0] at H
 by_cases c3 : x8_1 < (l0.length : Int)
 rotate_left
 ·rw [if_neg c3] at H
  have c3b0 : decide (x8_1 < (l0.length : Int)) = false := decide_eq_false c3
  clear c3
  obtain rfl := Option.some.inj H
  go_wp2
  go_ret
  exact ⟨er_, pb_ HB.out⟩
 rw [if_pos c3] at H
 have c3b0 : decide (x8_1 < (l0.length : Int)) = true := decide_eq_true c3
 clear c3
 by_cases c4 : 0 ≤ x8_1
 rotate_left
 ·rw [if_neg c4] at H
  exact absurd H (by simp)
 rw [if_pos c4] at H
 have c4b0 : decide (0 ≤ x8_1) = true := decide_eq_true c4
 clear c4
 by_cases c5 : x8_1 < (l0.length : Int)
 rotate_left
 ·rw [if_neg c5] at H
  exact absurd H (by simp)
 rw [if_pos c5] at H
 have c5b0 : decide (x8_1 < (l0.length : Int)) = true := decide_eq_true c5
 clear c5
 replace H := Option.bind_eq_some_iff.mp H
 obtain ⟨t562, A60, H⟩ := H
 (try dsimp only at H)
 have A6 := Q_ A60
 clear A60
 have HS_ := Q_ H
 clear H
 have p561 : 0 ≤ (x8_1 : Int) := dt_
 have q561 : x8_1 < (l0.length : Int) := dt_
 obtain ⟨ad561, A561_1, c561_1, e561, hx561_0, hx561_1, hx561_2, hl561_1, hi561_1⟩ := at_T61 HR0.out x8_1 p561 q561
 cases e561
 replace hx561_0 := bt_ HB hx561_0
 replace hx561_1 := bt_ HB hx561_1
 replace hx561_2 := bt_ HB hx561_2
 have HR561_1 := Q_ hi561_1
 have HC561_1 := Q_ hl561_1
 clear hi561_1 hl561_1
 replace p561 := eq_true p561
 replace q561 := eq_true q561
 go_upto_if 16 with (first | (go_at_call 38; (with_reducible refine (impl_CountStates_1.calls k1 ((rd_T61 l0 x8_1).f0) _ _ ((rd_T61 l0 x8_1).f1) ((rd_T61 l0 x8_1).f2) _ a1_0 A1_1 c1_1 l1_1 a1_2 t562 _ ?side1 ?side2 ?side3 ?side4 ?side5 A6.out).mono ?_); (case side1 => exact cb_ HR561_1 HB); (case side2 => exact HC561_1.out); (case side3 => exact cb_ HR1_1 HB); (case side4 => exact HC1_1.out); (case side5 => exact pk_ BK1.out); rintro e w7 ⟨rfl, hb⟩; have _ := Q_ (bb_ BK1.out hb); have _ := Q_ (below_step (pb_ HB.out) hb); clear BK1 HB; rename_i BK1 HB; (try clear hb); (try clear hb2); (try clear hk); (try clear hi)))
 (try simp only [Act.put, List.setIfInBounds_toArray, List.set_cons_zero, List.set_cons_succ])
 have H := HS_.out
 clear HS_
 by_cases c8 : t562 = true
 rotate_left
 ·replace c8 := bf_ c8
  subst c8
  rw [if_neg ff_] at H
  have H' := Q_ H
  clear H
  go_wp2
  go_roundg k1
  case measure => have := HK1.out; omega
  case rel => exact ⟨(wrap64 (x8_1 + 1)), el_, H', ⟨by have := HK1.out; omega⟩, ⟨pk_ BK1.out⟩, ⟨pb_ HB.out⟩⟩
 subst c8
 rw [if_pos rfl] at H
 obtain rfl := Option.some.inj H
 go_wp2
 go_ret
 exact ⟨er_, pb_ HB.out⟩

/-! ### slices_ContainsFunc_impl_Known_impl_Known_with_impl_CountStates_1: function 100012 -/
def slices_ContainsFunc_impl_Known_impl_Known_with_impl_CountStates_1.f (k : Nat) (l0 : List (S61)) (a1_0 : Int) (l1_1 : List Int) (a1_2 : Int) : Option (Bool) := (slices_IndexFunc_impl_Known_impl_Known_with_impl_CountStates_1.f k l0 a1_0 l1_1 a1_2).bind fun t563 => (some (decide (t563 ≥ 0)))
theorem slices_ContainsFunc_impl_Known_impl_Known_with_impl_CountStates_1.mono : ∀ a0 a1 a2 a3 k, LeO (slices_ContainsFunc_impl_Known_impl_Known_with_impl_CountStates_1.f k a0 a1 a2 a3) (slices_ContainsFunc_impl_Known_impl_Known_with_impl_CountStates_1.f (k + 1) a0 a1 a2 a3) := by
 intro a0 a1 a2 a3 k
 unfold slices_ContainsFunc_impl_Known_impl_Known_with_impl_CountStates_1.f
 exact mo1_ slices_IndexFunc_impl_Known_impl_Known_with_impl_CountStates_1.mono
theorem slices_ContainsFunc_impl_Known_impl_Known_with_impl_CountStates_1.calls (k : Nat) (A0 : Option Addr) (c0 : Nat) (l0 : List (S61)) (B1 : Nat) (a1_0 : Int) (A1_1 : Option Addr) (c1_1 : Nat) (l1_1 : List Int) (a1_2 : Int) (r : Bool) (w : World) (hr0 : Kd.C k61 w A0 l0.length l0) (hc0 : l0.length ≤ c0) (hr1_1 : Kd.C (Kd.int .i64) w A1_1 l1_1.length l1_1) (hc1_1 : l1_1.length ≤ c1_1) (hbv1 : w.heap[B1]? = some (.cells #[.int .i64 a1_0, .slice A1_1 l1_1.length c1_1, .int .i64 a1_2] 61 (0, 0))) (h : slices_ContainsFunc_impl_Known_impl_Known_with_impl_CountStates_1.f k l0 a1_0 l1_1 a1_2 = some r) :
  Calls Try.prog 36 #[.slice A0 l0.length c0, .func (.func 38) #[] #[.pointer (some ⟨B1, 0, none⟩)]] w fun e w' => e = .returned (.bool r) ∧ Below w.heap.size w w' := by
 have HR0 := Q_ hr0
 have HC0 := Q_ hc0
 clear hr0 hc0
 have HR1_1 := Q_ hr1_1
 have HC1_1 := Q_ hc1_1
 clear hr1_1 hc1_1
 have BK1 := Q_ hbv1
 clear hbv1
 have HB := Q_ (Below.refl w.heap.size w)
 have H : ((slices_IndexFunc_impl_Known_impl_Known_with_impl_CountStates_1.f k l0 a1_0 l1_1 a1_2).bind fun t563 => (some (decide (t563 ≥ 0)))) = some r := h
 clear h
 replace H := Option.bind_eq_some_iff.mp H
 obtain ⟨t563, A30, H⟩ := H
 replace H : (some (decide (t563 ≥ 0))) = some r := H
 have A3 := Q_ A30
 clear A30
 obtain rfl := Option.some.inj H
 go_enter Try.func36, Try.ntmps36
 go_wp2_with (first | (go_at_call 49; (with_reducible refine (slices_IndexFunc_impl_Known_impl_Known_with_impl_CountStates_1.calls k _ _ l0 _ a1_0 A1_1 c1_1 l1_1 a1_2 t563 _ ?side1 ?side2 ?side3 ?side4 ?side5 A3.out).mono ?_); (case side1 => exact pc_ HR0.out); (case side2 => exact HC0.out); (case side3 => exact pc_ HR1_1.out); (case side4 => exact HC1_1.out); (case side5 => exact pk_ BK1.out); rintro e w4 ⟨rfl, hb⟩; have _ := Q_ (bb_ BK1.out hb); have _ := Q_ (below_step (pb_ HB.out) hb); clear BK1 HB; rename_i BK1 HB; (try clear hb); (try clear hb2); (try clear hk); (try clear hi)))
 go_ret
 exact ⟨er_, pb_ HB.out⟩

/-! ### impl_CountStates: function 14 -/
def impl_CountStates.l0 : Nat → List (S61) → Int → List (S61) → Int → Int → Option (Int)
 | 0, _, _, _, _, _ => none
 | k + 1, x0, x3, x6, x7, x8 => if x8 < x7 then (if 0 ≤ x8 then (if x8 < (x6.length : Int) then (if x8 ≤ (x0.length : Int) then ((slices_ContainsFunc_impl_Known_impl_Known_with_impl_CountStates_1.f k (x0.take (x8 : Int).toNat) ((rd_T61 x6 x8).f0) ((rd_T61 x6 x8).f1) ((rd_T61 x6 x8).f2)).bind fun t570 => (if t570 = true then (impl_CountStates.l0 k x0 x3 x6 x7 (wrap64 (x8 + 1))) else (impl_CountStates.l0 k x0 (wrap64 (x3 + 1)) x6 x7 (wrap64 (x8 + 1))))) else (none)) else (none)) else (none)) else (some x3)
def impl_CountStates.f (k : Nat) (l0 : List (S61)) : Option (Int) := impl_CountStates.l0 k l0 0 l0 (l0.length : Int) 0
theorem impl_CountStates.mono_l : ∀ k, (∀ y0 y1 y2 y3 y4, LeO (impl_CountStates.l0 k y0 y1 y2 y3 y4) (impl_CountStates.l0 (k + 1) y0 y1 y2 y3 y4))
 | 0 => fun _ _ _ _ _ r h => by simp [impl_CountStates.l0] at h
 | k + 1 => by
  have ih0 := impl_CountStates.mono_l k
  ·intro y0 y1 y2 y3 y4
   unfold impl_CountStates.l0
   exact mo2_ ih0 slices_ContainsFunc_impl_Known_impl_Known_with_impl_CountStates_1.mono
theorem impl_CountStates.mono : ∀ a0 k, LeO (impl_CountStates.f k a0) (impl_CountStates.f (k + 1) a0) := by
 intro a0 k
 have ih0 := impl_CountStates.mono_l k
 unfold impl_CountStates.f
 exact mo2_ ih0 slices_ContainsFunc_impl_Known_impl_Known_with_impl_CountStates_1.mono
theorem impl_CountStates.calls (k : Nat) (A0 : Option Addr) (c0 : Nat) (l0 : List (S61)) (r : Int) (w : World) (hr0 : Kd.C k61 w A0 l0.length l0) (hc0 : l0.length ≤ c0) (h : impl_CountStates.f k l0 = some r) :
  Calls Try.prog 14 #[.slice A0 l0.length c0] w fun e w' => e = .returned (.int .i64 r) ∧ Below w.heap.size w w' := by
 have hu61 := Try.underlying61
 have HR0 := Q_ hr0
 have HC0 := Q_ hc0
 clear hr0 hc0
 have HB := Q_ (Below.refl w.heap.size w)
 have H : (impl_CountStates.l0 k l0 0 l0 (l0.length : Int) 0) = some r := h
 clear h
 have H' := Q_ H
 clear H
 go_enter Try.func14, Try.ntmps14
 go_wp2
 go_loopg [3, 8] k (fun kq v3 v8 w' => ∃ (x3_1 : Int) (x8_1 : Int), v3 = .int .i64 x3_1 ∧ v8 = .int .i64 x8_1 ∧ Aside0 (impl_CountStates.l0 kq l0 x3_1 l0 (l0.length : Int) x8_1 = some r) ∧ Aside0 (kq ≤ k) ∧ Aside0 (Below w.heap.size w w'))
 case atStart => exact ⟨(0), (0), el_, el_, H', ⟨Nat.le_refl _⟩, ⟨pb_ HB.out⟩⟩
 clear H'
 try clear c1
 obtain ⟨x3_1, x8_1, rfl, rfl, HA, HK1, HB⟩ := hrel
 rcases gk with _ | k1
 ·exact absurd HA.out (by simp [impl_CountStates.l0])
 have H := HA.out
 clear HA
 simp only [impl_CountStates.l0] at H
 by_cases c2 : x8_1 < (l0.length : Int)
 rotate_left
 ·rw [if_neg c2] at H
  have c2b0 : decide (x8_1 < (l0.length : Int)) = false := decide_eq_false c2
  clear c2
  obtain rfl := Option.some.inj H
  go_wp2
  go_ret
  exact ⟨er_, pb_ HB.out⟩
 rw [if_pos c2] at H
 have c2b0 : decide (x8_1 < (l0.length : Int)) = true := decide_eq_true c2
 clear c2
 by_cases c3 : 0 ≤ x8_1
 rotate_left
 ·rw [if_neg c3] at H
  exact absurd H (by simp)
 rw [if_pos c3] at H
 have c3b0 : decide (0 ≤ x8_1) = true := decide_eq_true c3
 clear c3
 by_cases c4 : x8_1 < (l0.length : Int)
 rotate_left
 ·rw [if_neg c4] at H
  exact absurd H (by simp)
 rw [if_pos c4] at H
 have c4b0 : decide (x8_1 < (l0.length : Int)) = true := decide_eq_true c4
 clear c4
 have HS_ := Q_ H
 clear H
 have p564 : 0 ≤ (x8_1 : Int) := dt_
 have q564 : x8_1 < (l0.length : Int) := dt_
 obtain ⟨ad564, A564_1, c564_1, e564, hx564_0, hx564_1, hx564_2, hl564_1, hi564_1⟩ := at_T61 HR0.out x8_1 p564 q564
 cases e564
 replace hx564_0 := bt_ HB hx564_0
 replace hx564_1 := bt_ HB hx564_1
 replace hx564_2 := bt_ HB hx564_2
 have HR564_1 := Q_ hi564_1
 have HC564_1 := Q_ hl564_1
 clear hi564_1 hl564_1
 replace p564 := eq_true p564
 replace q564 := eq_true q564
 go_upto_region 5 with (first | ((with_reducible refine gate_dst (N := 5) rfl ?_); refine box_event ?hg (N := 5) ?hd (cs := #[.int .i64 0, .slice none 0 0, .int .i64 0]) (t := 61) ?hr ?_; (case hd => rfl); (case hg => rfl); (case hr => first | (go_simp; done) | (go_simp; rfl)); intro gb565 hg w5 hbox hb; have _ := Q_ (below_step (pb_ HB.out) hb); have BK565 := Q_ (hbox); have GW565 := Q_ ((by rw [hg]; exact (below_size (pb_ HB.out)) : w.heap.size ≤ gb565)); have GE565 := GW565; clear HB; rename_i HB; clear hb hbox hg; have hcz6 := bc3_ BK565.out))
 (try simp only [Act.put, List.setIfInBounds_toArray, List.set_cons_zero, List.set_cons_succ])
 have H := HS_.out
 clear HS_
 have c7b0 := eq_true (dt_ : 0 ≤ x8_1)
 by_cases c8 : x8_1 ≤ (l0.length : Int)
 rotate_left
 ·rw [if_neg c8] at H
  exact absurd H (by simp)
 rw [if_pos c8] at H
 have c8b0 := eq_true c8
 have c8b1 : decide (x8_1 ≤ (l0.length : Int)) = true := decide_eq_true c8
 clear c8
 obtain ⟨y566, hy566⟩ : ∃ y_ : List (S61), y_ = (l0.take (x8_1 : Int).toNat) := ⟨_, rfl⟩
 replace H : ((slices_ContainsFunc_impl_Known_impl_Known_with_impl_CountStates_1.f k1 y566 ((rd_T61 l0 x8_1).f0) ((rd_T61 l0 x8_1).f1) ((rd_T61 l0 x8_1).f2)).bind fun t570 => (if t570 = true then (impl_CountStates.l0 k1 l0 x3_1 l0 (l0.length : Int) (wrap64 (x8_1 + 1))) else (impl_CountStates.l0 k1 l0 (wrap64 (x3_1 + 1)) l0 (l0.length : Int) (wrap64 (x8_1 + 1))))) = some r := hb_ hy566 H
 have Ny566 := Q_ hy566
 clear hy566
 replace H := Option.bind_eq_some_iff.mp H
 obtain ⟨t570, A90, H⟩ := H
 (try dsimp only at H)
 have A9 := Q_ A90
 clear A90
 have HS_ := Q_ H
 clear H
 have n0_ : Aside0 ((((w5.setCell ⟨gb565, 0, none⟩ (.int .i64 ((rd_T61 l0 x8_1).f0))).setCell ⟨gb565, 1, none⟩ (.slice A564_1 ((rd_T61 l0 x8_1).f1).length c564_1)).setCell ⟨gb565, 2, none⟩ (.int .i64 ((rd_T61 l0 x8_1).f2))).heap[gb565]? = some (.cells #[.int .i64 ((rd_T61 l0 x8_1).f0), .slice A564_1 ((rd_T61 l0 x8_1).f1).length c564_1, .int .i64 ((rd_T61 l0 x8_1).f2)] 61 (0, 0))) := ⟨pp_ BK565.out⟩
 have n1_ : Aside0 (Below w.heap.size w (((w5.setCell ⟨gb565, 0, none⟩ (.int .i64 ((rd_T61 l0 x8_1).f0))).setCell ⟨gb565, 1, none⟩ (.slice A564_1 ((rd_T61 l0 x8_1).f1).length c564_1)).setCell ⟨gb565, 2, none⟩ (.int .i64 ((rd_T61 l0 x8_1).f2)))) := ⟨pb1_ HB.out GE565.out⟩
 (try clear BK565)
 (try clear HB)
 generalize (((w5.setCell ⟨gb565, 0, none⟩ (.int .i64 ((rd_T61 l0 x8_1).f0))).setCell ⟨gb565, 1, none⟩ (.slice A564_1 ((rd_T61 l0 x8_1).f1).length c564_1)).setCell ⟨gb565, 2, none⟩ (.int .i64 ((rd_T61 l0 x8_1).f2))) = w11 at n0_ n1_ ⊢
 (try (rw [show w11.drewN nd = w11.drewN nd from rfl]; replace n0_ := Q_ (blk_drewN n0_.out nd); replace n1_ := Q_ (pw_below_drewN n1_.out nd); generalize w11.drewN nd = w11 at n0_ n1_ ⊢))
 have BK565 := n0_
 have HB := n1_
 clear n0_ n1_
 have q10 : (x8_1 : Int) ≤ ((l0.length : Int) : Int) := dt_
 obtain ⟨i010, hi010, _, hsz10, _⟩ := info_parts info61
 have hroom10 : l0.length ≤ c0 := HC0.out
 have hC10 : Kd.C k61 _ (some ad564) l0.length l0 := HR0.out
 have hcut10 := cut_to (P := Try.prog) 24 61 .i64 Try.underlying24 hi010 (some ad564) l0.length c0 x8_1 dt_ q10 hroom10
 have hr10 := Kd.C_take (m := (x8_1 : Int).toNat) hC10 (by omega)
 have hy10 : y566.length = (x8_1 : Int).toNat := (by rw [Ny566.out, List.length_take]; omega)
 rw [← Ny566.out] at hr10
 rw [← hy10] at hcut10
 have HR569 := Q_ hr10
 have HC569 := Q_ (show y566.length ≤ c0 from by omega)
 clear hr10 hC10 hroom10 hi010 hsz10
 have KY10 := Q_ hy10
 clear hy10
 replace q10 := eq_true q10
 go_upto_if 18 with (first | (go_at_call 36; (with_reducible refine (slices_ContainsFunc_impl_Known_impl_Known_with_impl_CountStates_1.calls k1 _ _ y566 _ ((rd_T61 l0 x8_1).f0) A564_1 c564_1 ((rd_T61 l0 x8_1).f1) ((rd_T61 l0 x8_1).f2) t570 _ ?side1 ?side2 ?side3 ?side4 ?side5 A9.out).mono ?_); (case side1 => exact cb_ HR569 HB); (case side2 => exact HC569.out); (case side3 => exact cb_ HR564_1 HB); (case side4 => exact HC564_1.out); (case side5 => exact pk_ BK565.out); rintro e w12 ⟨rfl, hb⟩; have _ := Q_ (bb_ BK565.out hb); have _ := Q_ (below_step (pb1_ HB.out GE565.out) hb); clear BK565 HB; rename_i BK565 HB; (try clear hb); (try clear hb2); (try clear hk); (try clear hi)))
 (try simp only [Act.put, List.setIfInBounds_toArray, List.set_cons_zero, List.set_cons_succ])
 have H := HS_.out
 clear HS_
 by_cases c13 : t570 = true
 rotate_left
 ·replace c13 := bf_ c13
  subst c13
  rw [if_neg ff_] at H
  have H' := Q_ H
  clear H
  go_wp2
  go_roundg k1
  case measure => have := HK1.out; omega
  case rel => exact ⟨(wrap64 (x3_1 + 1)), (wrap64 (x8_1 + 1)), el_, el_, H', ⟨by have := HK1.out; omega⟩, ⟨pb1_ HB.out GE565.out⟩⟩
 subst c13
 rw [if_pos rfl] at H
 have H' := Q_ H
 clear H
 go_wp2
 go_roundg k1
 case measure => have := HK1.out; omega
 case rel => exact ⟨(x3_1), (wrap64 (x8_1 + 1)), el_, el_, H', ⟨by have := HK1.out; omega⟩, ⟨pb1_ HB.out GE565.out⟩⟩

end Go.Proofs.Ytlcpaebidnaolaa.Print
