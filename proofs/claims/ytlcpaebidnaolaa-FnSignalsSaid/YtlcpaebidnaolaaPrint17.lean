-- Written by a program of this session (printx.py) out of the translation; Lean checks it.
import Derived.Test.YtlcpaebidnaolaaPrint0
namespace Go.Proofs.Ytlcpaebidnaolaa.Print
open Go.RowKit Go.Proofs.YtlcpaebidnaolaaW.PrintWords Go.Proofs.YtlcpaebidnaolaaW.PrintLast Go.Proofs.YtlcpaebidnaolaaW.PrintMore Go.Proofs.Ytlcpaebidnaolaa.Short
attribute [local go_sem] max2_int min2_int max_two min_two max_three min_three max_four min_four   -- for this text's walks alone
set_option linter.unusedVariables false
set_option maxHeartbeats 8000000
set_option maxRecDepth 100000
set_option linter.unusedSimpArgs false

/-! ### slices_Index_int_int: function 73 -/
def slices_Index_int_int.l0 : Nat → List Int → Int → Int → Int → Option (Int)
 | 0, _, _, _, _ => none
 | k + 1, x0, x1, x7, x8 => if x8 < x7 then (if 0 ≤ x8 then (if x8 < (x0.length : Int) then (if x1 = (rd x0 x8) then (some x8) else (slices_Index_int_int.l0 k x0 x1 x7 (wrap64 (x8 + 1)))) else (none)) else (none)) else (some (-1))
def slices_Index_int_int.f (k : Nat) (l0 : List Int) (a1 : Int) : Option (Int) := slices_Index_int_int.l0 k l0 a1 (l0.length : Int) 0
theorem slices_Index_int_int.mono_l : ∀ k, (∀ y0 y1 y2 y3, LeO (slices_Index_int_int.l0 k y0 y1 y2 y3) (slices_Index_int_int.l0 (k + 1) y0 y1 y2 y3))
 | 0 => fun _ _ _ _ r h => by simp [slices_Index_int_int.l0] at h
 | k + 1 => by
  have ih0 := slices_Index_int_int.mono_l k
  ·intro y0 y1 y2 y3
   unfold slices_Index_int_int.l0
   exact mo1_ ih0
theorem slices_Index_int_int.mono : ∀ a0 a1 k, LeO (slices_Index_int_int.f k a0 a1) (slices_Index_int_int.f (k + 1) a0 a1) := by
 intro a0 a1 k
 have ih0 := slices_Index_int_int.mono_l k
 unfold slices_Index_int_int.f
 exact mo1_ ih0
theorem slices_Index_int_int.calls (k : Nat) (A0 : Option Addr) (c0 : Nat) (l0 : List Int) (a1 : Int) (r : Int) (w : World) (hr0 : Kd.C (Kd.int .i64) w A0 l0.length l0) (hc0 : l0.length ≤ c0) (h : slices_Index_int_int.f k l0 a1 = some r) :
  Calls Try.prog 73 #[.slice A0 l0.length c0, .int .i64 a1] w fun e w' => e = .returned (.int .i64 r) ∧ Drawn0 w w' := by
 have HR0 := Q_ hr0
 have HC0 := Q_ hc0
 clear hr0 hc0
 have H : (slices_Index_int_int.l0 k l0 a1 (l0.length : Int) 0) = some r := h
 clear h
 have H' := Q_ H
 clear H
 go_enter Try.func73, Try.ntmps73
 go_wp2
 go_loopg [8] k (fun kq v8 w' => ∃ (x8_1 : Int), v8 = .int .i64 x8_1 ∧ Aside0 (slices_Index_int_int.l0 kq l0 a1 (l0.length : Int) x8_1 = some r) ∧ Aside0 (kq ≤ k) ∧ Drawn0 w w')
 case atStart => exact ⟨(0), el_, H', ⟨Nat.le_refl _⟩, by repeat (first | exact Drawn0.refl _ | apply Drawn0.step)⟩
 clear H'
 try clear p2
 obtain ⟨x8_1, rfl, HA, HK1, ⟨m1, rfl⟩⟩ := hrel
 rcases gk with _ | k1
 ·exact absurd HA.out (by simp [slices_Index_int_int.l0])
 have H := HA.out
 clear HA
 simp only [slices_Index_int_int.l0] at H
 by_cases c3 : x8_1 < (l0.length : Int)
 rotate_left
 ·rw [if_neg c3] at H
  have c3b0 : decide (x8_1 < (l0.length : Int)) = false := decide_eq_false c3
  clear c3
  obtain rfl := Option.some.inj H
  go_wp2
  go_ret
  exact ⟨by first | rfl | (simp; done) | (simp [*]; done), by repeat (first | exact Drawn0.refl _ | apply Drawn0.step)⟩
 rw [if_pos c3] at H
 have c3b0 : decide (x8_1 < (l0.length : Int)) = true := decide_eq_true c3
 clear c3
 by_cases c4 : 0 ≤ x8_1
 rotate_left
 ·rw [if_neg c4] at H
  exact absurd H (by simp)
 rw [if_pos c4] at H
 have c4b0 : decide (0 ≤ x8_1) = true := decide_eq_true c4
 clear c4
 by_cases c5 : x8_1 < (l0.length : Int)
 rotate_left
 ·rw [if_neg c5] at H
  exact absurd H (by simp)
 rw [if_pos c5] at H
 have c5b0 : decide (x8_1 < (l0.length : Int)) = true := decide_eq_true c5
 clear c5
 by_cases c6 : a1 = (rd l0 x8_1)
 rotate_left
 ·rw [if_neg c6] at H
  have c6b0 : (a1 == (rd l0 x8_1)) = false := beq_eq_false_iff_ne.mpr c6
  have c6b1 : (a1 != (rd l0 x8_1)) = true := bne_iff_ne.mpr c6
  have H' := Q_ H
  clear H
  have p834 : 0 ≤ (x8_1 : Int) := dt_
  have q834 : x8_1 < (l0.length : Int) := dt_
  obtain ⟨ad834, e834, hx834_0⟩ := Kd.at_int HR0.out x8_1 p834 q834
  cases e834
  replace p834 := eq_true p834
  replace q834 := eq_true q834
  go_wp2
  go_roundg k1
  case measure => have := HK1.out; omega
  case rel => exact ⟨(wrap64 (x8_1 + 1)), el_, H', ⟨by have := HK1.out; omega⟩, by repeat (first | exact Drawn0.refl _ | apply Drawn0.step)⟩
 rw [if_pos c6] at H
 have c6b0 : (a1 == (rd l0 x8_1)) = true := beq_iff_eq.mpr c6
 have c6b1 : (a1 != (rd l0 x8_1)) = false := bne_eq_false_iff_eq.mpr c6
 clear c6
 obtain rfl := Option.some.inj H
 have p834 : 0 ≤ (x8_1 : Int) := dt_
 have q834 : x8_1 < (l0.length : Int) := dt_
 obtain ⟨ad834, e834, hx834_0⟩ := Kd.at_int HR0.out x8_1 p834 q834
 cases e834
 replace p834 := eq_true p834
 replace q834 := eq_true q834
 go_wp2
 go_ret
 exact ⟨by first | rfl | (simp; done) | (simp [*]; done), by repeat (first | exact Drawn0.refl _ | apply Drawn0.step)⟩

/-! ### slices_Contains_int_int: function 55 -/
def slices_Contains_int_int.f (k : Nat) (l0 : List Int) (a1 : Int) : Option (Bool) := (slices_Index_int_int.f k l0 a1).bind fun t835 => (some (decide (t835 ≥ 0)))
theorem slices_Contains_int_int.mono : ∀ a0 a1 k, LeO (slices_Contains_int_int.f k a0 a1) (slices_Contains_int_int.f (k + 1) a0 a1) := by
 intro a0 a1 k
 unfold slices_Contains_int_int.f
 exact mo1_ slices_Index_int_int.mono
theorem slices_Contains_int_int.calls (k : Nat) (A0 : Option Addr) (c0 : Nat) (l0 : List Int) (a1 : Int) (r : Bool) (w : World) (hr0 : Kd.C (Kd.int .i64) w A0 l0.length l0) (hc0 : l0.length ≤ c0) (h : slices_Contains_int_int.f k l0 a1 = some r) :
  Calls Try.prog 55 #[.slice A0 l0.length c0, .int .i64 a1] w fun e w' => e = .returned (.bool r) ∧ Drawn0 w w' := by
 have HR0 := Q_ hr0
 have HC0 := Q_ hc0
 clear hr0 hc0
 have H : ((slices_Index_int_int.f k l0 a1).bind fun t835 => (some (decide (t835 ≥ 0)))) = some r := h
 clear h
 replace H := Option.bind_eq_some_iff.mp H
 obtain ⟨t835, A30, H⟩ := H
 replace H : (some (decide (t835 ≥ 0))) = some r := H
 have A3 := Q_ A30
 clear A30
 obtain rfl := Option.some.inj H
 go_enter Try.func55, Try.ntmps55
 go_wp2_with (first | ((with_reducible refine gate_callee (f := 73) rfl ?_); refine gl_ (some 7) Try.func73 #[.slice A0 l0.length c0, .int .i64 a1] ?_; (with_reducible refine (slices_Index_int_int.calls k _ _ l0 a1 t835 _ ?side1 ?side2 A3.out).mono ?_); (case side1 => exact pc_ HR0.out); (case side2 => exact HC0.out); rintro e w' ⟨rfl, ⟨nd, rfl⟩⟩; refine ⟨_, rfl, ?_⟩))
 go_ret
 exact ⟨by first | rfl | (simp; done) | (simp [*]; done), by repeat (first | exact Drawn0.refl _ | apply Drawn0.step)⟩

/-! ### impl_isBad: function 43 -/
def impl_isBad.f (k : Nat) (a0_0 : Bool) (a0_1 : Int) (l0_2 : List Int) (a0_3 : Int) (l0_4 : List Int) (a1 : Int) : Option (Bool) := if a0_0 = true then (if a0_1 < a1 then ((slices_Contains_int_int.f k l0_4 a1).bind fun t837 => (some t837)) else (some false)) else (some true)
theorem impl_isBad.mono : ∀ a0 a1 a2 a3 a4 a5 k, LeO (impl_isBad.f k a0 a1 a2 a3 a4 a5) (impl_isBad.f (k + 1) a0 a1 a2 a3 a4 a5) := by
 intro a0 a1 a2 a3 a4 a5 k
 unfold impl_isBad.f
 exact mo1_ slices_Contains_int_int.mono
theorem impl_isBad.calls (k : Nat) (a0_0 : Bool) (a0_1 : Int) (A0_2 : Option Addr) (c0_2 : Nat) (l0_2 : List Int) (a0_3 : Int) (A0_4 : Option Addr) (c0_4 : Nat) (l0_4 : List Int) (a1 : Int) (r : Bool) (w : World) (hr0_2 : Kd.C (Kd.int .i64) w A0_2 l0_2.length l0_2) (hc0_2 : l0_2.length ≤ c0_2) (hr0_4 : Kd.C (Kd.int .i64) w A0_4 l0_4.length l0_4) (hc0_4 : l0_4.length ≤ c0_4) (h : impl_isBad.f k a0_0 a0_1 l0_2 a0_3 l0_4 a1 = some r) :
  Calls Try.prog 43 #[.agg #[.bool a0_0, .int .i64 a0_1, .slice A0_2 l0_2.length c0_2, .int .i64 a0_3, .slice A0_4 l0_4.length c0_4], .int .i64 a1] w fun e w' => e = .returned (.bool r) ∧ Below w.heap.size w w' := by
 have hu50 := Try.underlying50
 have HR0_2 := Q_ hr0_2
 have HC0_2 := Q_ hc0_2
 clear hr0_2 hc0_2
 have HR0_4 := Q_ hr0_4
 have HC0_4 := Q_ hc0_4
 clear hr0_4 hc0_4
 have HB := Q_ (Below.refl w.heap.size w)
 have H : (if a0_0 = true then (if a0_1 < a1 then ((slices_Contains_int_int.f k l0_4 a1).bind fun t837 => (some t837)) else (some false)) else (some true)) = some r := h
 clear h
 have HS_ := Q_ H
 clear H
 go_enter Try.func43, Try.ntmps43
 go_upto_region 1 with (first | ((with_reducible refine gate_dst (N := 2) rfl ?_); refine box_event ?hg (N := 2) ?hd (cs := #[.bool a0_0, .int .i64 a0_1, .slice A0_2 l0_2.length c0_2, .int .i64 a0_3, .slice A0_4 l0_4.length c0_4]) (t := 50) ?hr ?_; (case hd => rfl); (case hg => rfl); (case hr => first | (go_simp; done) | (go_simp; rfl)); intro gb836 hg w3 hbox hb; have _ := Q_ (below_step (pb_ HB.out) hb); have BK836 := Q_ (hbox); have GW836 := Q_ ((by rw [hg]; exact (below_size (pb_ HB.out)) : w.heap.size ≤ gb836)); have GE836 := GW836; clear HB; rename_i HB; clear hb hbox hg))
 (try simp only [Act.put, List.setIfInBounds_toArray, List.set_cons_zero, List.set_cons_succ])
 have H := HS_.out
 clear HS_
 by_cases c4 : a0_0 = true
 rotate_left
 ·replace c4 := bf_ c4
  subst c4
  rw [if_neg ff_] at H
  obtain rfl := Option.some.inj H
  have hcz5 := bc5_ BK836.out
  go_wp2
  go_ret
  exact ⟨er_, pb1_ HB.out GE836.out⟩
 subst c4
 rw [if_pos rfl] at H
 by_cases c6 : a0_1 < a1
 rotate_left
 ·rw [if_neg c6] at H
  have c6b0 : decide (a0_1 < a1) = false := decide_eq_false c6
  clear c6
  (first | rw [c6b0] | (simp only [i64_w, i32_w]; rw [c6b0]) | skip)
  obtain rfl := Option.some.inj H
  have hcz7 := bc5_ BK836.out
  go_wp2
  go_ret
  exact ⟨er_, pb1_ HB.out GE836.out⟩
 rw [if_pos c6] at H
 have c6b0 : decide (a0_1 < a1) = true := decide_eq_true c6
 clear c6
 (first | rw [c6b0] | (simp only [i64_w, i32_w]; rw [c6b0]) | skip)
 replace H := Option.bind_eq_some_iff.mp H
 obtain ⟨t837, A80, H⟩ := H
 replace H : (some t837) = some r := H
 have A8 := Q_ A80
 clear A80
 obtain rfl := Option.some.inj H
 have hcz9 := bc5_ BK836.out
 go_wp2_with (first | (go_at_call 55; (with_reducible refine (slices_Contains_int_int.calls k _ _ l0_4 a1 t837 _ ?side1 ?side2 A8.out).mono ?_); (case side1 => exact cb_ HR0_4 HB); (case side2 => exact HC0_4.out); rintro e w' ⟨rfl, ⟨nd, rfl⟩⟩))
 go_ret
 exact ⟨er_, pb1_ HB.out GE836.out⟩

/-! ### impl_MaskedBy: function 21 -/
def impl_MaskedBy.l0 : Nat → Int → Int → Int → List (S50) → Int → Int → Option (Int × Int)
 | 0, _, _, _, _, _, _ => none
 | k + 1, x1, x6, x7, x10, x11, x12 => if x12 < x11 then (if 0 ≤ x12 then (if x12 < (x10.length : Int) then ((impl_isBad.f k ((rd_T50 x10 x12).f0.f0) ((rd_T50 x10 x12).f0.f1) ((rd_T50 x10 x12).f0.f2) ((rd_T50 x10 x12).f1) ((rd_T50 x10 x12).f2) x1).bind fun t840 => (if t840 = true then (impl_MaskedBy.l0 k x1 x6 (wrap64 (x7 + 1)) x10 x11 (wrap64 (x12 + 1))) else (if ((rd_T50 x10 x12).f0.f1) ≥ x1 then (impl_MaskedBy.l0 k x1 (wrap64 (x6 + 1)) x7 x10 x11 (wrap64 (x12 + 1))) else (impl_MaskedBy.l0 k x1 x6 x7 x10 x11 (wrap64 (x12 + 1)))))) else (none)) else (none)) else (some (x6, x7))
def impl_MaskedBy.f (k : Nat) (l0 : List (S50)) (a1 : Int) : Option (Int × Int) := impl_MaskedBy.l0 k a1 0 0 l0 (l0.length : Int) 0
theorem impl_MaskedBy.mono_l : ∀ k, (∀ y0 y1 y2 y3 y4 y5, LeO (impl_MaskedBy.l0 k y0 y1 y2 y3 y4 y5) (impl_MaskedBy.l0 (k + 1) y0 y1 y2 y3 y4 y5))
 | 0 => fun _ _ _ _ _ _ r h => by simp [impl_MaskedBy.l0] at h
 | k + 1 => by
  have ih0 := impl_MaskedBy.mono_l k
  ·intro y0 y1 y2 y3 y4 y5
   unfold impl_MaskedBy.l0
   exact mo2_ ih0 impl_isBad.mono
theorem impl_MaskedBy.mono : ∀ a0 a1 k, LeO (impl_MaskedBy.f k a0 a1) (impl_MaskedBy.f (k + 1) a0 a1) := by
 intro a0 a1 k
 have ih0 := impl_MaskedBy.mono_l k
 unfold impl_MaskedBy.f
 exact mo2_ ih0 impl_isBad.mono
theorem impl_MaskedBy.calls (k : Nat) (A0 : Option Addr) (c0 : Nat) (l0 : List (S50)) (a1 : Int) (r1 : Int) (r2 : Int) (w : World) (hr0 : Kd.C k50 w A0 l0.length l0) (hc0 : l0.length ≤ c0) (h : impl_MaskedBy.f k l0 a1 = some (r1, r2)) :
  Calls Try.prog 21 #[.slice A0 l0.length c0, .int .i64 a1] w fun e w' => e = .returned (.tuple #[.int .i64 r1, .int .i64 r2]) ∧ Below w.heap.size w w' := by
 have hu50 := Try.underlying50
 have HR0 := Q_ hr0
 have HC0 := Q_ hc0
 clear hr0 hc0
 have HB := Q_ (Below.refl w.heap.size w)
 have H : (impl_MaskedBy.l0 k a1 0 0 l0 (l0.length : Int) 0) = some (r1, r2) := h
 clear h
 have H' := Q_ H
 clear H
 go_enter Try.func21, Try.ntmps21
 go_wp2
 go_loopg [6, 7, 12] k (fun kq v6 v7 v12 w' => ∃ (x6_1 : Int) (x7_1 : Int) (x12_1 : Int), v6 = .int .i64 x6_1 ∧ v7 = .int .i64 x7_1 ∧ v12 = .int .i64 x12_1 ∧ Aside0 (impl_MaskedBy.l0 kq a1 x6_1 x7_1 l0 (l0.length : Int) x12_1 = some (r1, r2)) ∧ Aside0 (kq ≤ k) ∧ Aside0 (Below w.heap.size w w'))
 case atStart => exact ⟨(0), (0), (0), el_, el_, el_, H', ⟨Nat.le_refl _⟩, ⟨pb_ HB.out⟩⟩
 clear H'
 try clear c2
 try clear p2
 obtain ⟨x6_1, x7_1, x12_1, rfl, rfl, rfl, HA, HK1, HB⟩ := hrel
 rcases gk with _ | k1
 ·exact absurd HA.out (by simp [impl_MaskedBy.l0])
 have H := HA.out
 clear HA
 simp only [impl_MaskedBy.l0] at H
 by_cases c3 : x12_1 < (l0.length : Int)
 rotate_left
 ·rw [if_neg c3] at H
  have c3b0 : decide (x12_1 < (l0.length : Int)) = false := decide_eq_false c3
  clear c3
  simp only [Option.some.injEq, Prod.mk.injEq] at H
  obtain ⟨rfl, rfl⟩ := H
  go_wp2
  go_ret2
  exact ⟨er_, pb_ HB.out⟩
 rw [if_pos c3] at H
 have c3b0 : decide (x12_1 < (l0.length : Int)) = true := decide_eq_true c3
 clear c3
 by_cases c4 : 0 ≤ x12_1
 rotate_left
 ·rw [if_neg c4] at H
  exact absurd H (by simp)
 rw [if_pos c4] at H
 have c4b0 : decide (0 ≤ x12_1) = true := decide_eq_true c4
 clear c4
 by_cases c5 : x12_1 < (l0.length : Int)
 rotate_left
 ·rw [if_neg c5] at H
  exact absurd H (by simp)
 rw [if_pos c5] at H
 have c5b0 : decide (x12_1 < (l0.length : Int)) = true := decide_eq_true c5
 clear c5
 have HS_ := Q_ H
 clear H
 have p838 : 0 ≤ (x12_1 : Int) := dt_
 have q838 : x12_1 < (l0.length : Int) := dt_
 obtain ⟨ad838, A838_2, c838_2, A838_4, c838_4, e838, hx838_0, hx838_1, hx838_2, hx838_3, hx838_4, hl838_2, hi838_2, hl838_4, hi838_4⟩ := at_T50 HR0.out x12_1 p838 q838
 cases e838
 replace hx838_0 := bt_ HB hx838_0
 replace hx838_1 := bt_ HB hx838_1
 replace hx838_2 := bt_ HB hx838_2
 replace hx838_3 := bt_ HB hx838_3
 replace hx838_4 := bt_ HB hx838_4
 have HR838_2 := Q_ hi838_2
 have HC838_2 := Q_ hl838_2
 clear hi838_2 hl838_2
 have HR838_4 := Q_ hi838_4
 have HC838_4 := Q_ hl838_4
 clear hi838_4 hl838_4
 replace p838 := eq_true p838
 replace q838 := eq_true q838
 go_upto_region 5 with (first | ((with_reducible refine gate_dst (N := 9) rfl ?_); refine box_event ?hg (N := 9) ?hd (cs := #[.bool false, .int .i64 0, .slice none 0 0, .int .i64 0, .slice none 0 0]) (t := 50) ?hr ?_; (case hd => rfl); (case hg => rfl); (case hr => first | (go_simp; done) | (go_simp; rfl)); intro gb839 hg w6 hbox hb; have _ := Q_ (below_step (pb_ HB.out) hb); have BK839 := Q_ (hbox); have GW839 := Q_ ((by rw [hg]; exact (below_size (pb_ HB.out)) : w.heap.size ≤ gb839)); have GE839 := GW839; clear HB; rename_i HB; clear hb hbox hg; have hcz7 := bc5_ BK839.out))
 (try simp only [Act.put, List.setIfInBounds_toArray, List.set_cons_zero, List.set_cons_succ])
 have H := HS_.out
 clear HS_
 replace H := Option.bind_eq_some_iff.mp H
 obtain ⟨t840, A80, H⟩ := H
 (try dsimp only at H)
 have A8 := Q_ A80
 clear A80
 have HS_ := Q_ H
 clear H
 have hcz9 := bc5_ BK839.out
 go_upto_if 16 with (first | ((with_reducible refine gate_callee (f := 43) rfl ?_); refine gl_ (some 19) Try.func43 #[.agg #[.bool ((rd_T50 l0 x12_1).f0.f0), .int .i64 ((rd_T50 l0 x12_1).f0.f1), .slice A838_2 ((rd_T50 l0 x12_1).f0.f2).length c838_2, .int .i64 ((rd_T50 l0 x12_1).f1), .slice A838_4 ((rd_T50 l0 x12_1).f2).length c838_4], .int .i64 a1] ?_; (with_reducible refine (impl_isBad.calls k1 ((rd_T50 l0 x12_1).f0.f0) ((rd_T50 l0 x12_1).f0.f1) _ _ ((rd_T50 l0 x12_1).f0.f2) ((rd_T50 l0 x12_1).f1) _ _ ((rd_T50 l0 x12_1).f2) a1 t840 _ ?side1 ?side2 ?side3 ?side4 A8.out).mono ?_); (case side1 => exact Kd.C_below HR838_2.out (pb1_ HB.out GE839.out)); (case side2 => exact HC838_2.out); (case side3 => exact Kd.C_below HR838_4.out (pb1_ HB.out GE839.out)); (case side4 => exact HC838_4.out); rintro e w10 ⟨rfl, hb⟩; refine ⟨_, rfl, ?_⟩; have _ := Q_ (blk_below (g := gb839) (o := .cells #[.bool ((rd_T50 l0 x12_1).f0.f0), .int .i64 ((rd_T50 l0 x12_1).f0.f1), .slice A838_2 ((rd_T50 l0 x12_1).f0.f2).length c838_2, .int .i64 ((rd_T50 l0 x12_1).f1), .slice A838_4 ((rd_T50 l0 x12_1).f2).length c838_4] 50 (0, 0)) (pp_ BK839.out) hb); have _ := Q_ (below_step (pb1_ HB.out GE839.out) hb); clear BK839 HB; rename_i BK839 HB; (try clear hb); (try clear hb2); (try clear hk); (try clear hi)))
 (try simp only [Act.put, List.setIfInBounds_toArray, List.set_cons_zero, List.set_cons_succ])
 have H := HS_.out
 clear HS_
 by_cases c11 : t840 = true
 ·subst c11
  rw [if_pos rfl] at H
  have H' := Q_ H
  clear H
  go_wp2
  go_roundg k1
  case measure => have := HK1.out; omega
  case rel => exact ⟨(x6_1), (wrap64 (x7_1 + 1)), (wrap64 (x12_1 + 1)), el_, el_, el_, H', ⟨by have := HK1.out; omega⟩, ⟨pb1_ HB.out GE839.out⟩⟩
 replace c11 := bf_ c11
 subst c11
 rw [if_neg ff_] at H
 by_cases c12 : ((rd_T50 l0 x12_1).f0.f1) ≥ a1
 rotate_left
 ·rw [if_neg c12] at H
  have c12b0 : decide (a1 ≤ ((rd_T50 l0 x12_1).f0.f1)) = false := decide_eq_false c12
  clear c12
  (first | rw [c12b0] | (simp only [i64_w, i32_w]; rw [c12b0]) | skip)
  have H' := Q_ H
  clear H
  have hcz13 := bc5_ BK839.out
  go_wp2
  go_roundg k1
  case measure => have := HK1.out; omega
  case rel => exact ⟨(x6_1), (x7_1), (wrap64 (x12_1 + 1)), el_, el_, el_, H', ⟨by have := HK1.out; omega⟩, ⟨pb1_ HB.out GE839.out⟩⟩
 rw [if_pos c12] at H
 have c12b0 : decide (a1 ≤ ((rd_T50 l0 x12_1).f0.f1)) = true := decide_eq_true c12
 clear c12
 (first | rw [c12b0] | (simp only [i64_w, i32_w]; rw [c12b0]) | skip)
 have H' := Q_ H
 clear H
 have hcz14 := bc5_ BK839.out
 go_wp2
 go_roundg k1
 case measure => have := HK1.out; omega
 case rel => exact ⟨(wrap64 (x6_1 + 1)), (x7_1), (wrap64 (x12_1 + 1)), el_, el_, el_, H', ⟨by have := HK1.out; omega⟩, ⟨pb1_ HB.out GE839.out⟩⟩

/-! ### laws_contains: function 22 -/
def laws_contains.l0 : Nat → List Int → Int → Int → Option (Bool)
 | 0, _, _, _ => none
 | k + 1, x0, x1, x5 => if x5 < (x0.length : Int) then (if 0 ≤ x5 then (if (rd x0 x5) = x1 then (some true) else (laws_contains.l0 k x0 x1 (wrap64 (x5 + 1)))) else (none)) else (some false)
def laws_contains.f (k : Nat) (l0 : List Int) (a1 : Int) : Option (Bool) := laws_contains.l0 k l0 a1 0
theorem laws_contains.mono_l : ∀ k, (∀ y0 y1 y2, LeO (laws_contains.l0 k y0 y1 y2) (laws_contains.l0 (k + 1) y0 y1 y2))
 | 0 => fun _ _ _ r h => by simp [laws_contains.l0] at h
 | k + 1 => by
  have ih0 := laws_contains.mono_l k
  ·intro y0 y1 y2
   unfold laws_contains.l0
   exact mo1_ ih0
theorem laws_contains.mono : ∀ a0 a1 k, LeO (laws_contains.f k a0 a1) (laws_contains.f (k + 1) a0 a1) := by
 intro a0 a1 k
 have ih0 := laws_contains.mono_l k
 unfold laws_contains.f
 exact mo1_ ih0
theorem laws_contains.calls (k : Nat) (A0 : Option Addr) (c0 : Nat) (l0 : List Int) (a1 : Int) (r : Bool) (w : World) (hr0 : Kd.C (Kd.int .i64) w A0 l0.length l0) (hc0 : l0.length ≤ c0) (h : laws_contains.f k l0 a1 = some r) :
  Calls Try.prog 22 #[.slice A0 l0.length c0, .int .i64 a1] w fun e w' => e = .returned (.bool r) ∧ Drawn0 w w' := by
 have HR0 := Q_ hr0
 have HC0 := Q_ hc0
 clear hr0 hc0
 have H : (laws_contains.l0 k l0 a1 0) = some r := h
 clear h
 have H' := Q_ H
 clear H
 go_enter Try.func22, Try.ntmps22
 go_wp2
 go_loopg [5] k (fun kq v5 w' => ∃ (x5_1 : Int), v5 = .int .i64 x5_1 ∧ Aside0 (laws_contains.l0 kq l0 a1 x5_1 = some r) ∧ Aside0 (kq ≤ k) ∧ Drawn0 w w')
 case atStart => exact ⟨(0), el_, H', ⟨Nat.le_refl _⟩, by repeat (first | exact Drawn0.refl _ | apply Drawn0.step)⟩
 clear H'
 try clear c2
 try clear p2
 obtain ⟨x5_1, rfl, HA, HK1, ⟨m1, rfl⟩⟩ := hrel
 rcases gk with _ | k1
 ·exact absurd HA.out (by simp [laws_contains.l0])
 have H := HA.out
 clear HA
 simp only [laws_contains.l0] at H
 by_cases c3 : x5_1 < (l0.length : Int)
 rotate_left
 ·rw [if_neg c3] at H
  have c3b0 : decide (x5_1 < (l0.length : Int)) = false := decide_eq_false c3
  clear c3
  obtain rfl := Option.some.inj H
  go_wp2
  go_ret
  exact ⟨by first | rfl | (simp; done) | (simp [*]; done), by repeat (first | exact Drawn0.refl _ | apply Drawn0.step)⟩
 rw [if_pos c3] at H
 have c3b0 : decide (x5_1 < (l0.length : Int)) = true := decide_eq_true c3
 clear c3
 by_cases c4 : 0 ≤ x5_1
 rotate_left
 ·rw [if_neg c4] at H
  exact absurd H (by simp)
 rw [if_pos c4] at H
 have c4b0 : decide (0 ≤ x5_1) = true := decide_eq_true c4
 clear c4
 by_cases c5 : (rd l0 x5_1) = a1
 rotate_left
 ·rw [if_neg c5] at H
  have c5b0 : ((rd l0 x5_1) == a1) = false := beq_eq_false_iff_ne.mpr c5
  have c5b1 : ((rd l0 x5_1) != a1) = true := bne_iff_ne.mpr c5
  have H' := Q_ H
  clear H
  have p841 : 0 ≤ (x5_1 : Int) := dt_
  have q841 : x5_1 < (l0.length : Int) := dt_
  obtain ⟨ad841, e841, hx841_0⟩ := Kd.at_int HR0.out x5_1 p841 q841
  cases e841
  replace p841 := eq_true p841
  replace q841 := eq_true q841
  go_wp2
  go_roundg k1
  case measure => have := HK1.out; omega
  case rel => exact ⟨(wrap64 (x5_1 + 1)), el_, H', ⟨by have := HK1.out; omega⟩, by repeat (first | exact Drawn0.refl _ | apply Drawn0.step)⟩
 rw [if_pos c5] at H
 have c5b0 : ((rd l0 x5_1) == a1) = true := beq_iff_eq.mpr c5
 have c5b1 : ((rd l0 x5_1) != a1) = false := bne_eq_false_iff_eq.mpr c5
 clear c5
 obtain rfl := Option.some.inj H
 have p841 : 0 ≤ (x5_1 : Int) := dt_
 have q841 : x5_1 < (l0.length : Int) := dt_
 obtain ⟨ad841, e841, hx841_0⟩ := Kd.at_int HR0.out x5_1 p841 q841
 cases e841
 replace p841 := eq_true p841
 replace q841 := eq_true q841
 go_wp2
 go_ret
 exact ⟨by first | rfl | (simp; done) | (simp [*]; done), by repeat (first | exact Drawn0.refl _ | apply Drawn0.step)⟩

end Go.Proofs.Ytlcpaebidnaolaa.Print
