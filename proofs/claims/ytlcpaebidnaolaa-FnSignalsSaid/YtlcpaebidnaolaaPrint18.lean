-- Written by a program of this session (printx.py) out of the translation; Lean checks it.
import Derived.Test.YtlcpaebidnaolaaPrint0
import Derived.Test.YtlcpaebidnaolaaPrint1
import Derived.Test.YtlcpaebidnaolaaPrint2
import Derived.Test.YtlcpaebidnaolaaPrint16
import Derived.Test.YtlcpaebidnaolaaPrint17
namespace Go.Proofs.Ytlcpaebidnaolaa.Print
open Go.RowKit Go.Proofs.YtlcpaebidnaolaaW.PrintWords Go.Proofs.YtlcpaebidnaolaaW.PrintLast Go.Proofs.YtlcpaebidnaolaaW.PrintMore Go.Proofs.Ytlcpaebidnaolaa.Short
attribute [local go_sem] max2_int min2_int max_two min_two max_three min_three max_four min_four   -- for this text's walks alone
set_option linter.unusedVariables false
set_option maxHeartbeats 8000000
set_option maxRecDepth 100000
set_option linter.unusedSimpArgs false

/-! ### laws_FnSignals: function 4 -/
mutual
def laws_FnSignals.j0 : Nat → List Int → Bool → Option (Bool)
 | 0, _, _ => none
 | k + 1, x0, x68 => if x68 = true then (some false) else ((spec_DrawMostBad.f k x0).bind fun bt849 => ((impl_MostBad.f bt849.1 bt849.2).bind fun t851 => (if t851 > 0 then (if t851 ≤ bt849.1 then ((impl_SignalOf.f k (wrap64 (bt849.1 - t851)) t851 bt849.1 bt849.2).bind fun t852 => (if t852 = 2 then ((impl_SignalOf.f k 0 t851 bt849.1 bt849.2).bind fun t853 => (laws_FnSignals.j1 k x0 (t853 != 2))) else (laws_FnSignals.j1 k x0 true))) else (laws_FnSignals.j1 k x0 false)) else (laws_FnSignals.j1 k x0 false))))
def laws_FnSignals.j1 : Nat → List Int → Bool → Option (Bool)
 | 0, _, _ => none
 | k + 1, x0, x109 => if x109 = true then (some false) else ((spec_DrawMaskedBy.f k x0).bind fun bt854 => ((impl_MaskedBy.f k bt854.1 bt854.2).bind fun bt858 => (laws_FnSignals.l0 k bt854.1 bt854.2 bt858.1 bt858.2 0 0)))
def laws_FnSignals.l0 : Nat → List (S50) → Int → Int → Int → Int → Int → Option (Bool)
 | 0, _, _, _, _, _, _ => none
 | k + 1, x11, x12, x13, x14, x15, x16 => if x16 < (x11.length : Int) then (if 0 ≤ x16 then (if (rd_T50 x11 x16).f0.f0 = true then (if ((rd_T50 x11 x16).f0.f1) < x12 then ((laws_contains.f k ((rd_T50 x11 x16).f2) x12).bind fun t863 => (if t863 = true then (laws_FnSignals.l0 k x11 x12 x13 x14 (wrap64 (x15 + 1)) (wrap64 (x16 + 1))) else (laws_FnSignals.l0 k x11 x12 x13 x14 x15 (wrap64 (x16 + 1))))) else (laws_FnSignals.l0 k x11 x12 x13 x14 x15 (wrap64 (x16 + 1)))) else (laws_FnSignals.l0 k x11 x12 x13 x14 x15 (wrap64 (x16 + 1)))) else (none)) else (if (wrap64 (x13 + x14)) ≤ (x11.length : Int) then (some (decide (x14 ≥ x15))) else (some false))
end
def laws_FnSignals.f (k : Nat) (l0 : List Int) : Option (Bool) := (laws_big.f l0).bind fun t842 => (if t842 = true then (some true) else ((spec_DrawSignalOf.f k l0).bind fun bt843 => ((impl_SignalOf.f k bt843.1 bt843.2.1 bt843.2.2.1 bt843.2.2.2).bind fun t847 => ((impl_SignalName.f t847).bind fun t848 => (if t848.toList = ([] : List UInt8) then (laws_FnSignals.j0 k l0 true) else (if t847 = 1 then (if (wrap64 (bt843.1 + bt843.2.1)) < bt843.2.2.1 then (laws_FnSignals.j0 k l0 true) else (if (wrap64 (100 * bt843.2.1)) > (wrap64 (bt843.2.2.2 * (wrap64 (bt843.1 + bt843.2.1)))) then (laws_FnSignals.j0 k l0 true) else (if t847 = 2 then (laws_FnSignals.j0 k l0 (decide ((wrap64 (100 * bt843.2.1)) ≤ (wrap64 (bt843.2.2.2 * (wrap64 (bt843.1 + bt843.2.1))))))) else (laws_FnSignals.j0 k l0 false)))) else (if t847 = 2 then (laws_FnSignals.j0 k l0 (decide ((wrap64 (100 * bt843.2.1)) ≤ (wrap64 (bt843.2.2.2 * (wrap64 (bt843.1 + bt843.2.1))))))) else (laws_FnSignals.j0 k l0 false))))))))
theorem laws_FnSignals.mono_l : ∀ k, (∀ y0 y1, LeO (laws_FnSignals.j0 k y0 y1) (laws_FnSignals.j0 (k + 1) y0 y1)) ∧ (∀ y0 y1, LeO (laws_FnSignals.j1 k y0 y1) (laws_FnSignals.j1 (k + 1) y0 y1)) ∧ (∀ y0 y1 y2 y3 y4 y5, LeO (laws_FnSignals.l0 k y0 y1 y2 y3 y4 y5) (laws_FnSignals.l0 (k + 1) y0 y1 y2 y3 y4 y5))
 | 0 => ⟨fun _ _ r h => by simp [laws_FnSignals.j0] at h, fun _ _ r h => by simp [laws_FnSignals.j1] at h, fun _ _ _ _ _ _ r h => by simp [laws_FnSignals.l0] at h⟩
 | k + 1 => by
  obtain ⟨ih0, ih1, ih2⟩ := laws_FnSignals.mono_l k
  refine ⟨?_, ?_, ?_⟩
  ·intro y0 y1
   unfold laws_FnSignals.j0
   repeat' first
   | (with_reducible exact ih0 _ _)
   | (with_reducible exact ih1 _ _)
   | (with_reducible exact ih2 _ _ _ _ _ _)
   | (with_reducible exact impl_MaskedBy.mono _ _ _)
   | (with_reducible exact impl_SignalOf.mono _ _ _ _ _)
   | (with_reducible exact laws_contains.mono _ _ _)
   | (with_reducible exact spec_DrawMaskedBy.mono _ _)
   | (with_reducible exact spec_DrawMostBad.mono _ _)
   | (with_reducible exact spec_DrawSignalOf.mono _ _)
   | (with_reducible exact LeO.refl _)
   | (with_reducible exact LeO.none _)
   | (with_reducible refine LeO.ite ?_ ?_)
   | (with_reducible refine LeO.bind ?_ (fun _ => ?_))
   | exact ih0 _ _
   | exact ih1 _ _
   | exact ih2 _ _ _ _ _ _
   | exact impl_MaskedBy.mono _ _ _
   | exact impl_SignalOf.mono _ _ _ _ _
   | exact laws_contains.mono _ _ _
   | exact spec_DrawMaskedBy.mono _ _
   | exact spec_DrawMostBad.mono _ _
   | exact spec_DrawSignalOf.mono _ _
   | exact LeO.none _
   | refine LeO.ite ?_ ?_
   | refine LeO.bind ?_ (fun _ => ?_)
  ·intro y0 y1
   unfold laws_FnSignals.j1
   repeat' first
   | (with_reducible exact ih0 _ _)
   | (with_reducible exact ih1 _ _)
   | (with_reducible exact ih2 _ _ _ _ _ _)
   | (with_reducible exact impl_MaskedBy.mono _ _ _)
   | (with_reducible exact impl_SignalOf.mono _ _ _ _ _)
   | (with_reducible exact laws_contains.mono _ _ _)
   | (with_reducible exact spec_DrawMaskedBy.mono _ _)
   | (with_reducible exact spec_DrawMostBad.mono _ _)
   | (with_reducible exact spec_DrawSignalOf.mono _ _)
   | (with_reducible exact LeO.refl _)
   | (with_reducible exact LeO.none _)
   | (with_reducible refine LeO.ite ?_ ?_)
   | (with_reducible refine LeO.bind ?_ (fun _ => ?_))
   | exact ih0 _ _
   | exact ih1 _ _
   | exact ih2 _ _ _ _ _ _
   | exact impl_MaskedBy.mono _ _ _
   | exact impl_SignalOf.mono _ _ _ _ _
   | exact laws_contains.mono _ _ _
   | exact spec_DrawMaskedBy.mono _ _
   | exact spec_DrawMostBad.mono _ _
   | exact spec_DrawSignalOf.mono _ _
   | exact LeO.none _
   | refine LeO.ite ?_ ?_
   | refine LeO.bind ?_ (fun _ => ?_)
  ·intro y0 y1 y2 y3 y4 y5
   unfold laws_FnSignals.l0
   repeat' first
   | (with_reducible exact ih0 _ _)
   | (with_reducible exact ih1 _ _)
   | (with_reducible exact ih2 _ _ _ _ _ _)
   | (with_reducible exact impl_MaskedBy.mono _ _ _)
   | (with_reducible exact impl_SignalOf.mono _ _ _ _ _)
   | (with_reducible exact laws_contains.mono _ _ _)
   | (with_reducible exact spec_DrawMaskedBy.mono _ _)
   | (with_reducible exact spec_DrawMostBad.mono _ _)
   | (with_reducible exact spec_DrawSignalOf.mono _ _)
   | (with_reducible exact LeO.refl _)
   | (with_reducible exact LeO.none _)
   | (with_reducible refine LeO.ite ?_ ?_)
   | (with_reducible refine LeO.bind ?_ (fun _ => ?_))
   | exact ih0 _ _
   | exact ih1 _ _
   | exact ih2 _ _ _ _ _ _
   | exact impl_MaskedBy.mono _ _ _
   | exact impl_SignalOf.mono _ _ _ _ _
   | exact laws_contains.mono _ _ _
   | exact spec_DrawMaskedBy.mono _ _
   | exact spec_DrawMostBad.mono _ _
   | exact spec_DrawSignalOf.mono _ _
   | exact LeO.none _
   | refine LeO.ite ?_ ?_
   | refine LeO.bind ?_ (fun _ => ?_)
theorem laws_FnSignals.mono : ∀ a0 k, LeO (laws_FnSignals.f k a0) (laws_FnSignals.f (k + 1) a0) := by
 intro a0 k
 obtain ⟨ih0, ih1, ih2⟩ := laws_FnSignals.mono_l k
 unfold laws_FnSignals.f
 repeat' first
   | (with_reducible exact ih0 _ _)
   | (with_reducible exact ih1 _ _)
   | (with_reducible exact ih2 _ _ _ _ _ _)
   | (with_reducible exact impl_MaskedBy.mono _ _ _)
   | (with_reducible exact impl_SignalOf.mono _ _ _ _ _)
   | (with_reducible exact laws_contains.mono _ _ _)
   | (with_reducible exact spec_DrawMaskedBy.mono _ _)
   | (with_reducible exact spec_DrawMostBad.mono _ _)
   | (with_reducible exact spec_DrawSignalOf.mono _ _)
   | (with_reducible exact LeO.refl _)
   | (with_reducible exact LeO.none _)
   | (with_reducible refine LeO.ite ?_ ?_)
   | (with_reducible refine LeO.bind ?_ (fun _ => ?_))
   | exact ih0 _ _
   | exact ih1 _ _
   | exact ih2 _ _ _ _ _ _
   | exact impl_MaskedBy.mono _ _ _
   | exact impl_SignalOf.mono _ _ _ _ _
   | exact laws_contains.mono _ _ _
   | exact spec_DrawMaskedBy.mono _ _
   | exact spec_DrawMostBad.mono _ _
   | exact spec_DrawSignalOf.mono _ _
   | exact LeO.none _
   | refine LeO.ite ?_ ?_
   | refine LeO.bind ?_ (fun _ => ?_)
theorem laws_FnSignals.calls (k : Nat) (A0 : Option Addr) (c0 : Nat) (l0 : List Int) (r : Bool) (w : World) (hr0 : Kd.C (Kd.int .u8) w A0 l0.length l0) (hc0 : l0.length ≤ c0) (h : laws_FnSignals.f k l0 = some r) :
  Calls Try.prog 4 #[.slice A0 l0.length c0] w fun e w' => e = .returned (.bool r) ∧ Below w.heap.size w w' := by
 have HR0 := Q_ hr0
 have HC0 := Q_ hc0
 clear hr0 hc0
 have HB := Q_ (Below.refl w.heap.size w)
 have H : ((laws_big.f l0).bind fun t842 => (if t842 = true then (some true) else ((spec_DrawSignalOf.f k l0).bind fun bt843 => ((impl_SignalOf.f k bt843.1 bt843.2.1 bt843.2.2.1 bt843.2.2.2).bind fun t847 => ((impl_SignalName.f t847).bind fun t848 => (if t848.toList = ([] : List UInt8) then (laws_FnSignals.j0 k l0 true) else (if t847 = 1 then (if (wrap64 (bt843.1 + bt843.2.1)) < bt843.2.2.1 then (laws_FnSignals.j0 k l0 true) else (if (wrap64 (100 * bt843.2.1)) > (wrap64 (bt843.2.2.2 * (wrap64 (bt843.1 + bt843.2.1)))) then (laws_FnSignals.j0 k l0 true) else (if t847 = 2 then (laws_FnSignals.j0 k l0 (decide ((wrap64 (100 * bt843.2.1)) ≤ (wrap64 (bt843.2.2.2 * (wrap64 (bt843.1 + bt843.2.1))))))) else (laws_FnSignals.j0 k l0 false)))) else (if t847 = 2 then (laws_FnSignals.j0 k l0 (decide ((wrap64 (100 * bt843.2.1)) ≤ (wrap64 (bt843.2.2.2 * (wrap64 (bt843.1 + bt843.2.1))))))) else (laws_FnSignals.j0 k l0 false))))))))) = some r := h
 clear h
 replace H := Option.bind_eq_some_iff.mp H
 obtain ⟨t842, A20, H⟩ := H
 (try dsimp only at H)
 have A2 := Q_ A20
 clear A20
 have HS_ := Q_ H
 clear H
 go_enter Try.func4, Try.ntmps4
 go_upto_if 18 with (first | ((with_reducible refine gate_callee (f := 5) rfl ?_); refine gl_ (some 18) Try.func5 #[.slice A0 l0.length c0] ?_; (with_reducible refine (laws_big.calls _ _ l0 t842 _ ?side1 ?side2 A2.out).mono ?_); (case side1 => exact pc_ HR0.out); (case side2 => exact HC0.out); rintro e w' ⟨rfl, ⟨nd, rfl⟩⟩; refine ⟨_, rfl, ?_⟩))
 (try simp only [Act.put, List.setIfInBounds_toArray, List.set_cons_zero, List.set_cons_succ])
 have H := HS_.out
 clear HS_
 by_cases c3 : t842 = true
 ·subst c3
  rw [if_pos rfl] at H
  obtain rfl := Option.some.inj H
  go_wp2
  go_ret
  exact ⟨er_, pb_ HB.out⟩
 replace c3 := bf_ c3
 subst c3
 rw [if_neg ff_] at H
 replace H := Option.bind_eq_some_iff.mp H
 obtain ⟨⟨t843, t844, t845, t846⟩, A40, H⟩ := H
 (try dsimp only at H)
 have A4 := Q_ A40
 clear A40
 replace H := Option.bind_eq_some_iff.mp H
 obtain ⟨t847, A50, H⟩ := H
 (try dsimp only at H)
 have A5 := Q_ A50
 clear A50
 have HC6 := Q_ H
 clear H
 go_upto_region 5 with (first | ((with_reducible refine gate_callee (f := 15) rfl ?_); refine gl_ (some 21) Try.func15 #[.slice A0 l0.length c0] ?_; (with_reducible refine (spec_DrawSignalOf.calls k _ _ l0 t843 t844 t845 t846 _ ?side1 ?side2 A4.out).mono ?_); (case side1 => exact pc_ (Kd.C_below HR0.out (pb_ HB.out))); (case side2 => exact HC0.out); rintro e w7 ⟨rfl, hb⟩; refine ⟨_, rfl, ?_⟩; have _ := Q_ (below_step (pb_ HB.out) hb); clear HB; rename_i HB; (try clear hb); (try clear hb2); (try clear hk); (try clear hi)) | ((with_reducible refine gate_callee (f := 16) rfl ?_); refine gl_ (some 30) Try.func16 #[.int .i64 t843, .int .i64 t844, .int .i64 t845, .int .i64 t846] ?_; (with_reducible refine (impl_SignalOf.calls k t843 t844 t845 t846 t847 _ A5.out).mono ?_); rintro e w8 ⟨rfl, hb⟩; refine ⟨_, rfl, ?_⟩; have _ := Q_ (below_step (pb_ HB.out) hb); clear HB; rename_i HB; (try clear hb); (try clear hb2); (try clear hk); (try clear hi)))
 (try simp only [Act.put, List.setIfInBounds_toArray, List.set_cons_zero, List.set_cons_succ])
 go_cut [68] (fun v68 wc => ∃ (kq : Nat) (x68_5 : Bool), v68 = .bool x68_5 ∧ Aside0 (laws_FnSignals.j0 kq l0 x68_5 = some r) ∧ Aside0 (kq ≤ k) ∧ Aside0 (Below w.heap.size w wc))
 case first =>
  have H := HC6.out
  clear HC6
  replace H := Option.bind_eq_some_iff.mp H
  obtain ⟨t848, A90, H⟩ := H
  (try dsimp only at H)
  have A9 := Q_ A90
  clear A90
  by_cases c10 : t848.toList = ([] : List UInt8)
  ·rw [if_pos c10] at H
   have c10b0 : (t848.toList == ([] : List UInt8)) = true := beq_iff_eq.mpr c10
   have c10b1 : (t848.toList != ([] : List UInt8)) = false := bne_eq_false_iff_eq.mpr c10
   clear c10
   (first | rw [c10b0] | (simp only [i64_w, i32_w]; rw [c10b0]) | rw [c10b1] | (have c_ := c10b1; rw [bne] at c_; rw [c_]; clear c_) | skip)
   have H' := Q_ H
   clear H
   go_wp2_with (first | ((with_reducible refine gate_callee (f := 17) rfl ?_); refine gl_ (some 32) Try.func17 #[.int .i64 t847] ?_; (with_reducible refine (impl_SignalName.calls t847 t848 _ A9.out).mono ?_); rintro e w' ⟨rfl, ⟨nd, rfl⟩⟩; refine ⟨_, rfl, ?_⟩))
   go_meet
   case rel => exact ⟨_, (true), el_, H', ⟨by first | omega | exact Nat.le_refl _⟩, ⟨pb_ HB.out⟩⟩
  rw [if_neg c10] at H
  have c10b0 : (t848.toList == ([] : List UInt8)) = false := beq_eq_false_iff_ne.mpr c10
  have c10b1 : (t848.toList != ([] : List UInt8)) = true := bne_iff_ne.mpr c10
  (first | rw [c10b0] | (simp only [i64_w, i32_w]; rw [c10b0]) | rw [c10b1] | (have c_ := c10b1; rw [bne] at c_; rw [c_]; clear c_) | skip)
  by_cases c11 : t847 = 1
  rotate_left
  ·rw [if_neg c11] at H
   have c11b0 : (t847 == 1) = false := beq_eq_false_iff_ne.mpr c11
   have c11b1 : (t847 != 1) = true := bne_iff_ne.mpr c11
   by_cases c12 : t847 = 2
   rotate_left
   ·rw [if_neg c12] at H
    have c12b0 : (t847 == 2) = false := beq_eq_false_iff_ne.mpr c12
    have c12b1 : (t847 != 2) = true := bne_iff_ne.mpr c12
    have H' := Q_ H
    clear H
    go_wp2_with (first | ((with_reducible refine gate_callee (f := 17) rfl ?_); refine gl_ (some 32) Try.func17 #[.int .i64 t847] ?_; (with_reducible refine (impl_SignalName.calls t847 t848 _ A9.out).mono ?_); rintro e w' ⟨rfl, ⟨nd, rfl⟩⟩; refine ⟨_, rfl, ?_⟩))
    go_meet
    case rel => exact ⟨_, (false), el_, H', ⟨by first | omega | exact Nat.le_refl _⟩, ⟨pb_ HB.out⟩⟩
   rw [if_pos c12] at H
   have c12b0 : (t847 == 2) = true := beq_iff_eq.mpr c12
   have c12b1 : (t847 != 2) = false := bne_eq_false_iff_eq.mpr c12
   clear c12
   have H' := Q_ H
   clear H
   go_wp2_with (first | ((with_reducible refine gate_callee (f := 17) rfl ?_); refine gl_ (some 32) Try.func17 #[.int .i64 t847] ?_; (with_reducible refine (impl_SignalName.calls t847 t848 _ A9.out).mono ?_); rintro e w' ⟨rfl, ⟨nd, rfl⟩⟩; refine ⟨_, rfl, ?_⟩))
   go_meet
   case rel => exact ⟨_, (decide ((wrap64 (100 * t844)) ≤ (wrap64 (t846 * (wrap64 (t843 + t844)))))), el_, H', ⟨by first | omega | exact Nat.le_refl _⟩, ⟨pb_ HB.out⟩⟩
  rw [if_pos c11] at H
  have c11b0 : (t847 == 1) = true := beq_iff_eq.mpr c11
  have c11b1 : (t847 != 1) = false := bne_eq_false_iff_eq.mpr c11
  clear c11
  by_cases c13 : (wrap64 (t843 + t844)) < t845
  ·rw [if_pos c13] at H
   have c13b0 : decide ((wrap64 (t843 + t844)) < t845) = true := decide_eq_true c13
   clear c13
   have H' := Q_ H
   clear H
   go_wp2_with (first | ((with_reducible refine gate_callee (f := 17) rfl ?_); refine gl_ (some 32) Try.func17 #[.int .i64 t847] ?_; (with_reducible refine (impl_SignalName.calls t847 t848 _ A9.out).mono ?_); rintro e w' ⟨rfl, ⟨nd, rfl⟩⟩; refine ⟨_, rfl, ?_⟩))
   go_meet
   case rel => exact ⟨_, (true), el_, H', ⟨by first | omega | exact Nat.le_refl _⟩, ⟨pb_ HB.out⟩⟩
  rw [if_neg c13] at H
  have c13b0 : decide ((wrap64 (t843 + t844)) < t845) = false := decide_eq_false c13
  clear c13
  by_cases c14 : (wrap64 (100 * t844)) > (wrap64 (t846 * (wrap64 (t843 + t844))))
  ·rw [if_pos c14] at H
   have c14b0 : decide ((wrap64 (t846 * (wrap64 (t843 + t844)))) < (wrap64 (100 * t844))) = true := decide_eq_true c14
   clear c14
   have H' := Q_ H
   clear H
   go_wp2_with (first | ((with_reducible refine gate_callee (f := 17) rfl ?_); refine gl_ (some 32) Try.func17 #[.int .i64 t847] ?_; (with_reducible refine (impl_SignalName.calls t847 t848 _ A9.out).mono ?_); rintro e w' ⟨rfl, ⟨nd, rfl⟩⟩; refine ⟨_, rfl, ?_⟩))
   go_meet
   case rel => exact ⟨_, (true), el_, H', ⟨by first | omega | exact Nat.le_refl _⟩, ⟨pb_ HB.out⟩⟩
  rw [if_neg c14] at H
  have c14b0 : decide ((wrap64 (t846 * (wrap64 (t843 + t844)))) < (wrap64 (100 * t844))) = false := decide_eq_false c14
  clear c14
  by_cases c15 : t847 = 2
  rotate_left
  ·rw [if_neg c15] at H
   have c15b0 : (t847 == 2) = false := beq_eq_false_iff_ne.mpr c15
   have c15b1 : (t847 != 2) = true := bne_iff_ne.mpr c15
   have H' := Q_ H
   clear H
   go_wp2_with (first | ((with_reducible refine gate_callee (f := 17) rfl ?_); refine gl_ (some 32) Try.func17 #[.int .i64 t847] ?_; (with_reducible refine (impl_SignalName.calls t847 t848 _ A9.out).mono ?_); rintro e w' ⟨rfl, ⟨nd, rfl⟩⟩; refine ⟨_, rfl, ?_⟩))
   go_meet
   case rel => exact ⟨_, (false), el_, H', ⟨by first | omega | exact Nat.le_refl _⟩, ⟨pb_ HB.out⟩⟩
  rw [if_pos c15] at H
  have c15b0 : (t847 == 2) = true := beq_iff_eq.mpr c15
  have c15b1 : (t847 != 2) = false := bne_eq_false_iff_eq.mpr c15
  clear c15
  have H' := Q_ H
  clear H
  go_wp2_with (first | ((with_reducible refine gate_callee (f := 17) rfl ?_); refine gl_ (some 32) Try.func17 #[.int .i64 t847] ?_; (with_reducible refine (impl_SignalName.calls t847 t848 _ A9.out).mono ?_); rintro e w' ⟨rfl, ⟨nd, rfl⟩⟩; refine ⟨_, rfl, ?_⟩))
  go_meet
  case rel => exact ⟨_, (decide ((wrap64 (100 * t844)) ≤ (wrap64 (t846 * (wrap64 (t843 + t844)))))), el_, H', ⟨by first | omega | exact Nat.le_refl _⟩, ⟨pb_ HB.out⟩⟩
 clear HC6
 try clear c1
 try clear p2
 try clear c3
 try clear c4
 try clear c5
 try clear p6
 try clear c10
 try clear c10b0
 try clear c10b1
 try clear c11
 try clear c11b0
 try clear c11b1
 try clear c12
 try clear c12b0
 try clear c12b1
 try clear c13
 try clear c13b0
 try clear c14
 try clear c14b0
 try clear c15
 try clear c15b0
 try clear c15b1
 obtain ⟨kq, x68_5, rfl, HA, HJ5, HB⟩ := hcut
 rcases kq with _ | kj5
 ·exact absurd HA.out (by simp [laws_FnSignals.j0])
 have H := HA.out
 clear HA
 simp only [laws_FnSignals.j0] at H
 by_cases c16 : x68_5 = true
 ·subst c16
  rw [if_pos rfl] at H
  obtain rfl := Option.some.inj H
  go_wp2
  go_ret
  exact ⟨er_, pb_ HB.out⟩
 replace c16 := bf_ c16
 subst c16
 rw [if_neg ff_] at H
 replace H := Option.bind_eq_some_iff.mp H
 obtain ⟨⟨t849, t850⟩, A170, H⟩ := H
 (try dsimp only at H)
 have A17 := Q_ A170
 clear A170
 replace H := Option.bind_eq_some_iff.mp H
 obtain ⟨t851, A180, H⟩ := H
 (try dsimp only at H)
 have A18 := Q_ A180
 clear A180
 have HC19 := Q_ H
 clear H
 go_upto_region 9 with (first | ((with_reducible refine gate_callee (f := 18) rfl ?_); refine gl_ (some 71) Try.func18 #[.slice A0 l0.length c0] ?_; (with_reducible refine (spec_DrawMostBad.calls kj5 _ _ l0 t849 t850 _ ?side1 ?side2 A17.out).mono ?_); (case side1 => exact cb_ HR0 HB); (case side2 => exact HC0.out); rintro e w20 ⟨rfl, hb⟩; refine ⟨_, rfl, ?_⟩; have _ := Q_ (below_step (pb_ HB.out) hb); clear HB; rename_i HB; (try clear hb); (try clear hb2); (try clear hk); (try clear hi)) | ((with_reducible refine gate_callee (f := 19) rfl ?_); refine gl_ (some 76) Try.func19 #[.int .i64 t849, .int .i64 t850] ?_; (with_reducible refine (impl_MostBad.calls t849 t850 t851 _ A18.out).mono ?_); rintro e w' ⟨rfl, ⟨nd, rfl⟩⟩; refine ⟨_, rfl, ?_⟩))
 (try simp only [Act.put, List.setIfInBounds_toArray, List.set_cons_zero, List.set_cons_succ])
 go_cut [109] (fun v109 wc => ∃ (kq : Nat) (x109_18 : Bool), v109 = .bool x109_18 ∧ Aside0 (laws_FnSignals.j1 kq l0 x109_18 = some r) ∧ Aside0 (kq ≤ kj5) ∧ Aside0 (Below w.heap.size w wc))
 case first =>
  have H := HC19.out
  clear HC19
  by_cases c21 : t851 > 0
  rotate_left
  ·rw [if_neg c21] at H
   have c21b0 : decide (0 < t851) = false := decide_eq_false c21
   clear c21
   (first | rw [c21b0] | (simp only [i64_w, i32_w]; rw [c21b0]) | skip)
   have H' := Q_ H
   clear H
   go_wp2
   go_meet
   case rel => exact ⟨_, (false), el_, H', ⟨by have := HJ5.out; first | omega | exact Nat.le_refl _⟩, ⟨pb_ HB.out⟩⟩
  rw [if_pos c21] at H
  have c21b0 : decide (0 < t851) = true := decide_eq_true c21
  clear c21
  (first | rw [c21b0] | (simp only [i64_w, i32_w]; rw [c21b0]) | skip)
  by_cases c22 : t851 ≤ t849
  rotate_left
  ·rw [if_neg c22] at H
   have c22b0 : decide (t851 ≤ t849) = false := decide_eq_false c22
   clear c22
   have H' := Q_ H
   clear H
   go_wp2
   go_meet
   case rel => exact ⟨_, (false), el_, H', ⟨by have := HJ5.out; first | omega | exact Nat.le_refl _⟩, ⟨pb_ HB.out⟩⟩
  rw [if_pos c22] at H
  have c22b0 : decide (t851 ≤ t849) = true := decide_eq_true c22
  clear c22
  replace H := Option.bind_eq_some_iff.mp H
  obtain ⟨t852, A230, H⟩ := H
  (try dsimp only at H)
  have A23 := Q_ A230
  clear A230
  by_cases c24 : t852 = 2
  rotate_left
  ·rw [if_neg c24] at H
   have c24b0 : (t852 == 2) = false := beq_eq_false_iff_ne.mpr c24
   have c24b1 : (t852 != 2) = true := bne_iff_ne.mpr c24
   have H' := Q_ H
   clear H
   go_wp2_with (first | (go_at_call 16; (with_reducible refine (impl_SignalOf.calls kj5 (wrap64 (t849 - t851)) t851 t849 t850 t852 _ A23.out).mono ?_); rintro e w25 ⟨rfl, hb⟩; have _ := Q_ (below_step (pb_ HB.out) hb); clear HB; rename_i HB; (try clear hb); (try clear hb2); (try clear hk); (try clear hi)))
   go_meet
   case rel => exact ⟨_, (true), el_, H', ⟨by have := HJ5.out; first | omega | exact Nat.le_refl _⟩, ⟨pb_ HB.out⟩⟩
  rw [if_pos c24] at H
  have c24b0 : (t852 == 2) = true := beq_iff_eq.mpr c24
  have c24b1 : (t852 != 2) = false := bne_eq_false_iff_eq.mpr c24
  clear c24
  replace H := Option.bind_eq_some_iff.mp H
  obtain ⟨t853, A260, H⟩ := H
  replace H : (laws_FnSignals.j1 kj5 l0 (t853 != 2)) = some r := H
  have A26 := Q_ A260
  clear A260
  have H' := Q_ H
  clear H
  go_wp2_with (first | (go_at_call 16; (with_reducible refine (impl_SignalOf.calls kj5 (wrap64 (t849 - t851)) t851 t849 t850 t852 _ A23.out).mono ?_); rintro e w27 ⟨rfl, hb⟩; have _ := Q_ (below_step (pb_ HB.out) hb); clear HB; rename_i HB; (try clear hb); (try clear hb2); (try clear hk); (try clear hi)) | (go_at_call 16; (with_reducible refine (impl_SignalOf.calls kj5 0 t851 t849 t850 t853 _ A26.out).mono ?_); rintro e w28 ⟨rfl, hb⟩; have _ := Q_ (below_step (pb_ HB.out) hb); clear HB; rename_i HB; (try clear hb); (try clear hb2); (try clear hk); (try clear hi)))
  go_meet
  case rel => exact ⟨_, ((t853 != 2)), el_, H', ⟨by have := HJ5.out; first | omega | exact Nat.le_refl _⟩, ⟨pb_ HB.out⟩⟩
 clear HC19
 try clear c1
 try clear c2
 try clear p2
 try clear c3
 try clear c4
 try clear c5
 try clear p6
 try clear c10
 try clear c10b0
 try clear c10b1
 try clear c11
 try clear c11b0
 try clear c11b1
 try clear c12
 try clear c12b0
 try clear c12b1
 try clear c13
 try clear c13b0
 try clear c14
 try clear c14b0
 try clear c15
 try clear c15b0
 try clear c15b1
 try clear c16
 try clear c17
 try clear c18
 try clear c19
 try clear c21
 try clear c21b0
 try clear c22
 try clear c22b0
 try clear c24
 try clear c24b0
 try clear c24b1
 try clear p2
 try clear p6
 obtain ⟨kq, x109_18, rfl, HA, HJ18, HB⟩ := hcut
 rcases kq with _ | kj18
 ·exact absurd HA.out (by simp [laws_FnSignals.j1])
 have H := HA.out
 clear HA
 simp only [laws_FnSignals.j1] at H
 by_cases c29 : x109_18 = true
 ·subst c29
  rw [if_pos rfl] at H
  obtain rfl := Option.some.inj H
  go_wp2
  go_ret
  exact ⟨er_, pb_ HB.out⟩
 replace c29 := bf_ c29
 subst c29
 rw [if_neg ff_] at H
 replace H := Option.bind_eq_some_iff.mp H
 obtain ⟨⟨t854, t855⟩, A300, H⟩ := H
 (try dsimp only at H)
 have A30 := Q_ A300
 clear A300
 replace H := Option.bind_eq_some_iff.mp H
 obtain ⟨⟨t858, t859⟩, A310, H⟩ := H
 replace H : (laws_FnSignals.l0 kj18 t854 t855 t858 t859 0 0) = some r := H
 have A31 := Q_ A310
 clear A310
 have H' := Q_ H
 clear H
 go_wp2_with (first | ((with_reducible refine gate_callee (f := 20) rfl ?_); refine gl_ (some 112) Try.func20 #[.slice A0 l0.length c0] ?_; (with_reducible refine (spec_DrawMaskedBy.calls kj18 _ _ l0 t854 t855 _ ?side1 ?side2 A30.out).mono ?_); (case side1 => exact cb_ HR0 HB); (case side2 => exact HC0.out); rintro e w32 ⟨v856, rfl, ho0, hb⟩; refine ⟨_, rfl, ?_⟩; have _ := Q_ (Kd.S_lower ho0 (below_size (pb_ HB.out))); have _ := Q_ (below_step (pb_ HB.out) hb); clear HB; rename_i HO857 HB; (try clear hb); (try clear hb2); (try clear hk); (try clear hi); (try clear ho0); obtain ⟨Ao33, co33, eo33⟩ := Kd.S_slice HO857.out; subst eo33) | ((with_reducible refine gate_callee (f := 21) rfl ?_); refine gl_ (some 118) Try.func21 #[.slice Ao33 t854.length co33, .int .i64 t855] ?_; (with_reducible refine (impl_MaskedBy.calls kj18 _ _ t854 t855 t858 t859 _ ?side1 ?side2 A31.out).mono ?_); (case side1 => exact pc_ ((Kd.S_reads' HO857.out).2.2)); (case side2 => exact (Kd.S_reads' HO857.out).2.1); rintro e w34 ⟨rfl, hb⟩; refine ⟨_, rfl, ?_⟩; have _ := Q_ (Kd.S_below (ps_ HO857.out) hb); have _ := Q_ (below_step (pb_ HB.out) hb); clear HO857 HB; rename_i HO857 HB; (try clear hb); (try clear hb2); (try clear hk); (try clear hi)))
 (try simp only [Act.put, List.setIfInBounds_toArray, List.set_cons_zero, List.set_cons_succ])
 go_loopg [15, 16] kj18 (fun kq v15 v16 w' => ∃ (x15_3 : Int) (x16_3 : Int), v15 = .int .i64 x15_3 ∧ v16 = .int .i64 x16_3 ∧ Aside0 (laws_FnSignals.l0 kq t854 t855 t858 t859 x15_3 x16_3 = some r) ∧ Aside0 (kq ≤ kj18) ∧ Aside0 (Kd.S k50 50 w' w.heap.size (fun _ => True) (.slice Ao33 t854.length co33) t854) ∧ Aside0 (Below w.heap.size w w'))
 case atStart => exact ⟨(0), (0), el_, el_, H', ⟨Nat.le_refl _⟩, ⟨ps_ HO857.out⟩, ⟨pb_ HB.out⟩⟩
 clear H'
 try clear c1
 try clear c2
 try clear p2
 try clear c3
 try clear c4
 try clear c5
 try clear p6
 try clear c10
 try clear c10b0
 try clear c10b1
 try clear c11
 try clear c11b0
 try clear c11b1
 try clear c12
 try clear c12b0
 try clear c12b1
 try clear c13
 try clear c13b0
 try clear c14
 try clear c14b0
 try clear c15
 try clear c15b0
 try clear c15b1
 try clear c16
 try clear c17
 try clear c18
 try clear c19
 try clear c20
 try clear c21
 try clear c21b0
 try clear c22
 try clear c22b0
 try clear c24
 try clear c24b0
 try clear c24b1
 try clear c29
 try clear p2
 try clear p6
 obtain ⟨x15_3, x16_3, rfl, rfl, HA, HK3, HO_11, HB⟩ := hrel
 rcases gk with _ | k3
 ·exact absurd HA.out (by simp [laws_FnSignals.l0])
 have H := HA.out
 clear HA
 simp only [laws_FnSignals.l0] at H
 by_cases c35 : x16_3 < (t854.length : Int)
 rotate_left
 ·rw [if_neg c35] at H
  have c35b0 : decide (x16_3 < (t854.length : Int)) = false := decide_eq_false c35
  clear c35
  by_cases c36 : (wrap64 (t858 + t859)) ≤ (t854.length : Int)
  rotate_left
  ·rw [if_neg c36] at H
   have c36b0 : decide ((wrap64 (t858 + t859)) ≤ (t854.length : Int)) = false := decide_eq_false c36
   clear c36
   obtain rfl := Option.some.inj H
   go_wp2
   go_ret
   exact ⟨er_, pb_ HB.out⟩
  rw [if_pos c36] at H
  have c36b0 : decide ((wrap64 (t858 + t859)) ≤ (t854.length : Int)) = true := decide_eq_true c36
  clear c36
  obtain rfl := Option.some.inj H
  go_wp2
  go_ret
  exact ⟨er_, pb_ HB.out⟩
 rw [if_pos c35] at H
 have c35b0 : decide (x16_3 < (t854.length : Int)) = true := decide_eq_true c35
 clear c35
 by_cases c37 : 0 ≤ x16_3
 rotate_left
 ·rw [if_neg c37] at H
  exact absurd H (by simp)
 rw [if_pos c37] at H
 have c37b0 : decide (0 ≤ x16_3) = true := decide_eq_true c37
 clear c37
 obtain ⟨bq38, hbq38⟩ : ∃ b_ : Bool, b_ = ((rd_T50 t854 x16_3).f0.f0) := ⟨_, rfl⟩
 replace H : (if bq38 = true then (if ((rd_T50 t854 x16_3).f0.f1) < t855 then ((laws_contains.f k3 ((rd_T50 t854 x16_3).f2) t855).bind fun t863 => (if t863 = true then (laws_FnSignals.l0 k3 t854 t855 t858 t859 (wrap64 (x15_3 + 1)) (wrap64 (x16_3 + 1))) else (laws_FnSignals.l0 k3 t854 t855 t858 t859 x15_3 (wrap64 (x16_3 + 1))))) else (laws_FnSignals.l0 k3 t854 t855 t858 t859 x15_3 (wrap64 (x16_3 + 1)))) else (laws_FnSignals.l0 k3 t854 t855 t858 t859 x15_3 (wrap64 (x16_3 + 1)))) = some r := by rw [← hbq38] at H; exact H
 have Nbq38 := Q_ hbq38
 clear hbq38
 by_cases c39 : bq38 = true
 rotate_left
 ·replace c39 := bf_ c39
  subst c39
  rw [if_neg ff_] at H
  have H' := Q_ H
  clear H
  have p860 : 0 ≤ (x16_3 : Int) := dt_
  have q860 : x16_3 < (t854.length : Int) := dt_
  obtain ⟨ad860, A860_2, c860_2, A860_4, c860_4, e860, hx860_0, hx860_1, hx860_2, hx860_3, hx860_4, hl860_2, hi860_2, hl860_4, hi860_4⟩ := at_T50 (Kd.S_reads' HO_11.out).2.2 x16_3 p860 q860
  (try rw [← Nbq38.out] at hx860_0)
  cases e860
  obtain ⟨ce860, hce860, hMe860, hcc860⟩ := Kd.S_get HO_11.out z50 x16_3 p860 (by first | exact q860 | exact dt_ | (have e_ := (Kd.S_reads' HO_11.out).1; omega))
  obtain ⟨ve860_2, ve860_4, rfl, ge860_2, ge860_4⟩ := k50_openM hMe860
  have hv860_2 := hcc860 2 _ rfl
  rw [add_field _ _ 2 (by omega)] at hv860_2
  replace hv860_2 := Option.some.inj (hv860_2.symm.trans hx860_2)
  rw [hv860_2] at ge860_2
  have HL860_2 := Q_ (show Kd.R (Kd.int .i64) 3 _ _ _ _ ((rd_T50 t854 x16_3).f0.f2) from ge860_2)
  clear hv860_2 ge860_2
  have hv860_4 := hcc860 4 _ rfl
  rw [add_field _ _ 4 (by omega)] at hv860_4
  replace hv860_4 := Option.some.inj (hv860_4.symm.trans hx860_4)
  rw [hv860_4] at ge860_4
  have HL860_4 := Q_ (show Kd.R (Kd.int .i64) 3 _ _ _ _ ((rd_T50 t854 x16_3).f2) from ge860_4)
  clear hv860_4 ge860_4
  clear hcc860 hce860
  have HR860_2 := Q_ hi860_2
  have HC860_2 := Q_ hl860_2
  clear hi860_2 hl860_2
  have HR860_4 := Q_ hi860_4
  have HC860_4 := Q_ hl860_4
  clear hi860_4 hl860_4
  replace p860 := eq_true p860
  replace q860 := eq_true q860
  go_wp2
  go_roundg k3
  case measure => have := HJ5.out; have := HJ18.out; have := HK3.out; omega
  case rel => (try rw [← Nbq38.out]); exact ⟨(x15_3), (wrap64 (x16_3 + 1)), el_, el_, H', ⟨by have := HJ5.out; have := HJ18.out; have := HK3.out; omega⟩, ⟨ps_ HO_11.out⟩, ⟨pb_ HB.out⟩⟩
 subst c39
 rw [if_pos rfl] at H
 by_cases c40 : ((rd_T50 t854 x16_3).f0.f1) < t855
 rotate_left
 ·rw [if_neg c40] at H
  have c40b0 : decide (((rd_T50 t854 x16_3).f0.f1) < t855) = false := decide_eq_false c40
  clear c40
  have H' := Q_ H
  clear H
  have p860 : 0 ≤ (x16_3 : Int) := dt_
  have q860 : x16_3 < (t854.length : Int) := dt_
  obtain ⟨ad860, A860_2, c860_2, A860_4, c860_4, e860, hx860_0, hx860_1, hx860_2, hx860_3, hx860_4, hl860_2, hi860_2, hl860_4, hi860_4⟩ := at_T50 (Kd.S_reads' HO_11.out).2.2 x16_3 p860 q860
  (try rw [← Nbq38.out] at hx860_0)
  cases e860
  obtain ⟨ce860, hce860, hMe860, hcc860⟩ := Kd.S_get HO_11.out z50 x16_3 p860 (by first | exact q860 | exact dt_ | (have e_ := (Kd.S_reads' HO_11.out).1; omega))
  obtain ⟨ve860_2, ve860_4, rfl, ge860_2, ge860_4⟩ := k50_openM hMe860
  have hv860_2 := hcc860 2 _ rfl
  rw [add_field _ _ 2 (by omega)] at hv860_2
  replace hv860_2 := Option.some.inj (hv860_2.symm.trans hx860_2)
  rw [hv860_2] at ge860_2
  have HL860_2 := Q_ (show Kd.R (Kd.int .i64) 3 _ _ _ _ ((rd_T50 t854 x16_3).f0.f2) from ge860_2)
  clear hv860_2 ge860_2
  have hv860_4 := hcc860 4 _ rfl
  rw [add_field _ _ 4 (by omega)] at hv860_4
  replace hv860_4 := Option.some.inj (hv860_4.symm.trans hx860_4)
  rw [hv860_4] at ge860_4
  have HL860_4 := Q_ (show Kd.R (Kd.int .i64) 3 _ _ _ _ ((rd_T50 t854 x16_3).f2) from ge860_4)
  clear hv860_4 ge860_4
  clear hcc860 hce860
  have HR860_2 := Q_ hi860_2
  have HC860_2 := Q_ hl860_2
  clear hi860_2 hl860_2
  have HR860_4 := Q_ hi860_4
  have HC860_4 := Q_ hl860_4
  clear hi860_4 hl860_4
  replace p860 := eq_true p860
  replace q860 := eq_true q860
  have p861 : 0 ≤ (x16_3 : Int) := dt_
  have q861 : x16_3 < (t854.length : Int) := dt_
  obtain ⟨ad861, A861_2, c861_2, A861_4, c861_4, e861, hx861_0, hx861_1, hx861_2, hx861_3, hx861_4, hl861_2, hi861_2, hl861_4, hi861_4⟩ := at_T50 (Kd.S_reads' HO_11.out).2.2 x16_3 p861 q861
  (try rw [← Nbq38.out] at hx861_0)
  obtain rfl : ad860 = ad861 := (by injection e861)
  obtain ⟨ce861, hce861, hMe861, hcc861⟩ := Kd.S_get HO_11.out z50 x16_3 p861 (by first | exact q861 | exact dt_ | (have e_ := (Kd.S_reads' HO_11.out).1; omega))
  obtain ⟨ve861_2, ve861_4, rfl, ge861_2, ge861_4⟩ := k50_openM hMe861
  have hv861_2 := hcc861 2 _ rfl
  rw [add_field _ _ 2 (by omega)] at hv861_2
  replace hv861_2 := Option.some.inj (hv861_2.symm.trans hx861_2)
  rw [hv861_2] at ge861_2
  have HL861_2 := Q_ (show Kd.R (Kd.int .i64) 3 _ _ _ _ ((rd_T50 t854 x16_3).f0.f2) from ge861_2)
  clear hv861_2 ge861_2
  have hv861_4 := hcc861 4 _ rfl
  rw [add_field _ _ 4 (by omega)] at hv861_4
  replace hv861_4 := Option.some.inj (hv861_4.symm.trans hx861_4)
  rw [hv861_4] at ge861_4
  have HL861_4 := Q_ (show Kd.R (Kd.int .i64) 3 _ _ _ _ ((rd_T50 t854 x16_3).f2) from ge861_4)
  clear hv861_4 ge861_4
  clear hcc861 hce861
  have HR861_2 := Q_ hi861_2
  have HC861_2 := Q_ hl861_2
  clear hi861_2 hl861_2
  have HR861_4 := Q_ hi861_4
  have HC861_4 := Q_ hl861_4
  clear hi861_4 hl861_4
  replace p861 := eq_true p861
  replace q861 := eq_true q861
  have ea_ := Option.some.inj (hx860_2.symm.trans hx861_2)
  injection ea_ with ea_ en_ ec_
  subst ea_
  subst ec_
  clear en_
  have ea_ := Option.some.inj (hx860_4.symm.trans hx861_4)
  injection ea_ with ea_ en_ ec_
  subst ea_
  subst ec_
  clear en_
  go_wp2
  go_roundg k3
  case measure => have := HJ5.out; have := HJ18.out; have := HK3.out; omega
  case rel => (try rw [← Nbq38.out]); exact ⟨(x15_3), (wrap64 (x16_3 + 1)), el_, el_, H', ⟨by have := HJ5.out; have := HJ18.out; have := HK3.out; omega⟩, ⟨ps_ HO_11.out⟩, ⟨pb_ HB.out⟩⟩
 rw [if_pos c40] at H
 have c40b0 : decide (((rd_T50 t854 x16_3).f0.f1) < t855) = true := decide_eq_true c40
 clear c40
 replace H := Option.bind_eq_some_iff.mp H
 obtain ⟨t863, A410, H⟩ := H
 (try dsimp only at H)
 have A41 := Q_ A410
 clear A410
 have HS_ := Q_ H
 clear H
 have p860 : 0 ≤ (x16_3 : Int) := dt_
 have q860 : x16_3 < (t854.length : Int) := dt_
 obtain ⟨ad860, A860_2, c860_2, A860_4, c860_4, e860, hx860_0, hx860_1, hx860_2, hx860_3, hx860_4, hl860_2, hi860_2, hl860_4, hi860_4⟩ := at_T50 (Kd.S_reads' HO_11.out).2.2 x16_3 p860 q860
 (try rw [← Nbq38.out] at hx860_0)
 cases e860
 obtain ⟨ce860, hce860, hMe860, hcc860⟩ := Kd.S_get HO_11.out z50 x16_3 p860 (by first | exact q860 | exact dt_ | (have e_ := (Kd.S_reads' HO_11.out).1; omega))
 obtain ⟨ve860_2, ve860_4, rfl, ge860_2, ge860_4⟩ := k50_openM hMe860
 have hv860_2 := hcc860 2 _ rfl
 rw [add_field _ _ 2 (by omega)] at hv860_2
 replace hv860_2 := Option.some.inj (hv860_2.symm.trans hx860_2)
 rw [hv860_2] at ge860_2
 have HL860_2 := Q_ (show Kd.R (Kd.int .i64) 3 _ _ _ _ ((rd_T50 t854 x16_3).f0.f2) from ge860_2)
 clear hv860_2 ge860_2
 have hv860_4 := hcc860 4 _ rfl
 rw [add_field _ _ 4 (by omega)] at hv860_4
 replace hv860_4 := Option.some.inj (hv860_4.symm.trans hx860_4)
 rw [hv860_4] at ge860_4
 have HL860_4 := Q_ (show Kd.R (Kd.int .i64) 3 _ _ _ _ ((rd_T50 t854 x16_3).f2) from ge860_4)
 clear hv860_4 ge860_4
 clear hcc860 hce860
 have HR860_2 := Q_ hi860_2
 have HC860_2 := Q_ hl860_2
 clear hi860_2 hl860_2
 have HR860_4 := Q_ hi860_4
 have HC860_4 := Q_ hl860_4
 clear hi860_4 hl860_4
 replace p860 := eq_true p860
 replace q860 := eq_true q860
 have p861 : 0 ≤ (x16_3 : Int) := dt_
 have q861 : x16_3 < (t854.length : Int) := dt_
 obtain ⟨ad861, A861_2, c861_2, A861_4, c861_4, e861, hx861_0, hx861_1, hx861_2, hx861_3, hx861_4, hl861_2, hi861_2, hl861_4, hi861_4⟩ := at_T50 (Kd.S_reads' HO_11.out).2.2 x16_3 p861 q861
 (try rw [← Nbq38.out] at hx861_0)
 obtain rfl : ad860 = ad861 := (by injection e861)
 obtain ⟨ce861, hce861, hMe861, hcc861⟩ := Kd.S_get HO_11.out z50 x16_3 p861 (by first | exact q861 | exact dt_ | (have e_ := (Kd.S_reads' HO_11.out).1; omega))
 obtain ⟨ve861_2, ve861_4, rfl, ge861_2, ge861_4⟩ := k50_openM hMe861
 have hv861_2 := hcc861 2 _ rfl
 rw [add_field _ _ 2 (by omega)] at hv861_2
 replace hv861_2 := Option.some.inj (hv861_2.symm.trans hx861_2)
 rw [hv861_2] at ge861_2
 have HL861_2 := Q_ (show Kd.R (Kd.int .i64) 3 _ _ _ _ ((rd_T50 t854 x16_3).f0.f2) from ge861_2)
 clear hv861_2 ge861_2
 have hv861_4 := hcc861 4 _ rfl
 rw [add_field _ _ 4 (by omega)] at hv861_4
 replace hv861_4 := Option.some.inj (hv861_4.symm.trans hx861_4)
 rw [hv861_4] at ge861_4
 have HL861_4 := Q_ (show Kd.R (Kd.int .i64) 3 _ _ _ _ ((rd_T50 t854 x16_3).f2) from ge861_4)
 clear hv861_4 ge861_4
 clear hcc861 hce861
 have HR861_2 := Q_ hi861_2
 have HC861_2 := Q_ hl861_2
 clear hi861_2 hl861_2
 have HR861_4 := Q_ hi861_4
 have HC861_4 := Q_ hl861_4
 clear hi861_4 hl861_4
 replace p861 := eq_true p861
 replace q861 := eq_true q861
 have ea_ := Option.some.inj (hx860_2.symm.trans hx861_2)
 injection ea_ with ea_ en_ ec_
 subst ea_
 subst ec_
 clear en_
 have ea_ := Option.some.inj (hx860_4.symm.trans hx861_4)
 injection ea_ with ea_ en_ ec_
 subst ea_
 subst ec_
 clear en_
 have p862 : 0 ≤ (x16_3 : Int) := dt_
 have q862 : x16_3 < (t854.length : Int) := dt_
 obtain ⟨ad862, A862_2, c862_2, A862_4, c862_4, e862, hx862_0, hx862_1, hx862_2, hx862_3, hx862_4, hl862_2, hi862_2, hl862_4, hi862_4⟩ := at_T50 (Kd.S_reads' HO_11.out).2.2 x16_3 p862 q862
 (try rw [← Nbq38.out] at hx862_0)
 obtain rfl : ad860 = ad862 := (by injection e862)
 obtain ⟨ce862, hce862, hMe862, hcc862⟩ := Kd.S_get HO_11.out z50 x16_3 p862 (by first | exact q862 | exact dt_ | (have e_ := (Kd.S_reads' HO_11.out).1; omega))
 obtain ⟨ve862_2, ve862_4, rfl, ge862_2, ge862_4⟩ := k50_openM hMe862
 have hv862_2 := hcc862 2 _ rfl
 rw [add_field _ _ 2 (by omega)] at hv862_2
 replace hv862_2 := Option.some.inj (hv862_2.symm.trans hx862_2)
 rw [hv862_2] at ge862_2
 have HL862_2 := Q_ (show Kd.R (Kd.int .i64) 3 _ _ _ _ ((rd_T50 t854 x16_3).f0.f2) from ge862_2)
 clear hv862_2 ge862_2
 have hv862_4 := hcc862 4 _ rfl
 rw [add_field _ _ 4 (by omega)] at hv862_4
 replace hv862_4 := Option.some.inj (hv862_4.symm.trans hx862_4)
 rw [hv862_4] at ge862_4
 have HL862_4 := Q_ (show Kd.R (Kd.int .i64) 3 _ _ _ _ ((rd_T50 t854 x16_3).f2) from ge862_4)
 clear hv862_4 ge862_4
 clear hcc862 hce862
 have HR862_2 := Q_ hi862_2
 have HC862_2 := Q_ hl862_2
 clear hi862_2 hl862_2
 have HR862_4 := Q_ hi862_4
 have HC862_4 := Q_ hl862_4
 clear hi862_4 hl862_4
 replace p862 := eq_true p862
 replace q862 := eq_true q862
 have ea_ := Option.some.inj (hx860_2.symm.trans hx862_2)
 injection ea_ with ea_ en_ ec_
 subst ea_
 subst ec_
 clear en_
 have ea_ := Option.some.inj (hx860_4.symm.trans hx862_4)
 injection ea_ with ea_ en_ ec_
 subst ea_
 subst ec_
 clear en_
 go_upto_if 151 with (first | (go_at_call 22; (with_reducible refine (laws_contains.calls k3 _ _ ((rd_T50 t854 x16_3).f2) t855 t863 _ ?side1 ?side2 A41.out).mono ?_); (case side1 => repeat (first | exact (by repeat (first | (with_reducible exact HR862_4.out) | (with_reducible refine Kd.C_alloc ?_ _) | (with_reducible refine Kd.C_drewN ?_ _) | (with_reducible refine Kd.C_drew ?_) | exact HR862_4.out)) | (with_reducible refine Kd.C_alloc ?_ _) | (with_reducible refine Kd.C_drewN ?_ _) | (with_reducible refine Kd.C_drew ?_))); (case side2 => exact HC862_4.out); rintro e w' ⟨rfl, ⟨nd, rfl⟩⟩))
 (try simp only [Act.put, List.setIfInBounds_toArray, List.set_cons_zero, List.set_cons_succ])
 have H := HS_.out
 clear HS_
 by_cases c42 : t863 = true
 rotate_left
 ·replace c42 := bf_ c42
  subst c42
  rw [if_neg ff_] at H
  have H' := Q_ H
  clear H
  go_wp2
  go_roundg k3
  case measure => have := HJ5.out; have := HJ18.out; have := HK3.out; omega
  case rel => (try rw [← Nbq38.out]); exact ⟨(x15_3), (wrap64 (x16_3 + 1)), el_, el_, H', ⟨by have := HJ5.out; have := HJ18.out; have := HK3.out; omega⟩, ⟨ps_ HO_11.out⟩, ⟨pb_ HB.out⟩⟩
 subst c42
 rw [if_pos rfl] at H
 have H' := Q_ H
 clear H
 go_wp2
 go_roundg k3
 case measure => have := HJ5.out; have := HJ18.out; have := HK3.out; omega
 case rel => (try rw [← Nbq38.out]); exact ⟨(wrap64 (x15_3 + 1)), (wrap64 (x16_3 + 1)), el_, el_, H', ⟨by have := HJ5.out; have := HJ18.out; have := HK3.out; omega⟩, ⟨ps_ HO_11.out⟩, ⟨pb_ HB.out⟩⟩

/-- THE ONE PURE STATEMENT of laws_FnSignals: yours. -/
def laws_FnSignals.Pure : Prop := ∀ (l0 : List Int), l0.length ≤ maxLen → l0.length * 1 ≤ 140737488351232 → (∀ x ∈ l0, (Lit.int .u8 x).wf = true) → ∃ k, laws_FnSignals.f k l0 = some true
theorem laws_FnSignals.walk (P : laws_FnSignals.Pure) (a0 : Option Addr) (len0 cap0 : Nat) (z0 : List Int) (w : World) (w0 : (a0 = none ∧ len0 = 0 ∧ cap0 = 0 ∧ z0 = []) ∨ ∃ x, a0 = some x ∧ len0 ≤ cap0 ∧ cap0 ≤ maxLen ∧ z0.length = cap0 ∧ (∀ i, i < z0.length → w.cell? (x.add i) = some (.int .u8 (z0.getD i 0))) ∧ ∀ n ∈ z0, (Lit.int .u8 n).wf = true) (y0 : len0 * 1 ≤ 140737488351232) :
  Calls Try.prog 4 #[.slice a0 len0 cap0] w fun e w' => e = .returned (.bool true) ∧ Below w.heap.size w w' := by
 obtain ⟨l0, rfl, hr0, hm0, hw0, hc0⟩ := ReadsInt.ofRowC w0
 obtain ⟨k, h⟩ := P l0 hm0 y0 hw0
 refine (laws_FnSignals.calls k _ _ l0 true w (Kd.C_of_reads (d := (0 : Int)) (h1 := fun _ => rfl) hr0) hc0 h).mono ?_
 rintro e w' ⟨rfl, hd⟩
 exact ⟨rfl, hd⟩

end Go.Proofs.Ytlcpaebidnaolaa.Print
