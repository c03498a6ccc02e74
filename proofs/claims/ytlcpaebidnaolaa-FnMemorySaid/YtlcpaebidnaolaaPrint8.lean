-- Written by a program of this session (printx.py) out of the translation; Lean checks it.
import Derived.Test.YtlcpaebidnaolaaPrint0
import Derived.Test.YtlcpaebidnaolaaPrint1
import Derived.Test.YtlcpaebidnaolaaPrint2
import Derived.Test.YtlcpaebidnaolaaPrint7
namespace Go.Proofs.Ytlcpaebidnaolaa.Print
open Go.RowKit Go.Proofs.YtlcpaebidnaolaaW.PrintWords Go.Proofs.YtlcpaebidnaolaaW.PrintLast Go.Proofs.YtlcpaebidnaolaaW.PrintMore Go.Proofs.Ytlcpaebidnaolaa.Short
attribute [local go_sem] max2_int min2_int max_two min_two max_three min_three max_four min_four   -- for this text's walks alone
set_option linter.unusedVariables false
set_option maxHeartbeats 8000000
set_option maxRecDepth 100000
set_option linter.unusedSimpArgs false

/-! ### spec_l23Any: function 24 -/
def spec_l23Any.f (k : Nat) (s0_0 : List Int) (s0_1 : Int) (s0_2 : Int) : Option ((List (S61)) × Int × Int) := (spec_l23Draw.f k s0_0 s0_1 s0_2).bind fun bt378 => (if (bt378.1.length : Int) = 0 then (some (bt378.1, bt378.2.1, bt378.2.2)) else ((spec_l1Below.f s0_0 bt378.2.1 bt378.2.2 (bt378.1.length : Int)).bind fun bt383 => ((spec_l1Below.f s0_0 bt383.2.1 bt383.2.2 8).bind fun bt386 => (if bt386.1 = 0 then ((spec_l1Int.f s0_0 bt386.2.1 bt386.2.2 (([(-1), 5, 6] : List Int))).bind fun bt392 => (if 0 ≤ bt383.1 then (if bt383.1 < (bt378.1.length : Int) then (some ((bt378.1.set (bt383.1 : Int).toNat (⟨bt392.1, (rd_T61 bt378.1 bt383.1).f1, (rd_T61 bt378.1 bt383.1).f2⟩ : S61)), bt392.2.1, bt392.2.2)) else (none)) else (none))) else (if bt386.1 = 1 then ((spec_l1Int.f s0_0 bt386.2.1 bt386.2.2 (([(-1), 40, 9223372036854775807, (-9223372036854775808)] : List Int))).bind fun bt399 => (if 0 ≤ bt383.1 then (if bt383.1 < (bt378.1.length : Int) then (some ((bt378.1.set (bt383.1 : Int).toNat (⟨(rd_T61 bt378.1 bt383.1).f0, (rd_T61 bt378.1 bt383.1).f1, bt399.1⟩ : S61)), bt399.2.1, bt399.2.2)) else (none)) else (none))) else (if bt386.1 = 2 then (if 0 ≤ bt383.1 then (if bt383.1 < (bt378.1.length : Int) then ((spec_l1Int.f s0_0 bt386.2.1 bt386.2.2 (([0, 1255, 1256] : List Int))).bind fun bt407 => (if ((rd_T61 bt378.1 bt383.1).f1).length < 17592186044416 then (some ((bt378.1.set (bt383.1 : Int).toNat (⟨(rd_T61 bt378.1 bt383.1).f0, (((rd_T61 bt378.1 bt383.1).f1) ++ [bt407.1]), (rd_T61 bt378.1 bt383.1).f2⟩ : S61)), bt407.2.1, bt407.2.2)) else (none))) else (none)) else (none)) else (some (bt378.1, bt386.2.1, bt386.2.2))))))))
theorem spec_l23Any.mono : ∀ a0 a1 a2 k, LeO (spec_l23Any.f k a0 a1 a2) (spec_l23Any.f (k + 1) a0 a1 a2) := by
 intro a0 a1 a2 k
 unfold spec_l23Any.f
 exact mo1_ spec_l23Draw.mono
def spec_l23Any.T11 : Bool × List (List Nat × List Nat) := (true, [([], []), ([], []), ([], []), ([], []), ([2, 3], [2, 3]), ([4], [4]), ([5], [5]), ([], []), ([], []), ([7, 8], [7, 8]), ([9], [9]), ([6, 10, 9], [6, 10]), ([0, 1, 0, 1, 2, 3, 4, 5, 6, 7, 8, 9, 10, 11], [0, 1]), ([12, 0, 1, 2, 3, 4, 5, 6, 7, 8, 9, 10, 11], [12]), ([13, 11, 11, 0, 1, 2, 3, 4, 5, 6, 7, 8, 9, 10, 11], [11, 13])])
def spec_l23Any.B11 : List Nat := [0, 0, 0, 0, 12, 28, 60, 0, 0, 384, 896, 2044, 4095, 8191, 16383]
theorem spec_l23Any.tab11 : rtab .any (opsOf Try.f24 11) = spec_l23Any.T11 := by kernel_rfl
theorem spec_l23Any.bits11 : waitsOk spec_l23Any.T11.2 spec_l23Any.B11 = true := by kernel_rfl
theorem spec_l23Any.calls (k : Nat) (g : Nat) (s0_0 : List Int) (s0_1 : Int) (s0_2 : Int) (r1 : List (S61)) (r2 : Int) (r3 : Int) (w0 w : World) (hI : IsS77 w0 w g s0_0 s0_1 s0_2) (hB : Below w0.heap.size w0 w) (h : spec_l23Any.f k s0_0 s0_1 s0_2 = some (r1, r2, r3)) :
  Calls Try.prog 24 #[.pointer (some ⟨g, 0, none⟩)] w fun e w' => ∃ v0_ : Value, e = .returned (v0_) ∧ Kd.S k61 61 w' w.heap.size (fun _ => True) v0_ r1 ∧ IsS77 w0 w' g s0_0 r2 r3 ∧ Below w0.heap.size w0 w' ∧ KeepBut w w' g none := by
 have HI0 := Q_ hI
 have HK := Q_ (KeepBut.refl w g none)
 have HL := Q_ hB.size
 clear hI
 have HW0 := Q_ hB.size
 have HB := Q_ hB
 clear hB
 have H : ((spec_l23Draw.f k s0_0 s0_1 s0_2).bind fun bt378 => (if (bt378.1.length : Int) = 0 then (some (bt378.1, bt378.2.1, bt378.2.2)) else ((spec_l1Below.f s0_0 bt378.2.1 bt378.2.2 (bt378.1.length : Int)).bind fun bt383 => ((spec_l1Below.f s0_0 bt383.2.1 bt383.2.2 8).bind fun bt386 => (if bt386.1 = 0 then ((spec_l1Int.f s0_0 bt386.2.1 bt386.2.2 (([(-1), 5, 6] : List Int))).bind fun bt392 => (if 0 ≤ bt383.1 then (if bt383.1 < (bt378.1.length : Int) then (some ((bt378.1.set (bt383.1 : Int).toNat (⟨bt392.1, (rd_T61 bt378.1 bt383.1).f1, (rd_T61 bt378.1 bt383.1).f2⟩ : S61)), bt392.2.1, bt392.2.2)) else (none)) else (none))) else (if bt386.1 = 1 then ((spec_l1Int.f s0_0 bt386.2.1 bt386.2.2 (([(-1), 40, 9223372036854775807, (-9223372036854775808)] : List Int))).bind fun bt399 => (if 0 ≤ bt383.1 then (if bt383.1 < (bt378.1.length : Int) then (some ((bt378.1.set (bt383.1 : Int).toNat (⟨(rd_T61 bt378.1 bt383.1).f0, (rd_T61 bt378.1 bt383.1).f1, bt399.1⟩ : S61)), bt399.2.1, bt399.2.2)) else (none)) else (none))) else (if bt386.1 = 2 then (if 0 ≤ bt383.1 then (if bt383.1 < (bt378.1.length : Int) then ((spec_l1Int.f s0_0 bt386.2.1 bt386.2.2 (([0, 1255, 1256] : List Int))).bind fun bt407 => (if ((rd_T61 bt378.1 bt383.1).f1).length < 17592186044416 then (some ((bt378.1.set (bt383.1 : Int).toNat (⟨(rd_T61 bt378.1 bt383.1).f0, (((rd_T61 bt378.1 bt383.1).f1) ++ [bt407.1]), (rd_T61 bt378.1 bt383.1).f2⟩ : S61)), bt407.2.1, bt407.2.2)) else (none))) else (none)) else (none)) else (some (bt378.1, bt386.2.1, bt386.2.2))))))))) = some (r1, r2, r3) := h
 clear h
 replace H := Option.bind_eq_some_iff.mp H
 obtain ⟨⟨t378, t381, t382⟩, A20, H⟩ := H
 (try dsimp only at H)
 have A2 := Q_ A20
 clear A20
 have HS_ := Q_ H
 clear H
 go_enter Try.func24, Try.ntmps24
 go_upto_region 2 with (first | ((with_reducible refine gate_callee (f := 44) rfl ?_); refine gl_ (some 6) Try.func44 #[.pointer (some ⟨g, 0, none⟩)] ?_; (with_reducible refine (spec_l23Draw.calls k g s0_0 s0_1 s0_2 t378 t381 t382 w0 _ ?side1 ?side2 A2.out).mono ?_); (case side1 => exact qs77_0_ HI0.out); (case side2 => exact qb1_ HB.out (IsS77.ge HI0.out)); rintro e w3 ⟨v379, rfl, ho0, hi, hb, hk⟩; refine ⟨_, rfl, ?_⟩; have _ := Q_ (Kd.S_lower ho0 (keep_size (w := w) (g := g) (row := none) (qk0_ HK.out))); have _ := Q_ (KeepBut.trans (qk0_ HK.out) hk (.inl rfl)); have _ := Q_ (hb); have _ := Q_ (hi); clear HK HB HI0; rename_i HO380 HK HB HI0; (try clear hb); (try clear hb2); (try clear hk); (try clear hi); (try clear ho0)))
 (try simp only [Act.put, List.setIfInBounds_toArray, List.set_cons_zero, List.set_cons_succ])
 have H := HS_.out
 clear HS_
 by_cases c4 : (t378.length : Int) = 0
 ·rw [if_pos c4] at H
  have c4b0 : ((t378.length : Int) == 0) = true := beq_iff_eq.mpr c4
  have c4b1 : ((t378.length : Int) != 0) = false := bne_eq_false_iff_eq.mpr c4
  clear c4
  (first | rw [c4b0] | (simp only [i64_w, i32_w]; rw [c4b0]) | rw [c4b1] | (have c_ := c4b1; rw [bne] at c_; rw [c_]; clear c_) | skip)
  simp only [Option.some.injEq, Prod.mk.injEq] at H
  obtain ⟨rfl, rfl, rfl⟩ := H
  obtain ⟨Ao5, co5, eo5⟩ := Kd.S_slice HO380.out
  subst eo5
  go_wp2
  go_ret
  exact ⟨_, er_, ps_ HO380.out, qs77_0_ HI0.out, qb1_ HB.out (IsS77.ge HI0.out), qk0_ HK.out⟩
 rw [if_neg c4] at H
 have c4b0 : ((t378.length : Int) == 0) = false := beq_eq_false_iff_ne.mpr c4
 have c4b1 : ((t378.length : Int) != 0) = true := bne_iff_ne.mpr c4
 have c4b2 : ¬ (t378 = []) := fun h_ => c4 (by rw [h_]; rfl)
 (first | rw [c4b0] | (simp only [i64_w, i32_w]; rw [c4b0]) | rw [c4b1] | (have c_ := c4b1; rw [bne] at c_; rw [c_]; clear c_) | skip)
 replace H := Option.bind_eq_some_iff.mp H
 obtain ⟨⟨t383, t384, t385⟩, A60, H⟩ := H
 (try dsimp only at H)
 have A6 := Q_ A60
 clear A60
 have HS_ := Q_ H
 clear H
 obtain ⟨Ao7, co7, eo7⟩ := Kd.S_slice HO380.out
 subst eo7
 go_upto_region 5 with (first | ((with_reducible refine gate_callee (f := 25) rfl ?_); refine gl_ (some 14) Try.func25 #[.pointer (some ⟨g, 0, none⟩), .int .i64 (t378.length : Int)] ?_; (with_reducible refine (spec_l1Below.calls g s0_0 t381 t382 (t378.length : Int) t383 t384 t385 w0 _ ?side1 ?side2 A6.out).mono ?_); (case side1 => exact qs77_0_ HI0.out); (case side2 => exact qb1_ HB.out (IsS77.ge HI0.out)); rintro e w8 ⟨rfl, hi, hb, hk⟩; refine ⟨_, rfl, ?_⟩; have _ := Q_ (Kd.S_mono (Kd.S_keep (IsS77.apartS (show IsS77 w0 _ g s0_0 t381 t382 from qs77_0_ HI0.out) (ps_ HO380.out) (by decide)) hk (fun _ h => h.2)) (fun _ h => h.1)); have _ := Q_ (KeepBut.trans (qk0_ HK.out) hk (.inl rfl)); have _ := Q_ (hb); have _ := Q_ (hi); clear HO380 HK HB HI0; rename_i HO380 HK HB HI0; (try clear hb); (try clear hb2); (try clear hk); (try clear hi)))
 (try simp only [Act.put, List.setIfInBounds_toArray, List.set_cons_zero, List.set_cons_succ])
 have H := HS_.out
 clear HS_
 replace H := Option.bind_eq_some_iff.mp H
 obtain ⟨⟨t386, t387, t388⟩, A90, H⟩ := H
 (try dsimp only at H)
 have A9 := Q_ A90
 clear A90
 have HS_ := Q_ H
 clear H
 go_upto_if 17 with (first | ((with_reducible refine gate_callee (f := 25) rfl ?_); refine gl_ (some 16) Try.func25 #[.pointer (some ⟨g, 0, none⟩), .int .i64 8] ?_; (with_reducible refine (spec_l1Below.calls g s0_0 t384 t385 8 t386 t387 t388 w0 _ ?side1 ?side2 A9.out).mono ?_); (case side1 => exact qs77_0_ HI0.out); (case side2 => exact qb1_ HB.out (IsS77.ge HI0.out)); rintro e w10 ⟨rfl, hi, hb, hk⟩; refine ⟨_, rfl, ?_⟩; have _ := Q_ (Kd.S_mono (Kd.S_keep (IsS77.apartS (show IsS77 w0 _ g s0_0 t384 t385 from qs77_0_ HI0.out) (ps_ HO380.out) (by decide)) hk (fun _ h => h.2)) (fun _ h => h.1)); have _ := Q_ (KeepBut.trans (qk0_ HK.out) hk (.inl rfl)); have _ := Q_ (hb); have _ := Q_ (hi); clear HO380 HK HB HI0; rename_i HO380 HK HB HI0; (try clear hb); (try clear hb2); (try clear hk); (try clear hi)))
 (try simp only [Act.put, List.setIfInBounds_toArray, List.set_cons_zero, List.set_cons_succ])
 have H := HS_.out
 clear HS_
 by_cases c11 : t386 = 0
 ·rw [if_pos c11] at H
  have c11b0 : (t386 == 0) = true := beq_iff_eq.mpr c11
  have c11b1 : (t386 != 0) = false := bne_eq_false_iff_eq.mpr c11
  clear c11
  (first | rw [c11b0] | (simp only [i64_w, i32_w]; rw [c11b0]) | rw [c11b1] | (have c_ := c11b1; rw [bne] at c_; rw [c_]; clear c_) | skip)
  obtain ⟨y389, hy389⟩ : ∃ y_ : List Int, y_ = (([(-1), 5, 6] : List Int)) := ⟨_, rfl⟩
  replace H : ((spec_l1Int.f s0_0 t387 t388 y389).bind fun bt392 => (if 0 ≤ t383 then (if t383 < (t378.length : Int) then (some ((t378.set (t383 : Int).toNat (⟨bt392.1, (rd_T61 t378 t383).f1, (rd_T61 t378 t383).f2⟩ : S61)), bt392.2.1, bt392.2.2)) else (none)) else (none))) = some (r1, r2, r3) := hb_ hy389 H
  have Ny389 := Q_ hy389
  clear hy389
  replace H := Option.bind_eq_some_iff.mp H
  obtain ⟨⟨t392, t393, t394⟩, A120, H⟩ := H
  (try dsimp only at H)
  have A12 := Q_ A120
  clear A120
  by_cases c13 : 0 ≤ t383
  rotate_left
  ·rw [if_neg c13] at H
   exact absurd H (by simp)
  rw [if_pos c13] at H
  have c13b0 : decide (0 ≤ t383) = true := decide_eq_true c13
  clear c13
  by_cases c14 : t383 < (t378.length : Int)
  rotate_left
  ·rw [if_neg c14] at H
   exact absurd H (by simp)
  rw [if_pos c14] at H
  have c14b0 : decide (t383 < (t378.length : Int)) = true := decide_eq_true c14
  clear c14
  obtain ⟨y395, hy395⟩ : ∃ y_ : List (S61), y_ = (t378.set (t383 : Int).toNat (⟨t392, (rd_T61 t378 t383).f1, (rd_T61 t378 t383).f2⟩ : S61)) := ⟨_, rfl⟩
  replace H : (some (y395, t393, t394)) = some (r1, r2, r3) := hb_ hy395 H
  have Ny395 := Q_ hy395
  clear hy395
  simp only [Option.some.injEq, Prod.mk.injEq] at H
  obtain ⟨rfl, rfl, rfl⟩ := H
  go_wp2_with (first | ((with_reducible refine gate_dst (N := 22) rfl ?_); refine Kd.R_lit (Kd.int .i64) _ 3 ?hg (N := 22) ?hd (xs := ([(-1), 5, 6] : List Int)) (inner := [.int .i64 (-1), .int .i64 5, .int .i64 6]) (ok := fun _ => True) (okp := fun _ => True) ?hr ?hp (fun _ hk => hk) trivial (Below.refl _ _) (Nat.le_refl _) (by simp) ?_; (case hd => rfl); (case hg => rfl); (case hr => first | (go_simp; done) | (go_simp; rfl)); (case hp => exact (Reps.one (show Kd.M (Kd.int .i64) _ _ _ (-1) [.int .i64 (-1)] from rfl) (Reps.one (show Kd.M (Kd.int .i64) _ _ _ 5 [.int .i64 5] from rfl) (Reps.one (show Kd.M (Kd.int .i64) _ _ _ 6 [.int .i64 6] from rfl) (Reps.none _ _))))); intro v390 w16 ho17 hb hg_ hnew_; clear hg_ hnew_; (first | rw [← Ny389.out] at ho17 | (simp only [Int.reduceToNat] at ho17; rw [← Ny389.out] at ho17)); have _ := Q_ (Kd.S_elder' (ps_ HO380.out) (Kd.R_base ho17) hb); have _ := Q_ (Kd.R_lower ho17 (keep_size (w := w) (g := g) (row := none) (qk0_ HK.out))); have _ := Q_ (IsS77.below (qs77_0_ HI0.out) hb); have _ := Q_ (KeepBut.trans (qk0_ HK.out) (KeepBut.of_below hb g none) (.inl rfl)); have _ := Q_ (below_step (qb1_ HB.out (IsS77.ge HI0.out)) hb); clear HO380 HI0 HK HB; rename_i HO380 HO391 HI0 HK HB; clear hb ho17; obtain ⟨Ao18, co18, eo18⟩ := Kd.R_slice HO391.out; subst eo18) | ((with_reducible refine gate_callee (f := 27) rfl ?_); refine gl_ (some 23) Try.func27 #[.pointer (some ⟨g, 0, none⟩), .slice Ao18 y389.length co18] ?_; (with_reducible refine (spec_l1Int.calls g s0_0 t387 t388 _ _ y389 t392 t393 t394 w0 _ ?side1 ?side2 ?side3 ?side4 ?side5 A12.out).mono ?_); (case side1 => exact qs77_0_ HI0.out); (case side2 => exact qb1_ HB.out (IsS77.ge HI0.out)); (case side3 => exact pc_ ((Kd.R_reads' HO391.out).2.2)); (case side4 => exact (Kd.R_reads' HO391.out).2.1); (case side5 => exact far_slice (IsS77.own_ne HI0.out HO391.out (by decide))); rintro e w19 ⟨rfl, hi, hb, hk⟩; refine ⟨_, rfl, ?_⟩; have _ := Q_ (Kd.S_mono (Kd.S_keep (IsS77.apartS (show IsS77 w0 _ g s0_0 t387 t388 from qs77_0_ HI0.out) (ps_ HO380.out) (by decide)) hk (fun _ h => h.2)) (fun _ h => h.1)); have _ := Q_ (Kd.R_mono (Kd.R_keep (IsS77.apart (show IsS77 w0 _ g s0_0 t387 t388 from qs77_0_ HI0.out) (pr_ HO391.out) (by decide)) hk (fun _ h => h.2)) (fun _ h => h.1)); have _ := Q_ (KeepBut.trans (qk0_ HK.out) hk (.inl rfl)); have _ := Q_ (hb); have _ := Q_ (hi); clear HO380 HO391 HK HB HI0; rename_i HO380 HO391 HK HB HI0; (try clear hb); (try clear hb2); (try clear hk); (try clear hi); have p15 : 0 ≤ (t383 : Int) := dt_; have q15 : (t383 : Int) < ((t378.length : Int) : Int) := dt_; obtain ⟨go15, co15, eo15, gb15, gl15, cl15, HG15⟩ := Kd.S_form HO380.out (by omega); (first | cases eo15 | (injection eo15 with ea_ en_ ec_; (first | subst ea_ | (injection ea_ with ea_; subst ea_)); subst ec_; clear en_)); have GB15 := Q_ gb15; have GG15 := Q_ HG15; clear gb15 gl15 HG15; obtain ⟨_, ce15, hcl15, hM15, hcc15, hfr15, _, _⟩ := Kd.S_elem HO380.out z61 (t383 : Int) p15 q15; obtain ⟨ve15_1, rfl, ge15_1⟩ := k61_openM hM15; have hx15_0 : w19.cell? ⟨go15, (t383 : Int).toNat * 3, none⟩ = some (.int .i64 ((rd_T61 t378 t383).f0)) := hcc15 0 _ rfl; have hx15_1 : w19.cell? ⟨go15, (t383 : Int).toNat * 3 + 1, none⟩ = some (ve15_1) := hcc15 1 _ rfl; have hx15_2 : w19.cell? ⟨go15, (t383 : Int).toNat * 3 + 2, none⟩ = some (.int .i64 ((rd_T61 t378 t383).f2)) := hcc15 2 _ rfl; have hf15_0 : w19.frozen? ⟨go15, (t383 : Int).toNat * 3, none⟩ = false := hfr15 0; have hf15_1 : w19.frozen? ⟨go15, (t383 : Int).toNat * 3 + 1, none⟩ = false := hfr15 1; have hf15_2 : w19.frozen? ⟨go15, (t383 : Int).toNat * 3 + 2, none⟩ = false := hfr15 2; clear hcl15 hcc15 hfr15; (try clear hM15); replace p15 := eq_true p15; replace q15 := eq_true q15; have n_ := Q_ (Kd.S_mono (ok' := (fun k_ => some k_ ≠ (.slice Ao18 y389.length co18 : Value).ownBlock)) HO380.out (fun k_ hk => hk.2)); clear HO380; have HO380 := n_; clear n_; have HX20 := Q_ (show Kd.S k61 61 w19 w.heap.size (fun k_ => ((fun k_ => some k_ ≠ (.slice Ao18 y389.length co18 : Value).ownBlock)) k_ ∧ ¬ ((fun _ => False)) k_) (.slice (some ⟨go15, 0, none⟩) t378.length co7) t378 from (by (with_reducible repeat (first | apply Kd.S_alloc | apply Kd.S_drewN | apply Kd.S_drew)); exact Kd.S_mono HO380.out (fun k_ hk => ⟨hk, fun e_ => e_⟩))); obtain ⟨oki20, ce20, hcl20, hM20, hcc20, hfr20, hoki20, hH20⟩ := Kd.S_elem HX20.out z61 (t383 : Int) dt_ (by have h_ : (t383 : Int) < ((t378.length : Int) : Int) := dt_; first | exact h_ | (have e_ := (Kd.S_reads' HO380.out).1; omega) | simpa using h_); obtain ⟨ve20_1, rfl, ge20_1⟩ := k61_openM hM20; have HP20 := Kd.S_seg hH20 dt_ (by have h_ : (t383 : Int) < ((t378.length : Int) : Int) := dt_; first | exact h_ | (have e_ := (Kd.S_reads' HO380.out).1; omega) | simpa using h_) (seg := [.int .i64 t392]) (j := 0) (show 1 ≤ 3 from by decide) (x' := (⟨t392, (rd_T61 t378 t383).f1, (rd_T61 t378 t383).f2⟩ : S61)) (k61_mkM _ _ _ (⟨t392, (rd_T61 t378 t383).f1, (rd_T61 t378 t383).f2⟩ : S61) (Kd.R_mono ge20_1 (fun _ h_ => Or.inl h_))) (fun _ hk => hk) (fun k_ hk_ => hk_.elim); have hx20_0 := hcc20 0 _ rfl; (try simp only [show (k61).sz = 3 from rfl, Nat.mul_one, Nat.add_zero] at hx20_0); have hf20_0 := hfr20 0; (try simp only [show (k61).sz = 3 from rfl, Nat.mul_one, Nat.add_zero] at hf20_0); clear hcl20 hcc20 hfr20 hoki20 hH20; (try clear hM20)) | ((with_reducible refine gate_store (t := 3) (p := 25) rfl ?_); refine store_event (t := 3) (p := 25) (v := ?vo_w21) (w1 := (w19.setCell ⟨go15, (t383 : Int).toNat * 3, none⟩ (.int .i64 t392))) ?hg ?ho ?hn ?hr ?_; (case ho => rfl); (case hg => rfl); (case hn => rfl); (case hr => first | (go_simp; done) | (go_simp; rfl)); intro w21 hw; have hg : w19.grownBy w21 (some go15) := (by rw [hw]; exact HP20.2); have hp_ : Kd.S k61 61 w21 w.heap.size (fun k_ => some k_ ≠ (.slice Ao18 y389.length co18 : Value).ownBlock) (.slice (some ⟨go15, 0, none⟩) t378.length co7) y395 := (by rw [hw, Ny395.out]; exact HP20.1); clear HP20; have _ := Q_ (IsS77.grown (qs77_0_ HI0.out) hg (IsS77.own_neS HI0.out HO380.out (by decide))); have _ := Q_ (hp_); have _ := Q_ (Kd.R_over' (v := (.slice (some ⟨go15, 0, none⟩) t378.length co7)) (pr_ HO391.out) (Kd.S_typed HO380.out) (by decide) hg); have _ := Q_ ((by rw [hw]; exact below_set (HB.out) (Nat.le_trans HL.out GB15.out) : Below w0.heap.size w0 w21)); have _ := Q_ (KeepBut.trans (qk0_ HK.out) (KeepBut.of_grown hg g) (Kd.S_base2 HO380.out)); clear HI0 HO380 HO391 HB HK; rename_i HI0 HO380 HO391 HB HK; clear hg hw hp_))
  go_ret
  exact ⟨_, er_, ps_ (Kd.S_mono HO380.out (fun _ hk => trivial)), qs77_0_ HI0.out, qb1_ HB.out (IsS77.ge HI0.out), qk0_ HK.out⟩
 rw [if_neg c11] at H
 have c11b0 : (t386 == 0) = false := beq_eq_false_iff_ne.mpr c11
 have c11b1 : (t386 != 0) = true := bne_iff_ne.mpr c11
 (first | rw [c11b0] | (simp only [i64_w, i32_w]; rw [c11b0]) | rw [c11b1] | (have c_ := c11b1; rw [bne] at c_; rw [c_]; clear c_) | skip)
 by_cases c22 : t386 = 1
 ·rw [if_pos c22] at H
  have c22b0 : (t386 == 1) = true := beq_iff_eq.mpr c22
  have c22b1 : (t386 != 1) = false := bne_eq_false_iff_eq.mpr c22
  clear c22
  obtain ⟨y396, hy396⟩ : ∃ y_ : List Int, y_ = (([(-1), 40, 9223372036854775807, (-9223372036854775808)] : List Int)) := ⟨_, rfl⟩
  replace H : ((spec_l1Int.f s0_0 t387 t388 y396).bind fun bt399 => (if 0 ≤ t383 then (if t383 < (t378.length : Int) then (some ((t378.set (t383 : Int).toNat (⟨(rd_T61 t378 t383).f0, (rd_T61 t378 t383).f1, bt399.1⟩ : S61)), bt399.2.1, bt399.2.2)) else (none)) else (none))) = some (r1, r2, r3) := hb_ hy396 H
  have Ny396 := Q_ hy396
  clear hy396
  replace H := Option.bind_eq_some_iff.mp H
  obtain ⟨⟨t399, t400, t401⟩, A230, H⟩ := H
  (try dsimp only at H)
  have A23 := Q_ A230
  clear A230
  by_cases c24 : 0 ≤ t383
  rotate_left
  ·rw [if_neg c24] at H
   exact absurd H (by simp)
  rw [if_pos c24] at H
  have c24b0 : decide (0 ≤ t383) = true := decide_eq_true c24
  clear c24
  by_cases c25 : t383 < (t378.length : Int)
  rotate_left
  ·rw [if_neg c25] at H
   exact absurd H (by simp)
  rw [if_pos c25] at H
  have c25b0 : decide (t383 < (t378.length : Int)) = true := decide_eq_true c25
  clear c25
  obtain ⟨y402, hy402⟩ : ∃ y_ : List (S61), y_ = (t378.set (t383 : Int).toNat (⟨(rd_T61 t378 t383).f0, (rd_T61 t378 t383).f1, t399⟩ : S61)) := ⟨_, rfl⟩
  replace H : (some (y402, t400, t401)) = some (r1, r2, r3) := hb_ hy402 H
  have Ny402 := Q_ hy402
  clear hy402
  simp only [Option.some.injEq, Prod.mk.injEq] at H
  obtain ⟨rfl, rfl, rfl⟩ := H
  go_wp2_with (first | ((with_reducible refine gate_dst (N := 31) rfl ?_); refine Kd.R_lit (Kd.int .i64) _ 3 ?hg (N := 31) ?hd (xs := ([(-1), 40, 9223372036854775807, (-9223372036854775808)] : List Int)) (inner := [.int .i64 (-1), .int .i64 40, .int .i64 9223372036854775807, .int .i64 (-9223372036854775808)]) (ok := fun _ => True) (okp := fun _ => True) ?hr ?hp (fun _ hk => hk) trivial (Below.refl _ _) (Nat.le_refl _) (by simp) ?_; (case hd => rfl); (case hg => rfl); (case hr => first | (go_simp; done) | (go_simp; rfl)); (case hp => exact (Reps.one (show Kd.M (Kd.int .i64) _ _ _ (-1) [.int .i64 (-1)] from rfl) (Reps.one (show Kd.M (Kd.int .i64) _ _ _ 40 [.int .i64 40] from rfl) (Reps.one (show Kd.M (Kd.int .i64) _ _ _ 9223372036854775807 [.int .i64 9223372036854775807] from rfl) (Reps.one (show Kd.M (Kd.int .i64) _ _ _ (-9223372036854775808) [.int .i64 (-9223372036854775808)] from rfl) (Reps.none _ _)))))); intro v397 w27 ho28 hb hg_ hnew_; clear hg_ hnew_; (first | rw [← Ny396.out] at ho28 | (simp only [Int.reduceToNat] at ho28; rw [← Ny396.out] at ho28)); have _ := Q_ (Kd.S_elder' (ps_ HO380.out) (Kd.R_base ho28) hb); have _ := Q_ (Kd.R_lower ho28 (keep_size (w := w) (g := g) (row := none) (qk0_ HK.out))); have _ := Q_ (IsS77.below (qs77_0_ HI0.out) hb); have _ := Q_ (KeepBut.trans (qk0_ HK.out) (KeepBut.of_below hb g none) (.inl rfl)); have _ := Q_ (below_step (qb1_ HB.out (IsS77.ge HI0.out)) hb); clear HO380 HI0 HK HB; rename_i HO380 HO398 HI0 HK HB; clear hb ho28; obtain ⟨Ao29, co29, eo29⟩ := Kd.R_slice HO398.out; subst eo29) | ((with_reducible refine gate_callee (f := 27) rfl ?_); refine gl_ (some 32) Try.func27 #[.pointer (some ⟨g, 0, none⟩), .slice Ao29 y396.length co29] ?_; (with_reducible refine (spec_l1Int.calls g s0_0 t387 t388 _ _ y396 t399 t400 t401 w0 _ ?side1 ?side2 ?side3 ?side4 ?side5 A23.out).mono ?_); (case side1 => exact qs77_0_ HI0.out); (case side2 => exact qb1_ HB.out (IsS77.ge HI0.out)); (case side3 => exact pc_ ((Kd.R_reads' HO398.out).2.2)); (case side4 => exact (Kd.R_reads' HO398.out).2.1); (case side5 => exact far_slice (IsS77.own_ne HI0.out HO398.out (by decide))); rintro e w30 ⟨rfl, hi, hb, hk⟩; refine ⟨_, rfl, ?_⟩; have _ := Q_ (Kd.S_mono (Kd.S_keep (IsS77.apartS (show IsS77 w0 _ g s0_0 t387 t388 from qs77_0_ HI0.out) (ps_ HO380.out) (by decide)) hk (fun _ h => h.2)) (fun _ h => h.1)); have _ := Q_ (Kd.R_mono (Kd.R_keep (IsS77.apart (show IsS77 w0 _ g s0_0 t387 t388 from qs77_0_ HI0.out) (pr_ HO398.out) (by decide)) hk (fun _ h => h.2)) (fun _ h => h.1)); have _ := Q_ (KeepBut.trans (qk0_ HK.out) hk (.inl rfl)); have _ := Q_ (hb); have _ := Q_ (hi); clear HO380 HO398 HK HB HI0; rename_i HO380 HO398 HK HB HI0; (try clear hb); (try clear hb2); (try clear hk); (try clear hi); have p26 : 0 ≤ (t383 : Int) := dt_; have q26 : (t383 : Int) < ((t378.length : Int) : Int) := dt_; obtain ⟨go26, co26, eo26, gb26, gl26, cl26, HG26⟩ := Kd.S_form HO380.out (by omega); (first | cases eo26 | (injection eo26 with ea_ en_ ec_; (first | subst ea_ | (injection ea_ with ea_; subst ea_)); subst ec_; clear en_)); have GB26 := Q_ gb26; have GG26 := Q_ HG26; clear gb26 gl26 HG26; obtain ⟨_, ce26, hcl26, hM26, hcc26, hfr26, _, _⟩ := Kd.S_elem HO380.out z61 (t383 : Int) p26 q26; obtain ⟨ve26_1, rfl, ge26_1⟩ := k61_openM hM26; have hx26_0 : w30.cell? ⟨go26, (t383 : Int).toNat * 3, none⟩ = some (.int .i64 ((rd_T61 t378 t383).f0)) := hcc26 0 _ rfl; have hx26_1 : w30.cell? ⟨go26, (t383 : Int).toNat * 3 + 1, none⟩ = some (ve26_1) := hcc26 1 _ rfl; have hx26_2 : w30.cell? ⟨go26, (t383 : Int).toNat * 3 + 2, none⟩ = some (.int .i64 ((rd_T61 t378 t383).f2)) := hcc26 2 _ rfl; have hf26_0 : w30.frozen? ⟨go26, (t383 : Int).toNat * 3, none⟩ = false := hfr26 0; have hf26_1 : w30.frozen? ⟨go26, (t383 : Int).toNat * 3 + 1, none⟩ = false := hfr26 1; have hf26_2 : w30.frozen? ⟨go26, (t383 : Int).toNat * 3 + 2, none⟩ = false := hfr26 2; clear hcl26 hcc26 hfr26; (try clear hM26); replace p26 := eq_true p26; replace q26 := eq_true q26; have n_ := Q_ (Kd.S_mono (ok' := (fun k_ => some k_ ≠ (.slice Ao29 y396.length co29 : Value).ownBlock)) HO380.out (fun k_ hk => hk.2)); clear HO380; have HO380 := n_; clear n_; have HX31 := Q_ (show Kd.S k61 61 w30 w.heap.size (fun k_ => ((fun k_ => some k_ ≠ (.slice Ao29 y396.length co29 : Value).ownBlock)) k_ ∧ ¬ ((fun _ => False)) k_) (.slice (some ⟨go26, 0, none⟩) t378.length co7) t378 from (by (with_reducible repeat (first | apply Kd.S_alloc | apply Kd.S_drewN | apply Kd.S_drew)); exact Kd.S_mono HO380.out (fun k_ hk => ⟨hk, fun e_ => e_⟩))); obtain ⟨oki31, ce31, hcl31, hM31, hcc31, hfr31, hoki31, hH31⟩ := Kd.S_elem HX31.out z61 (t383 : Int) dt_ (by have h_ : (t383 : Int) < ((t378.length : Int) : Int) := dt_; first | exact h_ | (have e_ := (Kd.S_reads' HO380.out).1; omega) | simpa using h_); obtain ⟨ve31_1, rfl, ge31_1⟩ := k61_openM hM31; have HP31 := Kd.S_seg hH31 dt_ (by have h_ : (t383 : Int) < ((t378.length : Int) : Int) := dt_; first | exact h_ | (have e_ := (Kd.S_reads' HO380.out).1; omega) | simpa using h_) (seg := [.int .i64 t399]) (j := 2) (show 3 ≤ 3 from by decide) (x' := (⟨(rd_T61 t378 t383).f0, (rd_T61 t378 t383).f1, t399⟩ : S61)) (k61_mkM _ _ _ (⟨(rd_T61 t378 t383).f0, (rd_T61 t378 t383).f1, t399⟩ : S61) (Kd.R_mono ge31_1 (fun _ h_ => Or.inl h_))) (fun _ hk => hk) (fun k_ hk_ => hk_.elim); have hx31_2 := hcc31 2 _ rfl; (try simp only [show (k61).sz = 3 from rfl, Nat.mul_one, Nat.add_zero] at hx31_2); have hf31_2 := hfr31 2; (try simp only [show (k61).sz = 3 from rfl, Nat.mul_one, Nat.add_zero] at hf31_2); clear hcl31 hcc31 hfr31 hoki31 hH31; (try clear hM31)) | ((with_reducible refine gate_store (t := 3) (p := 34) rfl ?_); refine store_event (t := 3) (p := 34) (v := ?vo_w32) (w1 := (w30.setCell ⟨go26, (t383 : Int).toNat * 3 + 2, none⟩ (.int .i64 t399))) ?hg ?ho ?hn ?hr ?_; (case ho => rfl); (case hg => rfl); (case hn => rfl); (case hr => first | (go_simp; done) | (go_simp; rfl)); intro w32 hw; have hg : w30.grownBy w32 (some go26) := (by rw [hw]; exact HP31.2); have hp_ : Kd.S k61 61 w32 w.heap.size (fun k_ => some k_ ≠ (.slice Ao29 y396.length co29 : Value).ownBlock) (.slice (some ⟨go26, 0, none⟩) t378.length co7) y402 := (by rw [hw, Ny402.out]; exact HP31.1); clear HP31; have _ := Q_ (IsS77.grown (qs77_0_ HI0.out) hg (IsS77.own_neS HI0.out HO380.out (by decide))); have _ := Q_ (hp_); have _ := Q_ (Kd.R_over' (v := (.slice (some ⟨go26, 0, none⟩) t378.length co7)) (pr_ HO398.out) (Kd.S_typed HO380.out) (by decide) hg); have _ := Q_ ((by rw [hw]; exact below_set (HB.out) (Nat.le_trans HL.out GB26.out) : Below w0.heap.size w0 w32)); have _ := Q_ (KeepBut.trans (qk0_ HK.out) (KeepBut.of_grown hg g) (Kd.S_base2 HO380.out)); clear HI0 HO380 HO398 HB HK; rename_i HI0 HO380 HO398 HB HK; clear hg hw hp_))
  go_ret
  exact ⟨_, er_, ps_ (Kd.S_mono HO380.out (fun _ hk => trivial)), qs77_0_ HI0.out, qb1_ HB.out (IsS77.ge HI0.out), qk0_ HK.out⟩
 rw [if_neg c22] at H
 have c22b0 : (t386 == 1) = false := beq_eq_false_iff_ne.mpr c22
 have c22b1 : (t386 != 1) = true := bne_iff_ne.mpr c22
 by_cases c33 : t386 = 2
 rotate_left
 ·rw [if_neg c33] at H
  have c33b0 : (t386 == 2) = false := beq_eq_false_iff_ne.mpr c33
  have c33b1 : (t386 != 2) = true := bne_iff_ne.mpr c33
  simp only [Option.some.injEq, Prod.mk.injEq] at H
  obtain ⟨rfl, rfl, rfl⟩ := H
  go_wp2
  go_ret
  exact ⟨_, er_, ps_ HO380.out, qs77_0_ HI0.out, qb1_ HB.out (IsS77.ge HI0.out), qk0_ HK.out⟩
 rw [if_pos c33] at H
 have c33b0 : (t386 == 2) = true := beq_iff_eq.mpr c33
 have c33b1 : (t386 != 2) = false := bne_eq_false_iff_eq.mpr c33
 clear c33
 by_cases c34 : 0 ≤ t383
 rotate_left
 ·rw [if_neg c34] at H
  exact absurd H (by simp)
 rw [if_pos c34] at H
 have c34b0 : decide (0 ≤ t383) = true := decide_eq_true c34
 clear c34
 by_cases c35 : t383 < (t378.length : Int)
 rotate_left
 ·rw [if_neg c35] at H
  exact absurd H (by simp)
 rw [if_pos c35] at H
 have c35b0 : decide (t383 < (t378.length : Int)) = true := decide_eq_true c35
 clear c35
 obtain ⟨y404, hy404⟩ : ∃ y_ : List Int, y_ = (([0, 1255, 1256] : List Int)) := ⟨_, rfl⟩
 replace H : ((spec_l1Int.f s0_0 t387 t388 y404).bind fun bt407 => (if ((rd_T61 t378 t383).f1).length < 17592186044416 then (some ((t378.set (t383 : Int).toNat (⟨(rd_T61 t378 t383).f0, (((rd_T61 t378 t383).f1) ++ [bt407.1]), (rd_T61 t378 t383).f2⟩ : S61)), bt407.2.1, bt407.2.2)) else (none))) = some (r1, r2, r3) := hb_ hy404 H
 have Ny404 := Q_ hy404
 clear hy404
 replace H := Option.bind_eq_some_iff.mp H
 obtain ⟨⟨t407, t408, t409⟩, A360, H⟩ := H
 (try dsimp only at H)
 have A36 := Q_ A360
 clear A360
 by_cases c37 : ((rd_T61 t378 t383).f1).length < 17592186044416
 rotate_left
 ·rw [if_neg c37] at H
  exact absurd H (by simp)
 rw [if_pos c37] at H
 have LMc37 := Q_ c37
 clear c37
 obtain ⟨y410, hy410⟩ : ∃ y_ : List Int, y_ = (((rd_T61 t378 t383).f1) ++ [t407]) := ⟨_, rfl⟩
 replace H : (some ((t378.set (t383 : Int).toNat (⟨(rd_T61 t378 t383).f0, y410, (rd_T61 t378 t383).f2⟩ : S61)), t408, t409)) = some (r1, r2, r3) := hb_ hy410 H
 have Ny410 := Q_ hy410
 clear hy410
 obtain ⟨y413, hy413⟩ : ∃ y_ : List (S61), y_ = (t378.set (t383 : Int).toNat (⟨(rd_T61 t378 t383).f0, y410, (rd_T61 t378 t383).f2⟩ : S61)) := ⟨_, rfl⟩
 replace H : (some (y413, t408, t409)) = some (r1, r2, r3) := hb_ hy413 H
 have Ny413 := Q_ hy413
 clear hy413
 simp only [Option.some.injEq, Prod.mk.injEq] at H
 obtain ⟨rfl, rfl, rfl⟩ := H
 try go_wp2
 have _ := Q_ (Kd.S_drew HO380.out)
 have _ := Q_ (IsS77.drew HI0.out)
 have _ := Q_ (keep_drew HK.out)
 have _ := Q_ (below_drew1 HB.out)
 clear HO380 HI0 HK HB
 rename_i HO380 HI0 HK HB
 have p403 : 0 ≤ (t383 : Int) := dt_
 have q403 : t383 < (t378.length : Int) := dt_
 obtain ⟨ad403, A403_1, c403_1, e403, hx403_0, hx403_1, hx403_2, hl403_1, hi403_1⟩ := at_T61 (Kd.S_reads' HO380.out).2.2 t383 p403 q403
 cases e403
 obtain ⟨ce403, hce403, hMe403, hcc403⟩ := Kd.S_get HO380.out z61 t383 p403 (by first | exact q403 | exact dt_ | (have e_ := (Kd.S_reads' HO380.out).1; omega))
 obtain ⟨ve403_1, rfl, ge403_1⟩ := k61_openM hMe403
 have hv403_1 := hcc403 1 _ rfl
 rw [add_field _ _ 1 (by omega)] at hv403_1
 replace hv403_1 := Option.some.inj (hv403_1.symm.trans hx403_1)
 rw [hv403_1] at ge403_1
 have HL403_1 := Q_ (show Kd.R (Kd.int .i64) 3 _ _ _ _ ((rd_T61 t378 t383).f1) from ge403_1)
 clear hv403_1 ge403_1
 have HX403_1 := Q_ hx403_1
 clear hcc403 hce403
 have HR403_1 := Q_ hi403_1
 have HC403_1 := Q_ hl403_1
 clear hi403_1 hl403_1
 replace p403 := eq_true p403
 replace q403 := eq_true q403
 refine start_ (n := 15) (S := fun w' => w'.cell? (ad403.add ((t383).toNat * 3)) = some (.int .i64 ((rd_T61 t378 t383).f0)) ∧ w'.cell? ⟨(ad403.add ((t383).toNat * 3)).block, (ad403.add ((t383).toNat * 3)).off + 1, none⟩ = some (.slice A403_1 ((rd_T61 t378 t383).f1).length c403_1) ∧ w'.cell? ⟨(ad403.add ((t383).toNat * 3)).block, (ad403.add ((t383).toNat * 3)).off + 2, none⟩ = some (.int .i64 ((rd_T61 t378 t383).f2))) (ds := [14]) #[false, false, false, false, false, false, false, false, false, false, false, false, false, false, false] (by kernel_rfl) rfl rfl ⟨hx403_0, hx403_1, hx403_2⟩ (fun hHeld => ?_); refine with_tabW spec_l23Any.tab11 spec_l23Any.bits11 (fun HT_ HW_ => ?_)
 generalize w10.drew = w39 at HO380 HI0 HK HB HL403_1 HR403_1 HX403_1 hx403_0 hx403_1 hx403_2 hHeld ⊢
 refine pu_ 0 (some 37) (tf_ 1 15) HT_ ?_
 refine pu_ 1 (some 38) (tf_ 2 15) HT_ ?_
 refine pu_ 2 (some 39) (tf_ 3 15) HT_ ?_
 refine pu_ 3 (some 40) (tf_ 4 15) HT_ ?_
 refine pu_ 4 (some 41) (tf_ 5 15) HT_ ?_
 refine pu_ 5 (some 42) (tf_ 6 15) HT_ ?_
 refine pu_ 7 (some 44) (tm_ 15 191) HT_ ?_
 refine ta_ 6 (some 43) (tf_ 8 15) HT_ HW_ hHeld ?_
 refine on_ 8 (some 45) (tf_ 9 15) HT_ (fun K hK => ?_)
 refine Kd.R_lit_step (Kd.int .i64) _ 3 ?hg (N := 45) ?hd (xs := ([0, 1255, 1256] : List Int)) (inner := [.int .i64 0, .int .i64 1255, .int .i64 1256]) (ok := fun _ => True) (okp := fun _ => True) ?hr ?hp (fun _ hk => hk) trivial (Below.refl _ _) (Nat.le_refl _) (by simp) ?_; (case hd => rfl); (case hg => rfl); (case hr => first | (go_simp; done) | (go_simp; rfl)); (case hp => exact (Reps.one (show Kd.M (Kd.int .i64) _ _ _ 0 [.int .i64 0] from rfl) (Reps.one (show Kd.M (Kd.int .i64) _ _ _ 1255 [.int .i64 1255] from rfl) (Reps.one (show Kd.M (Kd.int .i64) _ _ _ 1256 [.int .i64 1256] from rfl) (Reps.none _ _)))))
 intro v405 w40 ho41 hb hg_ hnew_
 have HS0_ := (hb.cell (World.block_lt_of_cell? _ _ (hHeld.1))).trans (hHeld.1)
 have HS1_ := (hb.cell (World.block_lt_of_cell? _ _ (hHeld.2.1))).trans (hHeld.2.1)
 have HS2_ := (hb.cell (World.block_lt_of_cell? _ _ (hHeld.2.2))).trans (hHeld.2.2)
 clear hg_ hnew_
 (first | rw [← Ny404.out] at ho41 | (simp only [Int.reduceToNat] at ho41; rw [← Ny404.out] at ho41))
 have _ := Q_ (Kd.S_elder' (ps_ HO380.out) (Kd.R_base ho41) hb)
 have _ := Q_ (Kd.R_elder' (pr_ HL403_1.out) (Kd.R_base ho41) hb)
 have _ := Q_ (Kd.R_lower (Kd.R_new' ho41 (Kd.R_lt (pr_ HL403_1.out))) (keep_size (w := w) (g := g) (row := none) (qk0_ HK.out)))
 have _ := Q_ (IsS77.below (qs77_0_ HI0.out) hb)
 have _ := Q_ (Kd.C_below (by repeat (first | (with_reducible exact HR403_1.out) | (with_reducible refine Kd.C_alloc ?_ _) | (with_reducible refine Kd.C_drewN ?_ _) | (with_reducible refine Kd.C_drew ?_) | exact HR403_1.out)) hb)
 have _ := Q_ (pw_cell_below hb HX403_1.out)
 have _ := Q_ (KeepBut.trans (qk0_ HK.out) (KeepBut.of_below hb g none) (.inl rfl))
 have _ := Q_ (below_step (qb1_ HB.out (IsS77.ge HI0.out)) hb)
 clear HO380 HL403_1 HI0 HR403_1 HX403_1 HK HB
 rename_i HO380 HL403_1 HO406 HI0 HR403_1 HX403_1 HK HB
 clear hb ho41
 obtain ⟨Ao42, co42, eo42⟩ := Kd.R_slice HO406.out
 (first | subst eo42 | (injection eo42 with f1_ f2_ f3_; have f4_ := f1_.symm; have f5_ := f3_.symm; clear f1_ f2_ f3_; subst f4_; subst f5_))
 refine hK.out _ _ ⟨HS0_, HS1_, HS2_⟩ (fun hHeld => ?_)
 clear hK K
 refine no_ (some 45) ?_
 refine on_ 9 (some 46) (tf_ 10 15) HT_ (fun K hK => ?_)
 refine goes_ Try.func27 (by kernel_rfl) rfl #[.pointer (some ⟨g, 0, none⟩), .slice Ao42 y404.length co42] (by rfl) rfl rfl mp_ ?_
 with_reducible refine (spec_l1Int.calls g s0_0 t387 t388 _ _ y404 t407 t408 t409 w0 _ ?side1 ?side2 ?side3 ?side4 ?side5 A36.out).mono ?_
 (case side1 => exact qs77_0_ HI0.out)
 (case side2 => exact qb1_ HB.out (IsS77.ge HI0.out))
 (case side3 => exact pc_ ((Kd.R_reads' HO406.out).2.2))
 (case side4 => exact (Kd.R_reads' HO406.out).2.1)
 (case side5 => exact far_slice (IsS77.own_ne HI0.out HO406.out (by decide)))
 rintro e w43 ⟨rfl, hi, hb, hk⟩
 have HS0_ := keep_cell hk (hHeld.1) (by first | (rw [add_block]; exact Kd.own_blk (IsS77.own_neS HI0.out HO380.out (by decide))) | (show (Addr.add _ _).block ≠ _; rw [add_block]; exact Kd.own_blk (IsS77.own_neS HI0.out HO380.out (by decide))) | exact Kd.own_blk (IsS77.own_neS HI0.out HO380.out (by decide)))
 have HS1_ := keep_cell hk (hHeld.2.1) (by first | (rw [add_block]; exact Kd.own_blk (IsS77.own_neS HI0.out HO380.out (by decide))) | (show (Addr.add _ _).block ≠ _; rw [add_block]; exact Kd.own_blk (IsS77.own_neS HI0.out HO380.out (by decide))) | exact Kd.own_blk (IsS77.own_neS HI0.out HO380.out (by decide)))
 have HS2_ := keep_cell hk (hHeld.2.2) (by first | (rw [add_block]; exact Kd.own_blk (IsS77.own_neS HI0.out HO380.out (by decide))) | (show (Addr.add _ _).block ≠ _; rw [add_block]; exact Kd.own_blk (IsS77.own_neS HI0.out HO380.out (by decide))) | exact Kd.own_blk (IsS77.own_neS HI0.out HO380.out (by decide)))
 refine ⟨_, rfl, ?_⟩
 have _ := Q_ (Kd.S_mono (Kd.S_keep (IsS77.apartS (show IsS77 w0 _ g s0_0 t387 t388 from qs77_0_ HI0.out) (ps_ HO380.out) (by decide)) hk (fun _ h => h.2)) (fun _ h => h.1))
 have _ := Q_ (Kd.R_mono (Kd.R_keep (IsS77.apart (show IsS77 w0 _ g s0_0 t387 t388 from qs77_0_ HI0.out) (pr_ HL403_1.out) (by decide)) hk (fun _ h => h.2)) (fun _ h => h.1))
 have _ := Q_ (keep_cell hk HX403_1.out (by first | (rw [add_block]; exact Kd.own_blk (IsS77.own_neS HI0.out HO380.out (by decide))) | (show (Addr.add _ _).block ≠ _; rw [add_block]; exact Kd.own_blk (IsS77.own_neS HI0.out HO380.out (by decide))) | exact Kd.own_blk (IsS77.own_neS HI0.out HO380.out (by decide)) | (dsimp only; exact Kd.own_blk (IsS77.own_neS HI0.out HO380.out (by decide)))))
 have _ := Q_ (Kd.R_mono (Kd.R_keep (IsS77.apart (show IsS77 w0 _ g s0_0 t387 t388 from qs77_0_ HI0.out) (pr_ HO406.out) (by decide)) hk (fun _ h => h.2)) (fun _ h => h.1))
 have _ := Q_ (KeepBut.trans (qk0_ HK.out) hk (.inl rfl))
 have _ := Q_ (hb)
 have _ := Q_ (hi)
 clear HO380 HL403_1 HX403_1 HO406 HK HB HI0
 rename_i HO380 HL403_1 HX403_1 HO406 HK HB HI0
 (try clear hb)
 (try clear hb2)
 (try clear hk)
 (try clear hi)
 have n_ := Q_ (Kd.S_mono (ok' := (fun k_ => some k_ ≠ (.slice Ao42 y404.length co42 : Value).ownBlock)) HO380.out (fun k_ hk => hk.2))
 clear HO380
 have HO380 := n_
 clear n_
 obtain ⟨go44, co44, eo44, gb44, gl44, cl44, HG44⟩ := Kd.S_form HO380.out (by have h_ : (t383 : Int) < ((t378.length : Int) : Int) := dt_; have h2_ : 0 ≤ (t383 : Int) := dt_; omega)
 (first | cases eo44 | (injection eo44 with ea_ en_ ec_; (first | subst ea_ | (injection ea_ with ea_; subst ea_)); subst ec_; clear en_))
 have GB44 := Q_ gb44
 have GG44 := Q_ HG44
 clear gb44 gl44 HG44
 (first | simp only [add_plain] at hx403_0 | skip)
 (first | simp only [add_plain] at hx403_1 | skip)
 (first | simp only [add_plain] at hx403_2 | skip)
 obtain ⟨oki44, ce44, hcl44, hM44, hcc44, _, _, hH44⟩ := Kd.S_elem HO380.out z61 (t383 : Int) dt_ (by have h_ : (t383 : Int) < ((t378.length : Int) : Int) := dt_; first | exact h_ | (have e_ := (Kd.S_reads' HO380.out).1; omega) | simpa using h_)
 obtain ⟨ve44_1, rfl, ge44_1⟩ := k61_openM hM44
 have hv44 := hcc44 1 _ rfl
 have hX44 := HX403_1.out
 (try simp only [add_plain] at hX44)
 (try simp only [Nat.add_zero] at hv44)
 replace hv44 := Option.some.inj (hv44.symm.trans hX44)
 subst hv44
 clear hX44 hcc44 hcl44
 have UU44 := Q_ (show Kd.R (Kd.int .i64) 3 _ w.heap.size oki44 (.slice A403_1 ((rd_T61 t378 t383).f1).length c403_1) ((rd_T61 t378 t383).f1) from ge44_1)
 have HH44 := Q_ hH44
 have HN44 := Q_ (Kd.S_reads' HO380.out).1
 clear hH44 ge44_1
 refine hK.out _ _ ⟨HS0_, HS1_, HS2_⟩ (fun hHeld => ?_)
 clear hK K
 refine no_ (some 46) ?_
 refine on_ 10 (some 47) (tf_ 11 15) HT_ (fun K hK => ?_)
 refine value_ (w1 := ?_) (v := ?_) (by rfl) rfl ?_ ?_
 rotate_left 2
 ·go_simp
  constructor
  ·rfl
  ·rfl
 refine hK.out _ _ ⟨(World.cell?_alloc_lt _ _ _ (World.block_lt_of_cell? _ _ (hHeld.1))).trans (hHeld.1), (World.cell?_alloc_lt _ _ _ (World.block_lt_of_cell? _ _ (hHeld.2.1))).trans (hHeld.2.1), (World.cell?_alloc_lt _ _ _ (World.block_lt_of_cell? _ _ (hHeld.2.2))).trans (hHeld.2.2)⟩ (fun hHeld => ?_)
 clear hK K
 refine no_ (some 47) ?_
 refine on_ 11 (some 48) (tf_ 12 15) HT_ (fun K hK => ?_)
 refine Kd.R_append_step (Kd.int .i64) w.heap.size (by rfl) (.tmp 43) (.tmp 47) 25 3 (.int .i64 0) 8 rfl Try.underlying25 info3 rfl (by decide) (by omega) (.slice A403_1 ((rd_T61 t378 t383).f1).length c403_1) ((rd_T61 t378 t383).f1) t407 [.int .i64 t407] (fun k_ => oki44 k_ ∨ ((fun k_ => some k_ ≠ (.slice Ao42 y404.length co42 : Value).ownBlock)) k_ ∧ w43.heap.size ≤ k_) (fun _ => False) rfl rfl ?aP (fun _ hk => hk.elim) ?aF ?aO (Below.refl _ _) ?aS ?aL ?_
 (case aP => exact rfl)
 (case aF => exact (fun k_ hk => .inr ⟨Kd.fresh' (Kd.R_lt (pr_ HO406.out)) k_ hk, hk⟩))
 (case aO => exact (Kd.R_mono (pr_ UU44.out) (fun _ hk => .inl hk)))
 (case aS => exact (keep_size (w := w) (g := g) (row := none) (qk0_ HK.out)))
 (case aL => have := LMc37.out; omega)
 intro v411 w45 ho hb hg hat
 (first | have HS0_ := cell_grown hg (hHeld.1) (by first | (rw [add_block]; exact (fun e_ => ((HL403_1.out.1 _ e_.symm).1.2) rfl)) | (show some (Addr.add _ _).block ≠ _; rw [add_block]; exact (fun e_ => ((HL403_1.out.1 _ e_.symm).1.2) rfl)) | exact (fun e_ => ((HL403_1.out.1 _ e_.symm).1.2) rfl)) | have HS0_ := cell_grown hg (cell_unalloc (hHeld.1) (by first | (rw [add_block]; exact Kd.S_lt HO380.out _ rfl) | (show (Addr.add _ _).block < _; rw [add_block]; exact Kd.S_lt HO380.out _ rfl) | exact Kd.S_lt HO380.out _ rfl)) (by first | (rw [add_block]; exact (fun e_ => ((HL403_1.out.1 _ e_.symm).1.2) rfl)) | (show some (Addr.add _ _).block ≠ _; rw [add_block]; exact (fun e_ => ((HL403_1.out.1 _ e_.symm).1.2) rfl)) | exact (fun e_ => ((HL403_1.out.1 _ e_.symm).1.2) rfl)))
 (first | have HS1_ := cell_grown hg (hHeld.2.1) (by first | (rw [add_block]; exact (fun e_ => ((HL403_1.out.1 _ e_.symm).1.2) rfl)) | (show some (Addr.add _ _).block ≠ _; rw [add_block]; exact (fun e_ => ((HL403_1.out.1 _ e_.symm).1.2) rfl)) | exact (fun e_ => ((HL403_1.out.1 _ e_.symm).1.2) rfl)) | have HS1_ := cell_grown hg (cell_unalloc (hHeld.2.1) (by first | (rw [add_block]; exact Kd.S_lt HO380.out _ rfl) | (show (Addr.add _ _).block < _; rw [add_block]; exact Kd.S_lt HO380.out _ rfl) | exact Kd.S_lt HO380.out _ rfl)) (by first | (rw [add_block]; exact (fun e_ => ((HL403_1.out.1 _ e_.symm).1.2) rfl)) | (show some (Addr.add _ _).block ≠ _; rw [add_block]; exact (fun e_ => ((HL403_1.out.1 _ e_.symm).1.2) rfl)) | exact (fun e_ => ((HL403_1.out.1 _ e_.symm).1.2) rfl)))
 (first | have HS2_ := cell_grown hg (hHeld.2.2) (by first | (rw [add_block]; exact (fun e_ => ((HL403_1.out.1 _ e_.symm).1.2) rfl)) | (show some (Addr.add _ _).block ≠ _; rw [add_block]; exact (fun e_ => ((HL403_1.out.1 _ e_.symm).1.2) rfl)) | exact (fun e_ => ((HL403_1.out.1 _ e_.symm).1.2) rfl)) | have HS2_ := cell_grown hg (cell_unalloc (hHeld.2.2) (by first | (rw [add_block]; exact Kd.S_lt HO380.out _ rfl) | (show (Addr.add _ _).block < _; rw [add_block]; exact Kd.S_lt HO380.out _ rfl) | exact Kd.S_lt HO380.out _ rfl)) (by first | (rw [add_block]; exact (fun e_ => ((HL403_1.out.1 _ e_.symm).1.2) rfl)) | (show some (Addr.add _ _).block ≠ _; rw [add_block]; exact (fun e_ => ((HL403_1.out.1 _ e_.symm).1.2) rfl)) | exact (fun e_ => ((HL403_1.out.1 _ e_.symm).1.2) rfl)))
 rw [← Ny410.out] at ho
 have _ := Q_ (IsS77.grown (qs77_0_ HI0.out) hg (IsS77.own_ne HI0.out HL403_1.out (by decide)))
 have _ := Q_ (Kd.R_grown2 (pr_ HO406.out) rfl hg (fun k_ e_ => (HL403_1.out.1 k_ e_).2))
 have _ := Q_ (below_weaken (qb1_ HB.out (IsS77.ge HI0.out)) HL.out hb)
 have _ := Q_ (KeepBut.trans (qk0_ HK.out) (KeepBut.of_grown hg g) (Kd.R_base2 HL403_1.out))
 have _ := Q_ (Kd.H_grown (Kd.H_widen (by repeat (first | exact HH44.out | refine Kd.H_alloc ?_ _ | refine Kd.H_drewN ?_ _ | refine Kd.H_drew ?_))) hg (fun k_ e_ => .inl (UU44.out.1 k_ e_)))
 have _ := Q_ (ho)
 clear HI0 HO406 HB HK HH44 HO380 UU44 HL403_1
 rename_i HI0 HO406 HB HK HH44 HO412
 clear ho hb hg hat
 have p38 : 0 ≤ (t383 : Int) := dt_
 have q38 : (t383 : Int) < ((t378.length : Int) : Int) := dt_
 replace p38 := eq_true p38
 replace q38 := eq_true q38
 obtain ⟨Ao48, co48, eo48⟩ := Kd.R_slice HO412.out
 (first | subst eo48 | (injection eo48 with f1_ f2_ f3_; have f4_ := f1_.symm; have f5_ := f3_.symm; clear f1_ f2_ f3_; subst f4_; subst f5_))
 obtain ⟨_, _, hraw46, _, _, hcc46, _⟩ := Kd.H_raw HH44.out dt_ (by have h_ : (t383 : Int) < ((t378.length : Int) : Int) := dt_; first | exact h_ | (have e_ := (HN44.out); omega) | simpa using h_)
 obtain ⟨_, hfr46⟩ := Kd.H_at HH44.out dt_ (by have h_ : (t383 : Int) < ((t378.length : Int) : Int) := dt_; first | exact h_ | (have e_ := (HN44.out); omega) | simpa using h_)
 have hx46_0 := hcc46 1 _ rfl
 have hf46_0 := hfr46 1
 (try rw [show (k61).sz = 3 from rfl] at hx46_0)
 (try rw [show (k61).sz = 3 from rfl] at hf46_0)
 have HP46 := Kd.S_seg0 HH44.out dt_ (by have h_ : (t383 : Int) < ((t378.length : Int) : Int) := dt_; first | exact h_ | (have e_ := (HN44.out); omega) | simpa using h_) (seg := [.slice Ao48 y410.length co48]) (j := 1) (show 2 ≤ 3 from by decide) (x' := (⟨(rd_T61 t378 t383).f0, y410, (rd_T61 t378 t383).f2⟩ : S61)) (k61_mkM _ _ _ (⟨(rd_T61 t378 t383).f0, y410, (rd_T61 t378 t383).f2⟩ : S61) HO412.out) (fun _ hk => hk)
 clear hcc46 hfr46
 have HN0_go44 := Q_ (show g ≠ go44 from by have h_ := IsS77.own_ne HI0.out hraw46 (by decide); intro e_; exact h_ (by rw [e_]; rfl))
 have HS46 := HP46.1
 rw [← Ny413.out] at HS46
 have HQ46 := Q_ HS46
 obtain ⟨_, hgg46⟩ := Kd.R_typed hraw46 go44 rfl
 have GG46_ := Q_ hgg46
 clear HP46 HS46 hgg46
 refine hK.out _ _ ⟨HS0_, HS1_, HS2_⟩ (fun hHeld => ?_)
 clear hK K
 refine no_ (some 48) ?_
 refine pu_ 12 (some 49) (tf_ 13 15) HT_ ?_
 refine pu_ 13 (some 50) (tf_ 14 15) HT_ ?_
 refine last_ (i := 14) (N := none) #[true, true, true, true, true, true, true, true, true, true, true, true, true, true, true] rfl rfl (one_of HT_.out (by kernel_rfl)) (by decide) (fun K hK => ?_)
 refine skip_ (w1 := ?_) (by rfl) rfl ?_ ?_
 rotate_left
 ·go_simp
  rfl
 refine hK.out _ _ ?_
 clear hK K
 refine done_ (done_of HT_.out (by kernel_rfl)) ?_
 try go_wp2
 go_ret
 exact ⟨_, er_, ps_ (Kd.S_mono HQ46.out (fun _ hk => trivial)), qs77_1_ HI0.out HN0_go44.out, qb2_ HB.out (Nat.le_trans HL.out GB44.out) (IsS77.ge HI0.out), qk1_ HK.out GB44.out⟩

/-! ### spec_DrawRemember: function 6 -/
def spec_DrawRemember.f (k : Nat) (l0 : List Int) : Option ((List (S61)) × Int × List Int × Int) := (spec_l1New.f k l0).bind fun bt414 => ((spec_l23Any.f k bt414.1 bt414.2.1 bt414.2.2).bind fun bt418 => ((spec_l1Below.f bt414.1 bt418.2.1 bt418.2.2 8).bind fun bt423 => ((spec_l17Tags.f k bt414.1 bt423.2.1 bt423.2.2).bind fun bt426 => ((spec_l1Int.f bt414.1 bt426.2.1 bt426.2.2 (([0, 5, 50, (-1)] : List Int))).bind fun bt434 => (some (bt418.1, wrap64 (bt423.1 - 1), bt426.1, bt434.1))))))
theorem spec_DrawRemember.mono : ∀ a0 k, LeO (spec_DrawRemember.f k a0) (spec_DrawRemember.f (k + 1) a0) := by
 intro a0 k
 unfold spec_DrawRemember.f
 exact mo3_ spec_l17Tags.mono spec_l1New.mono spec_l23Any.mono
theorem spec_DrawRemember.calls (k : Nat) (A0 : Option Addr) (c0 : Nat) (l0 : List Int) (r1 : List (S61)) (r2 : Int) (r3 : List Int) (r4 : Int) (w : World) (hr0 : Kd.C (Kd.int .u8) w A0 l0.length l0) (hc0 : l0.length ≤ c0) (h : spec_DrawRemember.f k l0 = some (r1, r2, r3, r4)) :
  Calls Try.prog 6 #[.slice A0 l0.length c0] w fun e w' => ∃ v0_ v2_ : Value, e = .returned (.tuple #[v0_, .int .i64 r2, v2_, .int .i64 r4]) ∧ Kd.S k61 61 w' w.heap.size (fun k_ => some k_ ≠ (v2_ : Value).ownBlock) v0_ r1 ∧ Kd.R (Kd.int .i64) 3 w' w.heap.size (fun _ => True) v2_ r3 ∧ Below w.heap.size w w' := by
 have HR0 := Q_ hr0
 have HC0 := Q_ hc0
 clear hr0 hc0
 have HB := Q_ (Below.refl w.heap.size w)
 have H : ((spec_l1New.f k l0).bind fun bt414 => ((spec_l23Any.f k bt414.1 bt414.2.1 bt414.2.2).bind fun bt418 => ((spec_l1Below.f bt414.1 bt418.2.1 bt418.2.2 8).bind fun bt423 => ((spec_l17Tags.f k bt414.1 bt423.2.1 bt423.2.2).bind fun bt426 => ((spec_l1Int.f bt414.1 bt426.2.1 bt426.2.2 (([0, 5, 50, (-1)] : List Int))).bind fun bt434 => (some (bt418.1, wrap64 (bt423.1 - 1), bt426.1, bt434.1))))))) = some (r1, r2, r3, r4) := h
 clear h
 replace H := Option.bind_eq_some_iff.mp H
 obtain ⟨⟨t414, t415, t416⟩, A20, H⟩ := H
 (try dsimp only at H)
 have A2 := Q_ A20
 clear A20
 replace H := Option.bind_eq_some_iff.mp H
 obtain ⟨⟨t418, t421, t422⟩, A30, H⟩ := H
 (try dsimp only at H)
 have A3 := Q_ A30
 clear A30
 replace H := Option.bind_eq_some_iff.mp H
 obtain ⟨⟨t423, t424, t425⟩, A40, H⟩ := H
 (try dsimp only at H)
 have A4 := Q_ A40
 clear A40
 replace H := Option.bind_eq_some_iff.mp H
 obtain ⟨⟨t426, t429, t430⟩, A50, H⟩ := H
 (try dsimp only at H)
 have A5 := Q_ A50
 clear A50
 obtain ⟨y431, hy431⟩ : ∃ y_ : List Int, y_ = (([0, 5, 50, (-1)] : List Int)) := ⟨_, rfl⟩
 replace H : ((spec_l1Int.f t414 t429 t430 y431).bind fun bt434 => (some (t418, wrap64 (t423 - 1), t426, bt434.1))) = some (r1, r2, r3, r4) := hb_ hy431 H
 have Ny431 := Q_ hy431
 clear hy431
 replace H := Option.bind_eq_some_iff.mp H
 obtain ⟨⟨t434, t435, t436⟩, A60, H⟩ := H
 replace H : (some (t418, wrap64 (t423 - 1), t426, t434)) = some (r1, r2, r3, r4) := H
 have A6 := Q_ A60
 clear A60
 simp only [Option.some.injEq, Prod.mk.injEq] at H
 obtain ⟨rfl, rfl, rfl, rfl⟩ := H
 go_enter Try.func6, Try.ntmps6
 go_wp2_with (first | ((with_reducible refine gate_callee (f := 23) rfl ?_); refine gl_ (some 10) Try.func23 #[.slice A0 l0.length c0] ?_; (with_reducible refine (spec_l1New.calls k _ _ l0 t414 t415 t416 w _ ?side1 ?side2 ?side3 A2.out).mono ?_); (case side1 => exact qb0_ HB.out); (case side2 => exact HR0.out); (case side3 => exact HC0.out); rintro e w7 ⟨g417, rfl, hi, hb, hb2⟩; refine ⟨_, rfl, ?_⟩; have _ := Q_ (hb); have _ := Q_ (hi); clear HB; rename_i HB HI417; (try clear hb); (try clear hb2); (try clear hk); (try clear hi)) | ((with_reducible refine gate_callee (f := 24) rfl ?_); refine gl_ (some 12) Try.func24 #[.pointer (some ⟨g417, 0, none⟩)] ?_; (with_reducible refine (spec_l23Any.calls k g417 t414 t415 t416 t418 t421 t422 w _ ?side1 ?side2 A3.out).mono ?_); (case side1 => exact qs77_0_ HI417.out); (case side2 => exact qb1_ HB.out (IsS77.ge HI417.out)); rintro e w8 ⟨v419, rfl, ho0, hi, hb, hk⟩; refine ⟨_, rfl, ?_⟩; have _ := Q_ (Kd.S_lower ho0 (below_size (qb1_ HB.out (IsS77.ge HI417.out)))); have _ := Q_ (hb); have _ := Q_ (hi); clear HB HI417; rename_i HO420 HB HI417; (try clear hb); (try clear hb2); (try clear hk); (try clear hi); (try clear ho0)) | ((with_reducible refine gate_callee (f := 25) rfl ?_); refine gl_ (some 14) Try.func25 #[.pointer (some ⟨g417, 0, none⟩), .int .i64 8] ?_; (with_reducible refine (spec_l1Below.calls g417 t414 t421 t422 8 t423 t424 t425 w _ ?side1 ?side2 A4.out).mono ?_); (case side1 => exact qs77_0_ HI417.out); (case side2 => exact qb1_ HB.out (IsS77.ge HI417.out)); rintro e w9 ⟨rfl, hi, hb, hk⟩; refine ⟨_, rfl, ?_⟩; have _ := Q_ (Kd.S_mono (Kd.S_keep (IsS77.apartS (show IsS77 w _ g417 t414 t421 t422 from qs77_0_ HI417.out) (ps_ HO420.out) (by decide)) hk (fun _ h => h.2)) (fun _ h => h.1)); have _ := Q_ (hb); have _ := Q_ (hi); clear HO420 HB HI417; rename_i HO420 HB HI417; (try clear hb); (try clear hb2); (try clear hk); (try clear hi)) | ((with_reducible refine gate_callee (f := 26) rfl ?_); refine gl_ (some 19) Try.func26 #[.pointer (some ⟨g417, 0, none⟩)] ?_; (with_reducible refine (spec_l17Tags.calls k g417 t414 t424 t425 t426 t429 t430 w _ ?side1 ?side2 A5.out).mono ?_); (case side1 => exact qs77_0_ HI417.out); (case side2 => exact qb1_ HB.out (IsS77.ge HI417.out)); rintro e w10 ⟨v427, rfl, ho0, hi, hb, hk⟩; refine ⟨_, rfl, ?_⟩; have _ := Q_ (Kd.S_mono (Kd.S_told (Kd.S_oldK (IsS77.apartS (show IsS77 w _ g417 t414 t424 t425 from qs77_0_ HI417.out) (ps_ HO420.out) (by decide)) hk) (Kd.R_base ho0)) (fun _ h_ => h_.1)); have _ := Q_ (Kd.R_lower ho0 (below_size (qb1_ HB.out (IsS77.ge HI417.out)))); have _ := Q_ (hb); have _ := Q_ (hi); clear HO420 HB HI417; rename_i HO420 HO428 HB HI417; (try clear hb); (try clear hb2); (try clear hk); (try clear hi); (try clear ho0)) | ((with_reducible refine gate_dst (N := 21) rfl ?_); refine Kd.R_lit (Kd.int .i64) _ 3 ?hg (N := 21) ?hd (xs := ([0, 5, 50, (-1)] : List Int)) (inner := [.int .i64 0, .int .i64 5, .int .i64 50, .int .i64 (-1)]) (ok := fun _ => True) (okp := fun _ => True) ?hr ?hp (fun _ hk => hk) trivial (Below.refl _ _) (Nat.le_refl _) (by simp) ?_; (case hd => rfl); (case hg => rfl); (case hr => first | (go_simp; done) | (go_simp; rfl)); (case hp => exact (Reps.one (show Kd.M (Kd.int .i64) _ _ _ 0 [.int .i64 0] from rfl) (Reps.one (show Kd.M (Kd.int .i64) _ _ _ 5 [.int .i64 5] from rfl) (Reps.one (show Kd.M (Kd.int .i64) _ _ _ 50 [.int .i64 50] from rfl) (Reps.one (show Kd.M (Kd.int .i64) _ _ _ (-1) [.int .i64 (-1)] from rfl) (Reps.none _ _)))))); intro v432 w11 ho12 hb hg_ hnew_; clear hg_ hnew_; (first | rw [← Ny431.out] at ho12 | (simp only [Int.reduceToNat] at ho12; rw [← Ny431.out] at ho12)); have _ := Q_ (Kd.S_elder' (ps_ HO420.out) (Kd.R_base ho12) hb); have _ := Q_ (Kd.R_elder' (pr_ HO428.out) (Kd.R_base ho12) hb); have _ := Q_ (Kd.R_lower (Kd.R_new' ho12 (Kd.R_lt (pr_ HO428.out))) (below_size (qb1_ HB.out (IsS77.ge HI417.out)))); have _ := Q_ (IsS77.below (qs77_0_ HI417.out) hb); have _ := Q_ (below_step (qb1_ HB.out (IsS77.ge HI417.out)) hb); clear HO420 HO428 HI417 HB; rename_i HO420 HO428 HO433 HI417 HB; clear hb ho12; obtain ⟨Ao13, co13, eo13⟩ := Kd.R_slice HO433.out; subst eo13) | ((with_reducible refine gate_callee (f := 27) rfl ?_); refine gl_ (some 22) Try.func27 #[.pointer (some ⟨g417, 0, none⟩), .slice Ao13 y431.length co13] ?_; (with_reducible refine (spec_l1Int.calls g417 t414 t429 t430 _ _ y431 t434 t435 t436 w _ ?side1 ?side2 ?side3 ?side4 ?side5 A6.out).mono ?_); (case side1 => exact qs77_0_ HI417.out); (case side2 => exact qb1_ HB.out (IsS77.ge HI417.out)); (case side3 => exact pc_ ((Kd.R_reads' HO433.out).2.2)); (case side4 => exact (Kd.R_reads' HO433.out).2.1); (case side5 => exact far_slice (IsS77.own_ne HI417.out HO433.out (by decide))); rintro e w14 ⟨rfl, hi, hb, hk⟩; refine ⟨_, rfl, ?_⟩; have _ := Q_ (Kd.S_mono (Kd.S_keep (IsS77.apartS (show IsS77 w _ g417 t414 t429 t430 from qs77_0_ HI417.out) (ps_ HO420.out) (by decide)) hk (fun _ h => h.2)) (fun _ h => h.1)); have _ := Q_ (Kd.R_mono (Kd.R_keep (IsS77.apart (show IsS77 w _ g417 t414 t429 t430 from qs77_0_ HI417.out) (pr_ HO428.out) (by decide)) hk (fun _ h => h.2)) (fun _ h => h.1)); have _ := Q_ (Kd.R_mono (Kd.R_keep (IsS77.apart (show IsS77 w _ g417 t414 t429 t430 from qs77_0_ HI417.out) (pr_ HO433.out) (by decide)) hk (fun _ h => h.2)) (fun _ h => h.1)); have _ := Q_ (hb); have _ := Q_ (hi); clear HO420 HO428 HO433 HB HI417; rename_i HO420 HO428 HO433 HB HI417; (try clear hb); (try clear hb2); (try clear hk); (try clear hi)))
 refine bodyPost_ret (results_list (rs := [.tmp 2, .tmp 3, .tmp 4, .tmp 5]) rfl (by simp) (.tmp (.tmp (.tmp (.tmp .nil))))) rfl ?_
 exact ⟨_, _, er_, ps_ (Kd.S_mono HO420.out (fun _ hk => hk.1.2)), pr_ (Kd.R_mono HO428.out (fun _ hk => trivial)), qb1_ HB.out (IsS77.ge HI417.out)⟩

/-! ### impl_InRange: function 28 -/
def impl_InRange.f (a0 : Int) (a1 : Int) (a2 : Int) : Option (Bool) := if a1 ≤ a0 then (some (decide (a0 ≤ a2))) else (some false)
theorem impl_InRange.calls (a0 : Int) (a1 : Int) (a2 : Int) (r : Bool) (w : World) (h : impl_InRange.f a0 a1 a2 = some r) :
  Calls Try.prog 28 #[.int .i64 a0, .int .i64 a1, .int .i64 a2] w fun e w' => e = .returned (.bool r) ∧ Drawn0 w w' := by
 have H : (if a1 ≤ a0 then (some (decide (a0 ≤ a2))) else (some false)) = some r := h
 clear h
 by_cases c4 : a1 ≤ a0
 rotate_left
 ·rw [if_neg c4] at H
  have c4b0 : decide (a1 ≤ a0) = false := decide_eq_false c4
  clear c4
  obtain rfl := Option.some.inj H
  go_enter Try.func28, Try.ntmps28
  go_wp2
  go_ret
  exact ⟨by first | rfl | (simp; done) | (simp [*]; done), by repeat (first | exact Drawn0.refl _ | apply Drawn0.step)⟩
 rw [if_pos c4] at H
 have c4b0 : decide (a1 ≤ a0) = true := decide_eq_true c4
 clear c4
 obtain rfl := Option.some.inj H
 go_enter Try.func28, Try.ntmps28
 go_wp2
 go_ret
 exact ⟨by first | rfl | (simp; done) | (simp [*]; done), by repeat (first | exact Drawn0.refl _ | apply Drawn0.step)⟩

/-! ### impl_Remember_1: function 30 -/
def impl_Remember_1.f (a0_0 : Int) (l0_1 : List Int) (a0_2 : Int) : Option (Bool) := some true
theorem impl_Remember_1.calls (a0_0 : Int) (A0_1 : Option Addr) (c0_1 : Nat) (l0_1 : List Int) (a0_2 : Int) (r : Bool) (w : World) (hr0_1 : Kd.C (Kd.int .i64) w A0_1 l0_1.length l0_1) (hc0_1 : l0_1.length ≤ c0_1) (h : impl_Remember_1.f a0_0 l0_1 a0_2 = some r) :
  Calls Try.prog 30 #[.agg #[.int .i64 a0_0, .slice A0_1 l0_1.length c0_1, .int .i64 a0_2]] w fun e w' => e = .returned (.bool r) ∧ Below w.heap.size w w' := by
 have hu61 := Try.underlying61
 have HR0_1 := Q_ hr0_1
 have HC0_1 := Q_ hc0_1
 clear hr0_1 hc0_1
 have HB := Q_ (Below.refl w.heap.size w)
 have H : (some true) = some r := h
 clear h
 obtain rfl := Option.some.inj H
 go_enter Try.func30, Try.ntmps30
 go_wp2_with (first | ((with_reducible refine gate_dst (N := 1) rfl ?_); refine box_event ?hg (N := 1) ?hd (cs := #[.int .i64 a0_0, .slice A0_1 l0_1.length c0_1, .int .i64 a0_2]) (t := 61) ?hr ?_; (case hd => rfl); (case hg => rfl); (case hr => first | (go_simp; done) | (go_simp; rfl)); intro gb437 hg w2 hbox hb; have _ := Q_ (below_step (pb_ HB.out) hb); have BK437 := Q_ (hbox); have GW437 := Q_ ((by rw [hg]; exact (below_size (pb_ HB.out)) : w.heap.size ≤ gb437)); have GE437 := GW437; clear HB; rename_i HB; clear hb hbox hg))
 go_ret
 exact ⟨er_, pb1_ HB.out GE437.out⟩

/-! ### impl_keptKnown_with_impl_Remember_1: function 100000 -/
def impl_keptKnown_with_impl_Remember_1.l0 : Nat → List (S61) → List (S61) → Int → Int → Option ((List (S61)))
 | 0, _, _, _, _ => none
 | k + 1, x5, x9, x10, x11 => if x11 < x10 then (if 0 ≤ x11 then (if x11 < (x9.length : Int) then ((impl_Remember_1.f ((rd_T61 x9 x11).f0) ((rd_T61 x9 x11).f1) ((rd_T61 x9 x11).f2)).bind fun t443 => (if t443 = true then ((some (([] : List Int) : List Int)).bind fun y444 => (if y444.length + ((rd_T61 x9 x11).f1).length < 17592186044416 then (if x5.length < 3518437208883 then (impl_keptKnown_with_impl_Remember_1.l0 k (x5 ++ [(⟨(rd_T61 x9 x11).f0, (y444 ++ ((rd_T61 x9 x11).f1)), (rd_T61 x9 x11).f2⟩ : S61)]) x9 x10 (wrap64 (x11 + 1))) else (none)) else (none))) else (impl_keptKnown_with_impl_Remember_1.l0 k x5 x9 x10 (wrap64 (x11 + 1))))) else (none)) else (none)) else (some x5)
def impl_keptKnown_with_impl_Remember_1.f (k : Nat) (l0 : List (S61)) : Option ((List (S61))) := impl_keptKnown_with_impl_Remember_1.l0 k (([] : List (S61))) l0 (l0.length : Int) 0
theorem impl_keptKnown_with_impl_Remember_1.mono_l : ∀ k, (∀ y0 y1 y2 y3, LeO (impl_keptKnown_with_impl_Remember_1.l0 k y0 y1 y2 y3) (impl_keptKnown_with_impl_Remember_1.l0 (k + 1) y0 y1 y2 y3))
 | 0 => fun _ _ _ _ r h => by simp [impl_keptKnown_with_impl_Remember_1.l0] at h
 | k + 1 => by
  have ih0 := impl_keptKnown_with_impl_Remember_1.mono_l k
  ·intro y0 y1 y2 y3
   unfold impl_keptKnown_with_impl_Remember_1.l0
   exact mo1_ ih0
theorem impl_keptKnown_with_impl_Remember_1.mono : ∀ a0 k, LeO (impl_keptKnown_with_impl_Remember_1.f k a0) (impl_keptKnown_with_impl_Remember_1.f (k + 1) a0) := by
 intro a0 k
 have ih0 := impl_keptKnown_with_impl_Remember_1.mono_l k
 unfold impl_keptKnown_with_impl_Remember_1.f
 exact mo1_ ih0
def impl_keptKnown_with_impl_Remember_1.T6 : Bool × List (List Nat × List Nat) := (true, [([], []), ([], []), ([1], [1]), ([], []), ([], []), ([4], [4]), ([3, 5], [3, 5]), ([], []), ([7], [7]), ([2, 6, 8], [2, 6, 8]), ([9], [9]), ([0, 10, 6], [0, 10]), ([11, 11, 0, 1, 2, 3, 4, 5, 6, 7, 8, 9, 10, 11], [0, 11])])
def impl_keptKnown_with_impl_Remember_1.B6 : List Nat := [0, 0, 2, 0, 0, 16, 56, 0, 128, 510, 1022, 2047, 4095]
theorem impl_keptKnown_with_impl_Remember_1.tab6 : rtab .any (opsOf Try.f29 6) = impl_keptKnown_with_impl_Remember_1.T6 := by kernel_rfl
theorem impl_keptKnown_with_impl_Remember_1.bits6 : waitsOk impl_keptKnown_with_impl_Remember_1.T6.2 impl_keptKnown_with_impl_Remember_1.B6 = true := by kernel_rfl
theorem impl_keptKnown_with_impl_Remember_1.calls (k : Nat) (A0 : Option Addr) (c0 : Nat) (l0 : List (S61)) (r : List (S61)) (w : World) (hr0 : Kd.C k61 w A0 l0.length l0) (hc0 : l0.length ≤ c0) (h : impl_keptKnown_with_impl_Remember_1.f k l0 = some r) :
  Calls Try.prog 29 #[.slice A0 l0.length c0, .func (.func 30) #[] #[]] w fun e w' => ∃ v0_ : Value, e = .returned (v0_) ∧ Kd.S k61 61 w' w.heap.size (fun _ => True) v0_ r ∧ Below w.heap.size w w' := by
 have hu61 := Try.underlying61
 have HR0 := Q_ hr0
 have HC0 := Q_ hc0
 clear hr0 hc0
 have HB := Q_ (Below.refl w.heap.size w)
 have H : (impl_keptKnown_with_impl_Remember_1.l0 k (([] : List (S61))) l0 (l0.length : Int) 0) = some r := h
 clear h
 obtain ⟨y438, hy438⟩ : ∃ y_ : List (S61), y_ = (([] : List (S61))) := ⟨_, rfl⟩
 replace H : (impl_keptKnown_with_impl_Remember_1.l0 k y438 l0 (l0.length : Int) 0) = some r := hb_ hy438 H
 have Ny438 := Q_ hy438
 clear hy438
 have H' := Q_ H
 clear H
 go_enter Try.func29, Try.ntmps29
 go_wp2_with (first | ((with_reducible refine gate_dst (N := 8) rfl ?_); refine Kd.S_lit k61 _ 61 ?hg (N := 8) ?hd (xs := ([] : List (S61))) (inner := []) (ok := fun _ => True) (okp := fun _ => True) ?hr ?hp (fun _ hk => hk) trivial (Below.refl _ _) (Nat.le_refl _) (by simp) ?_; (case hd => rfl); (case hg => rfl); (case hr => first | (go_simp; done) | (go_simp; rfl)); (case hp => exact (Reps.none _ _)); intro v439 w2 ho3 hb hg_ hnew_; clear hg_ hnew_; (first | rw [← Ny438.out] at ho3 | (simp only [Int.reduceToNat] at ho3; rw [← Ny438.out] at ho3)); have _ := Q_ (Kd.S_lower ho3 (below_size (pb_ HB.out))); have _ := Q_ (below_step (pb_ HB.out) hb); clear HB; rename_i HO440 HB; clear hb ho3))
 (try simp only [Act.put, List.setIfInBounds_toArray, List.set_cons_zero, List.set_cons_succ])
 go_loopg [5, 11] k (fun kq v5 v11 w' => ∃ (x5_1 : List (S61)) (x11_1 : Int), v11 = .int .i64 x11_1 ∧ Aside0 (impl_keptKnown_with_impl_Remember_1.l0 kq x5_1 l0 (l0.length : Int) x11_1 = some r) ∧ Aside0 (kq ≤ k) ∧ Aside0 (Kd.S k61 61 w' w.heap.size (fun _ => True) v5 x5_1) ∧ Aside0 (Below w.heap.size w w'))
 case atStart => exact ⟨(y438), (0), el_, H', ⟨Nat.le_refl _⟩, ⟨ps_ HO440.out⟩, ⟨pb_ HB.out⟩⟩
 clear H'
 try clear c2
 try clear p2
 obtain ⟨x5_1, x11_1, rfl, HA, HK1, HO_5, HB⟩ := hrel
 rcases gk with _ | k1
 ·exact absurd HA.out (by simp [impl_keptKnown_with_impl_Remember_1.l0])
 have H := HA.out
 clear HA
 simp only [impl_keptKnown_with_impl_Remember_1.l0] at H
 by_cases c4 : x11_1 < (l0.length : Int)
 rotate_left
 ·rw [if_neg c4] at H
  have c4b0 : decide (x11_1 < (l0.length : Int)) = false := decide_eq_false c4
  clear c4
  obtain rfl := Option.some.inj H
  go_wp2
  go_ret
  exact ⟨_, er_, ps_ HO_5.out, pb_ HB.out⟩
 rw [if_pos c4] at H
 have c4b0 : decide (x11_1 < (l0.length : Int)) = true := decide_eq_true c4
 clear c4
 by_cases c5 : 0 ≤ x11_1
 rotate_left
 ·rw [if_neg c5] at H
  exact absurd H (by simp)
 rw [if_pos c5] at H
 have c5b0 : decide (0 ≤ x11_1) = true := decide_eq_true c5
 clear c5
 by_cases c6 : x11_1 < (l0.length : Int)
 rotate_left
 ·rw [if_neg c6] at H
  exact absurd H (by simp)
 rw [if_pos c6] at H
 have c6b0 : decide (x11_1 < (l0.length : Int)) = true := decide_eq_true c6
 clear c6
 have HS_ := Q_ H
 clear H
 have p441 : 0 ≤ (x11_1 : Int) := dt_
 have q441 : x11_1 < (l0.length : Int) := dt_
 obtain ⟨ad441, A441_1, c441_1, e441, hx441_0, hx441_1, hx441_2, hl441_1, hi441_1⟩ := at_T61 HR0.out x11_1 p441 q441
 cases e441
 replace hx441_0 := bt_ HB hx441_0
 replace hx441_1 := bt_ HB hx441_1
 replace hx441_2 := bt_ HB hx441_2
 have HR441_1 := Q_ hi441_1
 have HC441_1 := Q_ hl441_1
 clear hi441_1 hl441_1
 replace p441 := eq_true p441
 replace q441 := eq_true q441
 go_upto_region 5 with (first | ((with_reducible refine gate_dst (N := 7) rfl ?_); refine box_event ?hg (N := 7) ?hd (cs := #[.int .i64 0, .slice none 0 0, .int .i64 0]) (t := 61) ?hr ?_; (case hd => rfl); (case hg => rfl); (case hr => first | (go_simp; done) | (go_simp; rfl)); intro gb442 hg w7 hbox hb; have _ := Q_ (Kd.S_below (Kd.S_elderB (ps_ HO_5.out) gb442 (Nat.le_of_eq hg.symm)) hb); have _ := Q_ (below_step (pb_ HB.out) hb); have BK442 := Q_ (hbox); have GW442 := Q_ ((by rw [hg]; exact (below_size (pb_ HB.out)) : w.heap.size ≤ gb442)); have GE442 := GW442; clear HO_5 HB; rename_i HO_5 HB; clear hb hbox hg; have hcz8 := bc3_ BK442.out))
 (try simp only [Act.put, List.setIfInBounds_toArray, List.set_cons_zero, List.set_cons_succ])
 have H := HS_.out
 clear HS_
 replace H := Option.bind_eq_some_iff.mp H
 obtain ⟨t443, A90, H⟩ := H
 (try dsimp only at H)
 have A9 := Q_ A90
 clear A90
 have HS_ := Q_ H
 clear H
 have hcz10 := bc3_ BK442.out
 go_upto_if 17 with (first | (go_at_call 30; (with_reducible refine (impl_Remember_1.calls ((rd_T61 l0 x11_1).f0) _ _ ((rd_T61 l0 x11_1).f1) ((rd_T61 l0 x11_1).f2) t443 _ ?side1 ?side2 A9.out).mono ?_); (case side1 => exact Kd.C_below HR441_1.out (pb1_ HB.out GE442.out)); (case side2 => exact HC441_1.out); rintro e w11 ⟨rfl, hb⟩; have _ := Q_ (Kd.S_below (by (with_reducible repeat (first | apply Kd.S_alloc | apply Kd.S_drewN | apply Kd.S_drew)); exact (Kd.S_mono (Kd.S_far (p := ⟨gb442, 2, none⟩) (Kd.S_far (p := ⟨gb442, 1, none⟩) (Kd.S_far (p := ⟨gb442, 0, none⟩) (Kd.S_mono HO_5.out (fun k_ hk => (⟨hk, hk.2⟩ : _ ∧ k_ ≠ gb442))) (fun _ hk => hk.2) (.int .i64 ((rd_T61 l0 x11_1).f0))) (fun _ hk => hk.2) (.slice A441_1 ((rd_T61 l0 x11_1).f1).length c441_1)) (fun _ hk => hk.2) (.int .i64 ((rd_T61 l0 x11_1).f2))) (fun _ h_ => h_.1))) hb); have _ := Q_ (blk_below (g := gb442) (o := .cells #[.int .i64 ((rd_T61 l0 x11_1).f0), .slice A441_1 ((rd_T61 l0 x11_1).f1).length c441_1, .int .i64 ((rd_T61 l0 x11_1).f2)] 61 (0, 0)) (pp_ BK442.out) hb); have _ := Q_ (below_step (pb1_ HB.out GE442.out) hb); clear HO_5 BK442 HB; rename_i HO_5 BK442 HB; (try clear hb); (try clear hb2); (try clear hk); (try clear hi)))
 (try simp only [Act.put, List.setIfInBounds_toArray, List.set_cons_zero, List.set_cons_succ])
 have H := HS_.out
 clear HS_
 by_cases c12 : t443 = true
 rotate_left
 ·replace c12 := bf_ c12
  subst c12
  rw [if_neg ff_] at H
  have H' := Q_ H
  clear H
  go_wp2
  go_roundg k1
  case measure => have := HK1.out; omega
  case rel => exact ⟨(x5_1), (wrap64 (x11_1 + 1)), el_, H', ⟨by have := HK1.out; omega⟩, ⟨ps_ (Kd.S_mono HO_5.out (fun _ hk => trivial))⟩, ⟨pb1_ HB.out GE442.out⟩⟩
 subst c12
 rw [if_pos rfl] at H
 obtain ⟨y444, hy444⟩ : ∃ y_ : List Int, y_ = (([] : List Int)) := ⟨_, rfl⟩
 replace H : (if y444.length + ((rd_T61 l0 x11_1).f1).length < 17592186044416 then (if x5_1.length < 3518437208883 then (impl_keptKnown_with_impl_Remember_1.l0 k1 (x5_1 ++ [(⟨(rd_T61 l0 x11_1).f0, (y444 ++ ((rd_T61 l0 x11_1).f1)), (rd_T61 l0 x11_1).f2⟩ : S61)]) l0 (l0.length : Int) (wrap64 (x11_1 + 1))) else (none)) else (none)) = some r := hb_ hy444 H
 have Ny444 := Q_ hy444
 clear hy444
 by_cases c13 : y444.length + ((rd_T61 l0 x11_1).f1).length < 17592186044416
 rotate_left
 ·rw [if_neg c13] at H
  exact absurd H (by simp)
 rw [if_pos c13] at H
 have LMc13 := Q_ c13
 clear c13
 obtain ⟨y447, hy447⟩ : ∃ y_ : List Int, y_ = (y444 ++ ((rd_T61 l0 x11_1).f1)) := ⟨_, rfl⟩
 replace H : (if x5_1.length < 3518437208883 then (impl_keptKnown_with_impl_Remember_1.l0 k1 (x5_1 ++ [(⟨(rd_T61 l0 x11_1).f0, y447, (rd_T61 l0 x11_1).f2⟩ : S61)]) l0 (l0.length : Int) (wrap64 (x11_1 + 1))) else (none)) = some r := hb_ hy447 H
 have Ny447 := Q_ hy447
 clear hy447
 by_cases c14 : x5_1.length < 3518437208883
 rotate_left
 ·rw [if_neg c14] at H
  exact absurd H (by simp)
 rw [if_pos c14] at H
 have LMc14 := Q_ c14
 clear c14
 obtain ⟨y450, hy450⟩ : ∃ y_ : List (S61), y_ = (x5_1 ++ [(⟨(rd_T61 l0 x11_1).f0, y447, (rd_T61 l0 x11_1).f2⟩ : S61)]) := ⟨_, rfl⟩
 replace H : (impl_keptKnown_with_impl_Remember_1.l0 k1 y450 l0 (l0.length : Int) (wrap64 (x11_1 + 1))) = some r := hb_ hy450 H
 have Ny450 := Q_ hy450
 clear hy450
 have H' := Q_ H
 clear H
 try go_wp2
 have _ := Q_ (Kd.S_drew HO_5.out)
 have _ := Q_ (blk_drew BK442.out)
 have _ := Q_ (below_drew1 HB.out)
 clear HO_5 BK442 HB
 rename_i HO_5 BK442 HB
 refine start_ (n := 13) (S := fun w' => w'.cell? ⟨gb442, 0, none⟩ = some (.int .i64 ((rd_T61 l0 x11_1).f0)) ∧ w'.cell? ⟨gb442, 1, none⟩ = some (.slice A441_1 ((rd_T61 l0 x11_1).f1).length c441_1) ∧ w'.cell? ⟨gb442, 2, none⟩ = some (.int .i64 ((rd_T61 l0 x11_1).f2))) (ds := []) (tf_ 0 13) (by kernel_rfl) rfl rfl (sb_ BK442.out) (fun hHeld => ?_); refine with_tabW impl_keptKnown_with_impl_Remember_1.tab6 impl_keptKnown_with_impl_Remember_1.bits6 (fun HT_ HW_ => ?_)
 generalize w11.drew = w15 at HO_5 BK442 HB hHeld ⊢
 refine pu_ 0 (some 18) (tf_ 1 13) HT_ ?_
 refine pu_ 1 (some 19) (tf_ 2 13) HT_ ?_
 refine pu_ 4 (some 22) (tm_ 13 19) HT_ ?_
 refine pu_ 7 (some 25) (tm_ 13 147) HT_ ?_
 refine ta_ 2 (some 20) (tm_ 13 151) HT_ HW_ hHeld ?_
 refine ta_ 5 (some 23) (tm_ 13 183) HT_ HW_ hHeld ?_
 refine ta_ 8 (some 26) (tm_ 13 439) HT_ HW_ hHeld ?_
 refine on_ 3 (some 21) (tm_ 13 447) HT_ (fun K hK => ?_)
 refine Kd.R_lit_step (Kd.int .i64) _ 3 ?hg (N := 21) ?hd (xs := ([] : List Int)) (inner := []) (ok := fun _ => True) (okp := fun _ => True) ?hr ?hp (fun _ hk => hk) trivial (Below.refl _ _) (Nat.le_refl _) (by simp) ?_; (case hd => rfl); (case hg => rfl); (case hr => first | (go_simp; done) | (go_simp; rfl)); (case hp => exact (Reps.none _ _))
 intro v445 w16 ho17 hb hg_ hnew_
 clear hg_ hnew_
 (first | rw [← Ny444.out] at ho17 | (simp only [Int.reduceToNat] at ho17; rw [← Ny444.out] at ho17))
 have _ := Q_ (Kd.S_elder' (ps_ HO_5.out) (Kd.R_base ho17) hb)
 have _ := Q_ (Kd.R_lower ho17 (below_size (pb1_ HB.out GE442.out)))
 have _ := Q_ (bb_ BK442.out hb)
 have _ := Q_ (below_step (pb1_ HB.out GE442.out) hb)
 clear HO_5 BK442 HB
 rename_i HO_5 HO446 BK442 HB
 clear hb ho17
 refine hK.out _ _ (sb_ BK442.out) (fun hHeld => ?_)
 clear hK K
 refine no_ (some 21) ?_
 refine on_ 6 (some 24) (tf_ 9 13) HT_ (fun K hK => ?_)
 refine Kd.R_append_rows_step (Kd.int .i64) (w0 := w) w.heap.size (by rfl) (.tmp 21) (.tmp 23) 25 3 (.int .i64 0) 8 rfl Try.underlying25 info3 rfl (by decide) (by omega) v445 y444 ((rd_T61 l0 x11_1).f1) _ _ _ (fun _ => True) (fun _ => False) rfl rfl ?aO ?aR (fun _ _ h => h) (fun _ h => h.elim) ?aF ?aB ?aS ?aL ?_
 (case aR => exact cb_ HR441_1 HB)
 (case aB => exact (pb1_ HB.out GE442.out))
 (case aF => exact (fun _ _ => trivial))
 (case aO => exact (pr_ HO446.out))
 (case aS => exact (below_size (pb1_ HB.out GE442.out)))
 (case aL => have := LMc13.out; omega)
 intro v448 w18 ho hb hg hat
 rw [← Ny447.out] at ho
 have _ := Q_ (Kd.S_after (ok := (fun k_ => k_ ≠ gb442)) (by (with_reducible repeat (first | apply Kd.S_alloc | apply Kd.S_drewN | apply Kd.S_drew)); exact Kd.S_mono HO_5.out (fun _ hk => ⟨hk.1.2, hk.2⟩)) hg hat)
 have _ := Q_ (blk_grown (g := gb442) (o := .cells #[.int .i64 ((rd_T61 l0 x11_1).f0), .slice A441_1 ((rd_T61 l0 x11_1).f1).length c441_1, .int .i64 ((rd_T61 l0 x11_1).f2)] 61 (0, 0)) (pk_ BK442.out) hg (Kd.R_ne HO446.out BK442.out (by decide)))
 have _ := Q_ (hb)
 have _ := Q_ (ho)
 clear HO_5 BK442 HB HO446
 rename_i HO_5 BK442 HB HO449
 clear ho hb hg hat
 obtain ⟨Ao19, co19, eo19⟩ := Kd.R_slice HO449.out
 (first | subst eo19 | (injection eo19 with f1_ f2_ f3_; have f4_ := f1_.symm; have f5_ := f3_.symm; clear f1_ f2_ f3_; subst f4_; subst f5_))
 refine hK.out _ _ (sb_ BK442.out) (fun hHeld => ?_)
 clear hK K
 refine no_ (some 24) ?_
 refine pu_ 9 (some 27) (tf_ 10 13) HT_ ?_
 refine on_ 10 (some 28) (tf_ 11 13) HT_ (fun K hK => ?_)
 refine value_ (w1 := ?_) (v := ?_) (by rfl) rfl ?_ ?_
 rotate_left 2
 ·go_simp
  constructor
  ·rfl
  ·rfl
 refine hK.out _ _ ⟨(blk_cell (blk_alloc BK442.out _) 0).trans rfl, (blk_cell (blk_alloc BK442.out _) 1).trans rfl, (blk_cell (blk_alloc BK442.out _) 2).trans rfl⟩ (fun hHeld => ?_)
 clear hK K
 refine no_ (some 28) ?_
 refine on_ 11 (some 29) (tf_ 12 13) HT_ (fun K hK => ?_)
 refine Kd.S_append_step k61 (w0 := w) w.heap.size (by rfl) (.tmp 18) (.tmp 28) 24 61 (.agg #[(.int .i64 0), (.slice none 0 0), (.int .i64 0)]) 40 rfl Try.underlying24 info61 rfl (by decide) (by omega) u5 x5_1 (⟨(rd_T61 l0 x11_1).f0, y447, (rd_T61 l0 x11_1).f2⟩ : S61) [.int .i64 ((rd_T61 l0 x11_1).f0), .slice Ao19 y447.length co19, .int .i64 ((rd_T61 l0 x11_1).f2)] (fun k_ => k_ ≠ gb442) (fun k_ => some k_ = (.slice Ao19 y447.length co19 : Value).ownBlock) rfl rfl ?aP (fun k_ hk_ => ((Kd.R_mono (ok' := fun k_ => ((fun k_ => k_ ≠ gb442)) k_ ∧ some k_ ≠ (u5 : Value).ownBlock) (Kd.R_types (Kd.R_apart' (HO449.out) (Kd.S_typed HO_5.out) (by decide)) BK442.out (by decide)) (fun k_ hk => ⟨hk.2, hk.1.2⟩))).1 k_ hk_.symm) ?aF ?aO ?aB ?aS ?aL ?_
 (case aP => exact k61_mkM _ _ _ (⟨(rd_T61 l0 x11_1).f0, y447, (rd_T61 l0 x11_1).f2⟩ : S61) (Kd.R_mono (Kd.R_tight rfl (Kd.R_mono (ok' := fun k_ => ((fun k_ => k_ ≠ gb442)) k_ ∧ some k_ ≠ (u5 : Value).ownBlock) (Kd.R_types (Kd.R_apart' (HO449.out) (Kd.S_typed HO_5.out) (by decide)) BK442.out (by decide)) (fun k_ hk => ⟨hk.2, hk.1.2⟩))) (fun _ h_ => h_)))
 (case aB => exact (pb1_ HB.out GE442.out))
 (case aF => exact (fun k_ hk => Kd.freshB (g := gb442) (o := .cells #[.int .i64 ((rd_T61 l0 x11_1).f0), .slice A441_1 ((rd_T61 l0 x11_1).f1).length c441_1, .int .i64 ((rd_T61 l0 x11_1).f2)] 61 (0, 0)) (pk_ BK442.out) k_ hk))
 (case aO => exact (by (with_reducible repeat (first | apply Kd.S_alloc | apply Kd.S_drewN | apply Kd.S_drew)); exact Kd.S_mono HO_5.out (fun k_ hk => ⟨hk.1, fun e_ => hk.2 e_⟩)))
 (case aS => exact (below_size (pb1_ HB.out GE442.out)))
 (case aL => have := LMc14.out; omega)
 intro v451 w20 ho hb hg hat
 rw [← Ny450.out] at ho
 have _ := Q_ (blk_grown (g := gb442) (o := .cells #[.int .i64 ((rd_T61 l0 x11_1).f0), .slice A441_1 ((rd_T61 l0 x11_1).f1).length c441_1, .int .i64 ((rd_T61 l0 x11_1).f2)] 61 (0, 0)) (pk_ BK442.out) hg (Kd.S_away HO_5.out (fun _ hk => hk.1)))
 have _ := Q_ (hb)
 have _ := Q_ (ho)
 clear BK442 HB HO_5 HO449
 rename_i BK442 HB HO452
 clear ho hb hg hat
 refine hK.out _ _ (sb_ BK442.out) (fun hHeld => ?_)
 clear hK K
 refine no_ (some 29) ?_
 refine pu_ 12 (some 5) (tf_ 13 13) HT_ ?_
 refine done_ (done_of HT_.out (by kernel_rfl)) ?_
 try go_wp2
 go_roundg k1
 case measure => have := HK1.out; omega
 case rel => exact ⟨(y450), (wrap64 (x11_1 + 1)), el_, H', ⟨by have := HK1.out; omega⟩, ⟨ps_ (Kd.S_mono HO452.out (fun _ hk => trivial))⟩, ⟨pb1_ HB.out GE442.out⟩⟩

/-! ### impl_Remember_2: function 100003 -/
def impl_Remember_2.f (a0_0 : Int) (l0_1 : List Int) (a0_2 : Int) (a1_0 : Int) : Option (Bool) := some (a0_0 != a1_0)
theorem impl_Remember_2.calls (a0_0 : Int) (A0_1 : Option Addr) (c0_1 : Nat) (l0_1 : List Int) (a0_2 : Int) (B1 : Nat) (a1_0 : Int) (r : Bool) (w : World) (hr0_1 : Kd.C (Kd.int .i64) w A0_1 l0_1.length l0_1) (hc0_1 : l0_1.length ≤ c0_1) (hbv1 : w.heap[B1]? = some (.cells #[.int .i64 a1_0] 3 (0, 0))) (h : impl_Remember_2.f a0_0 l0_1 a0_2 a1_0 = some r) :
  Calls Try.prog 31 #[.agg #[.int .i64 a0_0, .slice A0_1 l0_1.length c0_1, .int .i64 a0_2], .pointer (some ⟨B1, 0, none⟩)] w fun e w' => e = .returned (.bool r) ∧ Below w.heap.size w w' := by
 have hu61 := Try.underlying61
 have HR0_1 := Q_ hr0_1
 have HC0_1 := Q_ hc0_1
 clear hr0_1 hc0_1
 have BK1 := Q_ hbv1
 clear hbv1
 have HB := Q_ (Below.refl w.heap.size w)
 have H : (some (a0_0 != a1_0)) = some r := h
 clear h
 obtain rfl := Option.some.inj H
 go_enter Try.func31, Try.ntmps31
 go_wp2_with (first | ((with_reducible refine gate_dst (N := 2) rfl ?_); refine box_event ?hg (N := 2) ?hd (cs := #[.int .i64 a0_0, .slice A0_1 l0_1.length c0_1, .int .i64 a0_2]) (t := 61) ?hr ?_; (case hd => rfl); (case hg => rfl); (case hr => first | (go_simp; done) | (go_simp; rfl)); intro gb437 hg w3 hbox hb; have _ := Q_ (bb_ BK1.out hb); have _ := Q_ (below_step (pb_ HB.out) hb); have BK437 := Q_ (hbox); have GW437 := Q_ ((by rw [hg]; exact (below_size (pb_ HB.out)) : w.heap.size ≤ gb437)); have GE437 := GW437; have NB1_437 := Q_ ((by rw [hg]; exact Nat.ne_of_lt (blk_lt (pk_ BK1.out)) : B1 ≠ gb437)); have NB437_1 := Q_ NB1_437.out.symm; clear BK1 HB; rename_i BK1 HB; clear hb hbox hg; have hnb4 := NB437_1.out; have hnc4 := NB1_437.out; have hcz5 := bc3_ BK437.out; have hcz6_0 : w3.cell? ⟨B1, 0, none⟩ = some (.int .i64 a1_0) := (blk_cell BK1.out 0).trans rfl; have hfz6_0 := blk_frozen BK1.out 0))
 go_ret
 exact ⟨er_, pb1_ HB.out GE437.out⟩

end Go.Proofs.Ytlcpaebidnaolaa.Print
