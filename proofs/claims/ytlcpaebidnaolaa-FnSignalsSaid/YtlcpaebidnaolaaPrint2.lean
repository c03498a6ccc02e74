-- Written by a program of this session (printx.py) out of the translation; Lean checks it.
import Derived.Test.YtlcpaebidnaolaaPrint0
import Derived.Test.YtlcpaebidnaolaaPrint1
namespace Go.Proofs.Ytlcpaebidnaolaa.Print
open Go.RowKit Go.Proofs.YtlcpaebidnaolaaW.PrintWords Go.Proofs.YtlcpaebidnaolaaW.PrintLast Go.Proofs.YtlcpaebidnaolaaW.PrintMore Go.Proofs.Ytlcpaebidnaolaa.Short
attribute [local go_sem] max2_int min2_int max_two min_two max_three min_three max_four min_four   -- for this text's walks alone
set_option linter.unusedVariables false
set_option maxHeartbeats 8000000
set_option maxRecDepth 100000
set_option linter.unusedSimpArgs false

/-! ### impl_SignalOf: function 16 -/
mutual
def impl_SignalOf.j0 : Nat → Int → Int → Int → Int → Bool → Option (Int)
 | 0, _, _, _, _, _ => none
 | k + 1, x0, x1, x2, x3, x24 => if x24 = true then (some 0) else (if (wrap64 (100 * x1)) > (wrap64 (x3 * x2)) then (impl_SignalOf.j1 k x1 x2 x3 (wrap64 (x0 + x1)) (decide ((wrap64 (100 * x1)) > (wrap64 (x3 * (wrap64 (x0 + x1))))))) else (impl_SignalOf.j1 k x1 x2 x3 (wrap64 (x0 + x1)) false))
def impl_SignalOf.j1 : Nat → Int → Int → Int → Int → Bool → Option (Int)
 | 0, _, _, _, _, _ => none
 | k + 1, x1, x2, x3, x9, x28 => if x28 = true then (some 2) else (if x9 < x2 then (some 0) else (if (wrap64 (100 * x1)) ≤ (wrap64 (x3 * x9)) then (some 1) else (some 2)))
end
def impl_SignalOf.f (k : Nat) (a0 : Int) (a1 : Int) (a2 : Int) (a3 : Int) : Option (Int) := (impl_areNumbers.f k (([a0, a1, a2] : List Int)) 0 10000).bind fun t159 => (if t159 = true then (if a2 = 0 then (impl_SignalOf.j0 k a0 a1 a2 a3 true) else ((impl_InRange.f a3 0 100).bind fun t160 => (impl_SignalOf.j0 k a0 a1 a2 a3 (!t160)))) else (impl_SignalOf.j0 k a0 a1 a2 a3 true))
theorem impl_SignalOf.mono_l : ∀ k, (∀ y0 y1 y2 y3 y4, LeO (impl_SignalOf.j0 k y0 y1 y2 y3 y4) (impl_SignalOf.j0 (k + 1) y0 y1 y2 y3 y4)) ∧ (∀ y0 y1 y2 y3 y4, LeO (impl_SignalOf.j1 k y0 y1 y2 y3 y4) (impl_SignalOf.j1 (k + 1) y0 y1 y2 y3 y4))
 | 0 => ⟨fun _ _ _ _ _ r h => by simp [impl_SignalOf.j0] at h, fun _ _ _ _ _ r h => by simp [impl_SignalOf.j1] at h⟩
 | k + 1 => by
  obtain ⟨ih0, ih1⟩ := impl_SignalOf.mono_l k
  refine ⟨?_, ?_⟩
  ·intro y0 y1 y2 y3 y4
   unfold impl_SignalOf.j0
   exact mo3_ ih0 ih1 impl_areNumbers.mono
  ·intro y0 y1 y2 y3 y4
   unfold impl_SignalOf.j1
   exact mo3_ ih0 ih1 impl_areNumbers.mono
theorem impl_SignalOf.mono : ∀ a0 a1 a2 a3 k, LeO (impl_SignalOf.f k a0 a1 a2 a3) (impl_SignalOf.f (k + 1) a0 a1 a2 a3) := by
 intro a0 a1 a2 a3 k
 obtain ⟨ih0, ih1⟩ := impl_SignalOf.mono_l k
 unfold impl_SignalOf.f
 exact mo3_ ih0 ih1 impl_areNumbers.mono
theorem impl_SignalOf.calls (k : Nat) (a0 : Int) (a1 : Int) (a2 : Int) (a3 : Int) (r : Int) (w : World) (h : impl_SignalOf.f k a0 a1 a2 a3 = some r) :
  Calls Try.prog 16 #[.int .i64 a0, .int .i64 a1, .int .i64 a2, .int .i64 a3] w fun e w' => e = .returned (.int .i64 r) ∧ Below w.heap.size w w' := by
 have HB := Q_ (Below.refl w.heap.size w)
 have H : ((impl_areNumbers.f k (([a0, a1, a2] : List Int)) 0 10000).bind fun t159 => (if t159 = true then (if a2 = 0 then (impl_SignalOf.j0 k a0 a1 a2 a3 true) else ((impl_InRange.f a3 0 100).bind fun t160 => (impl_SignalOf.j0 k a0 a1 a2 a3 (!t160)))) else (impl_SignalOf.j0 k a0 a1 a2 a3 true))) = some r := h
 clear h
 have HC5 := Q_ H
 clear H
 go_enter Try.func16, Try.ntmps16
 go_upto_region 1 with (fail)
 go_cut [24] (fun v24 wc => ∃ (kq : Nat) (x24_4 : Bool), v24 = .bool x24_4 ∧ Aside0 (impl_SignalOf.j0 kq a0 a1 a2 a3 x24_4 = some r) ∧ Aside0 (kq ≤ k) ∧ Aside0 (Below w.heap.size w wc))
 case first =>
  have H := HC5.out
  clear HC5
  obtain ⟨y156, hy156⟩ : ∃ y_ : List Int, y_ = (([a0, a1, a2] : List Int)) := ⟨_, rfl⟩
  replace H : ((impl_areNumbers.f k y156 0 10000).bind fun t159 => (if t159 = true then (if a2 = 0 then (impl_SignalOf.j0 k a0 a1 a2 a3 true) else ((impl_InRange.f a3 0 100).bind fun t160 => (impl_SignalOf.j0 k a0 a1 a2 a3 (!t160)))) else (impl_SignalOf.j0 k a0 a1 a2 a3 true))) = some r := hb_ hy156 H
  have Ny156 := Q_ hy156
  clear hy156
  replace H := Option.bind_eq_some_iff.mp H
  obtain ⟨t159, A60, H⟩ := H
  (try dsimp only at H)
  have A6 := Q_ A60
  clear A60
  by_cases c7 : t159 = true
  rotate_left
  ·replace c7 := bf_ c7
   subst c7
   rw [if_neg ff_] at H
   have H' := Q_ H
   clear H
   go_wp2_with (first | ((with_reducible refine gate_dst (N := 13) rfl ?_); refine Kd.R_lit (Kd.int .i64) _ 3 ?hg (N := 13) ?hd (xs := ([a0, a1, a2] : List Int)) (inner := [.int .i64 a0, .int .i64 a1, .int .i64 a2]) (ok := fun _ => True) (okp := fun _ => True) ?hr ?hp (fun _ hk => hk) trivial (Below.refl _ _) (Nat.le_refl _) (by simp) ?_; (case hd => rfl); (case hg => rfl); (case hr => first | (go_simp; done) | (go_simp; rfl)); (case hp => exact (Reps.one (show Kd.M (Kd.int .i64) _ _ _ a0 [.int .i64 a0] from rfl) (Reps.one (show Kd.M (Kd.int .i64) _ _ _ a1 [.int .i64 a1] from rfl) (Reps.one (show Kd.M (Kd.int .i64) _ _ _ a2 [.int .i64 a2] from rfl) (Reps.none _ _))))); intro v157 w8 ho9 hb hg_ hnew_; clear hg_ hnew_; (first | rw [← Ny156.out] at ho9 | (simp only [Int.reduceToNat] at ho9; rw [← Ny156.out] at ho9)); have _ := Q_ (Kd.R_lower ho9 (below_size (pb_ HB.out))); have _ := Q_ (below_step (pb_ HB.out) hb); clear HB; rename_i HO158 HB; clear hb ho9; obtain ⟨Ao10, co10, eo10⟩ := Kd.R_slice HO158.out; subst eo10) | ((with_reducible refine gate_callee (f := 35) rfl ?_); refine gl_ (some 14) Try.func35 #[.slice Ao10 y156.length co10, .int .i64 0, .int .i64 10000] ?_; (with_reducible refine (impl_areNumbers.calls k _ _ y156 0 10000 false _ ?side1 ?side2 A6.out).mono ?_); (case side1 => exact pc_ ((Kd.R_reads' HO158.out).2.2)); (case side2 => exact (Kd.R_reads' HO158.out).2.1); rintro e w11 ⟨rfl, hb⟩; refine ⟨_, rfl, ?_⟩; have _ := Q_ (Kd.R_below (pr_ HO158.out) hb); have _ := Q_ (below_step (pb_ HB.out) hb); clear HO158 HB; rename_i HO158 HB; (try clear hb); (try clear hb2); (try clear hk); (try clear hi)))
   go_meet
   case rel => exact ⟨_, (true), el_, H', ⟨by first | omega | exact Nat.le_refl _⟩, ⟨pb_ HB.out⟩⟩
  subst c7
  rw [if_pos rfl] at H
  by_cases c12 : a2 = 0
  ·rw [if_pos c12] at H
   have c12b0 : (a2 == 0) = true := beq_iff_eq.mpr c12
   have c12b1 : (a2 != 0) = false := bne_eq_false_iff_eq.mpr c12
   clear c12
   (first | rw [c12b0] | (simp only [i64_w, i32_w]; rw [c12b0]) | rw [c12b1] | (have c_ := c12b1; rw [bne] at c_; rw [c_]; clear c_) | skip)
   have H' := Q_ H
   clear H
   go_wp2_with (first | ((with_reducible refine gate_dst (N := 13) rfl ?_); refine Kd.R_lit (Kd.int .i64) _ 3 ?hg (N := 13) ?hd (xs := ([a0, a1, a2] : List Int)) (inner := [.int .i64 a0, .int .i64 a1, .int .i64 a2]) (ok := fun _ => True) (okp := fun _ => True) ?hr ?hp (fun _ hk => hk) trivial (Below.refl _ _) (Nat.le_refl _) (by simp) ?_; (case hd => rfl); (case hg => rfl); (case hr => first | (go_simp; done) | (go_simp; rfl)); (case hp => exact (Reps.one (show Kd.M (Kd.int .i64) _ _ _ a0 [.int .i64 a0] from rfl) (Reps.one (show Kd.M (Kd.int .i64) _ _ _ a1 [.int .i64 a1] from rfl) (Reps.one (show Kd.M (Kd.int .i64) _ _ _ a2 [.int .i64 a2] from rfl) (Reps.none _ _))))); intro v157 w13 ho14 hb hg_ hnew_; clear hg_ hnew_; (first | rw [← Ny156.out] at ho14 | (simp only [Int.reduceToNat] at ho14; rw [← Ny156.out] at ho14)); have _ := Q_ (Kd.R_lower ho14 (below_size (pb_ HB.out))); have _ := Q_ (below_step (pb_ HB.out) hb); clear HB; rename_i HO158 HB; clear hb ho14; obtain ⟨Ao15, co15, eo15⟩ := Kd.R_slice HO158.out; subst eo15) | ((with_reducible refine gate_callee (f := 35) rfl ?_); refine gl_ (some 14) Try.func35 #[.slice Ao15 y156.length co15, .int .i64 0, .int .i64 10000] ?_; (with_reducible refine (impl_areNumbers.calls k _ _ y156 0 10000 true _ ?side1 ?side2 A6.out).mono ?_); (case side1 => exact pc_ ((Kd.R_reads' HO158.out).2.2)); (case side2 => exact (Kd.R_reads' HO158.out).2.1); rintro e w16 ⟨rfl, hb⟩; refine ⟨_, rfl, ?_⟩; have _ := Q_ (Kd.R_below (pr_ HO158.out) hb); have _ := Q_ (below_step (pb_ HB.out) hb); clear HO158 HB; rename_i HO158 HB; (try clear hb); (try clear hb2); (try clear hk); (try clear hi)))
   go_meet
   case rel => exact ⟨_, (true), el_, H', ⟨by first | omega | exact Nat.le_refl _⟩, ⟨pb_ HB.out⟩⟩
  rw [if_neg c12] at H
  have c12b0 : (a2 == 0) = false := beq_eq_false_iff_ne.mpr c12
  have c12b1 : (a2 != 0) = true := bne_iff_ne.mpr c12
  (first | rw [c12b0] | (simp only [i64_w, i32_w]; rw [c12b0]) | rw [c12b1] | (have c_ := c12b1; rw [bne] at c_; rw [c_]; clear c_) | skip)
  replace H := Option.bind_eq_some_iff.mp H
  obtain ⟨t160, A170, H⟩ := H
  replace H : (impl_SignalOf.j0 k a0 a1 a2 a3 (!t160)) = some r := H
  have A17 := Q_ A170
  clear A170
  have H' := Q_ H
  clear H
  go_wp2_with (first | ((with_reducible refine gate_dst (N := 13) rfl ?_); refine Kd.R_lit (Kd.int .i64) _ 3 ?hg (N := 13) ?hd (xs := ([a0, a1, a2] : List Int)) (inner := [.int .i64 a0, .int .i64 a1, .int .i64 a2]) (ok := fun _ => True) (okp := fun _ => True) ?hr ?hp (fun _ hk => hk) trivial (Below.refl _ _) (Nat.le_refl _) (by simp) ?_; (case hd => rfl); (case hg => rfl); (case hr => first | (go_simp; done) | (go_simp; rfl)); (case hp => exact (Reps.one (show Kd.M (Kd.int .i64) _ _ _ a0 [.int .i64 a0] from rfl) (Reps.one (show Kd.M (Kd.int .i64) _ _ _ a1 [.int .i64 a1] from rfl) (Reps.one (show Kd.M (Kd.int .i64) _ _ _ a2 [.int .i64 a2] from rfl) (Reps.none _ _))))); intro v157 w18 ho19 hb hg_ hnew_; clear hg_ hnew_; (first | rw [← Ny156.out] at ho19 | (simp only [Int.reduceToNat] at ho19; rw [← Ny156.out] at ho19)); have _ := Q_ (Kd.R_lower ho19 (below_size (pb_ HB.out))); have _ := Q_ (below_step (pb_ HB.out) hb); clear HB; rename_i HO158 HB; clear hb ho19; obtain ⟨Ao20, co20, eo20⟩ := Kd.R_slice HO158.out; subst eo20) | ((with_reducible refine gate_callee (f := 35) rfl ?_); refine gl_ (some 14) Try.func35 #[.slice Ao20 y156.length co20, .int .i64 0, .int .i64 10000] ?_; (with_reducible refine (impl_areNumbers.calls k _ _ y156 0 10000 true _ ?side1 ?side2 A6.out).mono ?_); (case side1 => exact pc_ ((Kd.R_reads' HO158.out).2.2)); (case side2 => exact (Kd.R_reads' HO158.out).2.1); rintro e w21 ⟨rfl, hb⟩; refine ⟨_, rfl, ?_⟩; have _ := Q_ (Kd.R_below (pr_ HO158.out) hb); have _ := Q_ (below_step (pb_ HB.out) hb); clear HO158 HB; rename_i HO158 HB; (try clear hb); (try clear hb2); (try clear hk); (try clear hi)) | (go_at_call 28; (with_reducible refine (impl_InRange.calls a3 0 100 t160 _ A17.out).mono ?_); rintro e w' ⟨rfl, ⟨nd, rfl⟩⟩))
  go_meet
  case rel => exact ⟨_, (!t160), el_, H', ⟨by first | omega | exact Nat.le_refl _⟩, ⟨pb_ HB.out⟩⟩
 clear HC5
 try clear c1
 try clear p2
 try clear c3
 try clear c7
 try clear c12
 try clear c12b0
 try clear c12b1
 try clear c16
 obtain ⟨kq, x24_4, rfl, HA, HJ4, HB⟩ := hcut
 rcases kq with _ | kj4
 ·exact absurd HA.out (by simp [impl_SignalOf.j0])
 have H := HA.out
 clear HA
 simp only [impl_SignalOf.j0] at H
 by_cases c22 : x24_4 = true
 ·subst c22
  rw [if_pos rfl] at H
  obtain rfl := Option.some.inj H
  go_wp2
  go_ret
  exact ⟨er_, pb_ HB.out⟩
 replace c22 := bf_ c22
 subst c22
 rw [if_neg ff_] at H
 have HC23 := Q_ H
 clear H
 go_upto_region 4 with (fail)
 go_cut [28] (fun v28 wc => ∃ (kq : Nat) (x28_22 : Bool), v28 = .bool x28_22 ∧ Aside0 (impl_SignalOf.j1 kq a1 a2 a3 (wrap64 (a0 + a1)) x28_22 = some r) ∧ Aside0 (kq ≤ kj4) ∧ Aside0 (Below w.heap.size w wc))
 case first =>
  have H := HC23.out
  clear HC23
  by_cases c24 : (wrap64 (100 * a1)) > (wrap64 (a3 * a2))
  rotate_left
  ·rw [if_neg c24] at H
   have c24b0 : decide ((wrap64 (a3 * a2)) < (wrap64 (100 * a1))) = false := decide_eq_false c24
   clear c24
   (first | rw [c24b0] | (simp only [i64_w, i32_w]; rw [c24b0]) | skip)
   have H' := Q_ H
   clear H
   go_wp2
   go_meet
   case rel => exact ⟨_, (false), el_, H', ⟨by have := HJ4.out; first | omega | exact Nat.le_refl _⟩, ⟨pb_ HB.out⟩⟩
  rw [if_pos c24] at H
  have c24b0 : decide ((wrap64 (a3 * a2)) < (wrap64 (100 * a1))) = true := decide_eq_true c24
  clear c24
  (first | rw [c24b0] | (simp only [i64_w, i32_w]; rw [c24b0]) | skip)
  have H' := Q_ H
  clear H
  go_wp2
  go_meet
  case rel => exact ⟨_, (decide ((wrap64 (100 * a1)) > (wrap64 (a3 * (wrap64 (a0 + a1)))))), el_, H', ⟨by have := HJ4.out; first | omega | exact Nat.le_refl _⟩, ⟨pb_ HB.out⟩⟩
 clear HC23
 try clear c1
 try clear c2
 try clear p2
 try clear c3
 try clear p6
 try clear c7
 try clear c12
 try clear c12b0
 try clear c12b1
 try clear c16
 try clear c22
 try clear c24
 try clear c24b0
 try clear p2
 obtain ⟨kq, x28_22, rfl, HA, HJ22, HB⟩ := hcut
 rcases kq with _ | kj22
 ·exact absurd HA.out (by simp [impl_SignalOf.j1])
 have H := HA.out
 clear HA
 simp only [impl_SignalOf.j1] at H
 by_cases c25 : x28_22 = true
 ·subst c25
  rw [if_pos rfl] at H
  obtain rfl := Option.some.inj H
  go_wp2
  go_ret
  exact ⟨er_, pb_ HB.out⟩
 replace c25 := bf_ c25
 subst c25
 rw [if_neg ff_] at H
 by_cases c26 : (wrap64 (a0 + a1)) < a2
 ·rw [if_pos c26] at H
  have c26b0 : decide ((wrap64 (a0 + a1)) < a2) = true := decide_eq_true c26
  clear c26
  obtain rfl := Option.some.inj H
  go_wp2
  go_ret
  exact ⟨er_, pb_ HB.out⟩
 rw [if_neg c26] at H
 have c26b0 : decide ((wrap64 (a0 + a1)) < a2) = false := decide_eq_false c26
 clear c26
 by_cases c27 : (wrap64 (100 * a1)) ≤ (wrap64 (a3 * (wrap64 (a0 + a1))))
 rotate_left
 ·rw [if_neg c27] at H
  have c27b0 : decide ((wrap64 (100 * a1)) ≤ (wrap64 (a3 * (wrap64 (a0 + a1))))) = false := decide_eq_false c27
  clear c27
  obtain rfl := Option.some.inj H
  go_wp2
  go_ret
  exact ⟨er_, pb_ HB.out⟩
 rw [if_pos c27] at H
 have c27b0 : decide ((wrap64 (100 * a1)) ≤ (wrap64 (a3 * (wrap64 (a0 + a1))))) = true := decide_eq_true c27
 clear c27
 obtain rfl := Option.some.inj H
 go_wp2
 go_ret
 exact ⟨er_, pb_ HB.out⟩

/-! ### impl_SignalName: function 17, by hand -/
def impl_SignalName.f (a0 : Int) : Option (ByteArray) := (impl_InRange.f a0 0 2).bind fun t1 => (if t1 = true then (some (if a0 = 0 then (⟨#[119, 97, 105, 116]⟩ : ByteArray) else (if a0 = 1 then (⟨#[103, 111, 111, 100]⟩ : ByteArray) else (⟨#[98, 97, 100]⟩ : ByteArray)))) else (some (⟨#[]⟩ : ByteArray)))
theorem impl_SignalName.arr : Try.prog.underlying 67 = some (.array 3 9) := by kernel_rfl
theorem impl_SignalName.idx0 (W : World) (x y z : Value) : (Instr.index 67 (.agg #[x, y, z]) (.int .i64 0)).run Try.prog W = .ok x W := by
 simp [Instr.index, run_underlying impl_SignalName.arr, asIntOf, go_sem]
theorem impl_SignalName.idx1 (W : World) (x y z : Value) : (Instr.index 67 (.agg #[x, y, z]) (.int .i64 1)).run Try.prog W = .ok y W := by
 simp [Instr.index, run_underlying impl_SignalName.arr, asIntOf, go_sem]
theorem impl_SignalName.idx2 (W : World) (x y z : Value) : (Instr.index 67 (.agg #[x, y, z]) (.int .i64 2)).run Try.prog W = .ok z W := by
 simp [Instr.index, run_underlying impl_SignalName.arr, asIntOf, go_sem]
attribute [local go_sem] impl_SignalName.idx0 impl_SignalName.idx1 impl_SignalName.idx2
theorem impl_SignalName.calls (a0 : Int) (r : ByteArray) (w : World) (h : impl_SignalName.f a0 = some r) :
  Calls Try.prog 17 #[.int .i64 a0] w fun e w' => e = .returned (.string r) ∧ Drawn0 w w' := by
 have H : ((impl_InRange.f a0 0 2).bind fun t1 => (if t1 = true then (some (if a0 = 0 then (⟨#[119, 97, 105, 116]⟩ : ByteArray) else (if a0 = 1 then (⟨#[103, 111, 111, 100]⟩ : ByteArray) else (⟨#[98, 97, 100]⟩ : ByteArray)))) else (some (⟨#[]⟩ : ByteArray)))) = some r := h
 clear h
 replace H := Option.bind_eq_some_iff.mp H
 obtain ⟨t1, A20, H⟩ := H
 (try dsimp only at H)
 have hin : t1 = true → a0 = 0 ∨ a0 = 1 ∨ a0 = 2 := by
  intro e
  subst e
  unfold impl_InRange.f at A20
  by_cases h0 : 0 ≤ a0
  ·rw [if_pos h0] at A20
   have h2 := of_decide_eq_true (Option.some.inj A20)
   omega
  ·rw [if_neg h0] at A20
   cases A20
 have A2 := Q_ A20
 clear A20
 have HS_ := Q_ H
 clear H
 go_enter Try.func17, Try.ntmps17
 go_upto_if 5 with (first | ((with_reducible refine gate_callee (f := 28) rfl ?_); refine goesL_ (some 4) rfl rfl Try.func28 (by kernel_rfl) rfl #[.int .i64 a0, .int .i64 0, .int .i64 2] rfl mp_ ?_; (with_reducible refine (impl_InRange.calls a0 0 2 t1 _ A2.out).mono ?_); rintro e w' ⟨rfl, ⟨nd, rfl⟩⟩; refine ⟨_, rfl, ?_⟩))
 (try simp only [Act.put, List.setIfInBounds_toArray, List.set_cons_zero, List.set_cons_succ])
 have H := HS_.out
 clear HS_
 by_cases c3 : t1 = true
 rotate_left
 ·replace c3 := bf_ c3
  subst c3
  rw [if_neg ff_] at H
  obtain rfl := Option.some.inj H
  go_wp2
  go_ret
  exact ⟨er_, by repeat (first | exact Drawn0.refl _ | apply Drawn0.step)⟩
 have hin2 := hin c3
 subst c3
 rw [if_pos rfl] at H
 rcases hin2 with rfl | rfl | rfl
 ·rw [if_pos rfl] at H
  obtain rfl := Option.some.inj H
  go_wp2
  go_ret
  exact ⟨er_, by repeat (first | exact Drawn0.refl _ | apply Drawn0.step)⟩
 ·rw [if_neg (by decide), if_pos rfl] at H
  obtain rfl := Option.some.inj H
  go_wp2
  go_ret
  exact ⟨er_, by repeat (first | exact Drawn0.refl _ | apply Drawn0.step)⟩
 ·rw [if_neg (by decide), if_neg (by decide)] at H
  obtain rfl := Option.some.inj H
  go_wp2
  go_ret
  exact ⟨er_, by repeat (first | exact Drawn0.refl _ | apply Drawn0.step)⟩


/-! ### spec_DrawMostBad: function 18 -/
def spec_DrawMostBad.f (k : Nat) (l0 : List Int) : Option (Int × Int) := (spec_DrawSignalOf.f k l0).bind fun bt161 => (some (bt161.2.2.1, bt161.2.2.2))
theorem spec_DrawMostBad.mono : ∀ a0 k, LeO (spec_DrawMostBad.f k a0) (spec_DrawMostBad.f (k + 1) a0) := by
 intro a0 k
 unfold spec_DrawMostBad.f
 exact mo1_ spec_DrawSignalOf.mono
theorem spec_DrawMostBad.calls (k : Nat) (A0 : Option Addr) (c0 : Nat) (l0 : List Int) (r1 : Int) (r2 : Int) (w : World) (hr0 : Kd.C (Kd.int .u8) w A0 l0.length l0) (hc0 : l0.length ≤ c0) (h : spec_DrawMostBad.f k l0 = some (r1, r2)) :
  Calls Try.prog 18 #[.slice A0 l0.length c0] w fun e w' => e = .returned (.tuple #[.int .i64 r1, .int .i64 r2]) ∧ Below w.heap.size w w' := by
 have HR0 := Q_ hr0
 have HC0 := Q_ hc0
 clear hr0 hc0
 have HB := Q_ (Below.refl w.heap.size w)
 have H : ((spec_DrawSignalOf.f k l0).bind fun bt161 => (some (bt161.2.2.1, bt161.2.2.2))) = some (r1, r2) := h
 clear h
 replace H := Option.bind_eq_some_iff.mp H
 obtain ⟨⟨t161, t162, t163, t164⟩, A20, H⟩ := H
 replace H : (some (t163, t164)) = some (r1, r2) := H
 have A2 := Q_ A20
 clear A20
 simp only [Option.some.injEq, Prod.mk.injEq] at H
 obtain ⟨rfl, rfl⟩ := H
 go_enter Try.func18, Try.ntmps18
 go_wp2_with (first | ((with_reducible refine gate_callee (f := 15) rfl ?_); refine gl_ (some 10) Try.func15 #[.slice A0 l0.length c0] ?_; (with_reducible refine (spec_DrawSignalOf.calls k _ _ l0 t161 t162 t163 t164 _ ?side1 ?side2 A2.out).mono ?_); (case side1 => exact pc_ HR0.out); (case side2 => exact HC0.out); rintro e w3 ⟨rfl, hb⟩; refine ⟨_, rfl, ?_⟩; have _ := Q_ (below_step (pb_ HB.out) hb); clear HB; rename_i HB; (try clear hb); (try clear hb2); (try clear hk); (try clear hi)))
 go_ret2
 exact ⟨er_, pb_ HB.out⟩

/-! ### impl_MostBad: function 19 -/
def impl_MostBad.f (a0 : Int) (a1 : Int) : Option (Int) := (impl_InRange.f a0 1 10000).bind fun t165 => (if t165 = true then ((impl_InRange.f a1 0 100).bind fun t166 => (if t166 = true then (some (wrap64 ((wrap64 (Int.tdiv (wrap64 (a1 * a0)) 100)) + 1))) else (some 0))) else (some 0))
theorem impl_MostBad.calls (a0 : Int) (a1 : Int) (r : Int) (w : World) (h : impl_MostBad.f a0 a1 = some r) :
  Calls Try.prog 19 #[.int .i64 a0, .int .i64 a1] w fun e w' => e = .returned (.int .i64 r) ∧ Drawn0 w w' := by
 have H : ((impl_InRange.f a0 1 10000).bind fun t165 => (if t165 = true then ((impl_InRange.f a1 0 100).bind fun t166 => (if t166 = true then (some (wrap64 ((wrap64 (Int.tdiv (wrap64 (a1 * a0)) 100)) + 1))) else (some 0))) else (some 0))) = some r := h
 clear h
 replace H := Option.bind_eq_some_iff.mp H
 obtain ⟨t165, A30, H⟩ := H
 (try dsimp only at H)
 have A3 := Q_ A30
 clear A30
 by_cases c4 : t165 = true
 rotate_left
 ·replace c4 := bf_ c4
  subst c4
  rw [if_neg ff_] at H
  obtain rfl := Option.some.inj H
  go_enter Try.func19, Try.ntmps19
  go_wp2_with (first | ((with_reducible refine gate_callee (f := 28) rfl ?_); refine gl_ (some 6) Try.func28 #[.int .i64 a0, .int .i64 1, .int .i64 10000] ?_; (with_reducible refine (impl_InRange.calls a0 1 10000 false _ A3.out).mono ?_); rintro e w' ⟨rfl, ⟨nd, rfl⟩⟩; refine ⟨_, rfl, ?_⟩))
  go_ret
  exact ⟨by first | rfl | (simp; done) | (simp [*]; done), by repeat (first | exact Drawn0.refl _ | apply Drawn0.step)⟩
 subst c4
 rw [if_pos rfl] at H
 replace H := Option.bind_eq_some_iff.mp H
 obtain ⟨t166, A50, H⟩ := H
 (try dsimp only at H)
 have A5 := Q_ A50
 clear A50
 have HS_ := Q_ H
 clear H
 go_enter Try.func19, Try.ntmps19
 go_upto_if 12 with (first | ((with_reducible refine gate_callee (f := 28) rfl ?_); refine gl_ (some 6) Try.func28 #[.int .i64 a0, .int .i64 1, .int .i64 10000] ?_; (with_reducible refine (impl_InRange.calls a0 1 10000 true _ A3.out).mono ?_); rintro e w' ⟨rfl, ⟨nd, rfl⟩⟩; refine ⟨_, rfl, ?_⟩) | (go_at_call 28; (with_reducible refine (impl_InRange.calls a1 0 100 t166 _ A5.out).mono ?_); rintro e w' ⟨rfl, ⟨nd, rfl⟩⟩))
 (try simp only [Act.put, List.setIfInBounds_toArray, List.set_cons_zero, List.set_cons_succ])
 have H := HS_.out
 clear HS_
 by_cases c6 : t166 = true
 rotate_left
 ·replace c6 := bf_ c6
  subst c6
  rw [if_neg ff_] at H
  obtain rfl := Option.some.inj H
  go_wp2
  go_ret
  exact ⟨by first | rfl | (simp; done) | (simp [*]; done), by repeat (first | exact Drawn0.refl _ | apply Drawn0.step)⟩
 subst c6
 rw [if_pos rfl] at H
 obtain rfl := Option.some.inj H
 go_wp2
 go_ret
 exact ⟨by first | rfl | (simp; done) | (simp [*]; done), by repeat (first | exact Drawn0.refl _ | apply Drawn0.step)⟩

/-! ### spec_l1In: function 72 -/
def spec_l1In.f (a0 : Int) (a1 : Int) (a2 : Int) : Option (Bool) := if a0 ≥ a1 then (some (decide (a0 ≤ a2))) else (some false)
theorem spec_l1In.calls (a0 : Int) (a1 : Int) (a2 : Int) (r : Bool) (w : World) (h : spec_l1In.f a0 a1 a2 = some r) :
  Calls Try.prog 72 #[.int .i64 a0, .int .i64 a1, .int .i64 a2] w fun e w' => e = .returned (.bool r) ∧ Drawn0 w w' := by
 have H : (if a0 ≥ a1 then (some (decide (a0 ≤ a2))) else (some false)) = some r := h
 clear h
 by_cases c4 : a0 ≥ a1
 rotate_left
 ·rw [if_neg c4] at H
  have c4b0 : decide (a1 ≤ a0) = false := decide_eq_false c4
  clear c4
  obtain rfl := Option.some.inj H
  go_enter Try.func72, Try.ntmps72
  go_wp2
  go_ret
  exact ⟨by first | rfl | (simp; done) | (simp [*]; done), by repeat (first | exact Drawn0.refl _ | apply Drawn0.step)⟩
 rw [if_pos c4] at H
 have c4b0 : decide (a1 ≤ a0) = true := decide_eq_true c4
 clear c4
 obtain rfl := Option.some.inj H
 go_enter Try.func72, Try.ntmps72
 go_wp2
 go_ret
 exact ⟨by first | rfl | (simp; done) | (simp [*]; done), by repeat (first | exact Drawn0.refl _ | apply Drawn0.step)⟩

/-! ### spec_AreVersions: function 76 -/
def spec_AreVersions.l0 : Nat → List Int → Int → Option (Bool)
 | 0, _, _ => none
 | k + 1, x0, x3 => if x3 < (x0.length : Int) then (if 0 ≤ x3 then ((spec_l1In.f (rd x0 x3) 1 9).bind fun t168 => (if t168 = true then (if x3 > 0 then (if 0 ≤ (wrap64 (x3 - 1)) then (if (wrap64 (x3 - 1)) < (x0.length : Int) then (if (rd x0 (wrap64 (x3 - 1))) ≥ (rd x0 x3) then (some false) else (spec_AreVersions.l0 k x0 (wrap64 (x3 + 1)))) else (none)) else (none)) else (spec_AreVersions.l0 k x0 (wrap64 (x3 + 1)))) else (some false))) else (none)) else (some (decide ((x0.length : Int) > 0)))
def spec_AreVersions.f (k : Nat) (l0 : List Int) : Option (Bool) := spec_AreVersions.l0 k l0 0
theorem spec_AreVersions.mono_l : ∀ k, (∀ y0 y1, LeO (spec_AreVersions.l0 k y0 y1) (spec_AreVersions.l0 (k + 1) y0 y1))
 | 0 => fun _ _ r h => by simp [spec_AreVersions.l0] at h
 | k + 1 => by
  have ih0 := spec_AreVersions.mono_l k
  ·intro y0 y1
   unfold spec_AreVersions.l0
   exact mo1_ ih0
theorem spec_AreVersions.mono : ∀ a0 k, LeO (spec_AreVersions.f k a0) (spec_AreVersions.f (k + 1) a0) := by
 intro a0 k
 have ih0 := spec_AreVersions.mono_l k
 unfold spec_AreVersions.f
 exact mo1_ ih0
theorem spec_AreVersions.calls (k : Nat) (A0 : Option Addr) (c0 : Nat) (l0 : List Int) (r : Bool) (w : World) (hr0 : Kd.C (Kd.int .i64) w A0 l0.length l0) (hc0 : l0.length ≤ c0) (h : spec_AreVersions.f k l0 = some r) :
  Calls Try.prog 76 #[.slice A0 l0.length c0] w fun e w' => e = .returned (.bool r) ∧ Drawn0 w w' := by
 have HR0 := Q_ hr0
 have HC0 := Q_ hc0
 clear hr0 hc0
 have H : (spec_AreVersions.l0 k l0 0) = some r := h
 clear h
 have H' := Q_ H
 clear H
 go_enter Try.func76, Try.ntmps76
 go_wp2
 repeat (go_quiet (fail); try go_wp2)
 go_loopg [3] k (fun kq v3 w' => ∃ (x3_1 : Int), v3 = .int .i64 x3_1 ∧ Aside0 (spec_AreVersions.l0 kq l0 x3_1 = some r) ∧ Aside0 (kq ≤ k) ∧ Drawn0 w w')
 case atStart => exact ⟨(0), el_, H', ⟨Nat.le_refl _⟩, by repeat (first | exact Drawn0.refl _ | apply Drawn0.step)⟩
 clear H'
 obtain ⟨x3_1, rfl, HA, HK1, ⟨m1, rfl⟩⟩ := hrel
 rcases gk with _ | k1
 ·exact absurd HA.out (by simp [spec_AreVersions.l0])
 have H := HA.out
 clear HA
 simp only [spec_AreVersions.l0] at H
 by_cases c2 : x3_1 < (l0.length : Int)
 rotate_left
 ·rw [if_neg c2] at H
  have c2b0 : decide (x3_1 < (l0.length : Int)) = false := decide_eq_false c2
  clear c2
  obtain rfl := Option.some.inj H
  go_wp2
  repeat (go_quiet (fail); try go_wp2)
  go_ret
  exact ⟨by first | rfl | (simp; done) | (simp [*]; done), by repeat (first | exact Drawn0.refl _ | apply Drawn0.step)⟩
 rw [if_pos c2] at H
 have c2b0 : decide (x3_1 < (l0.length : Int)) = true := decide_eq_true c2
 clear c2
 by_cases c3 : 0 ≤ x3_1
 rotate_left
 ·rw [if_neg c3] at H
  exact absurd H (by simp)
 rw [if_pos c3] at H
 have c3b0 : decide (0 ≤ x3_1) = true := decide_eq_true c3
 clear c3
 replace H := Option.bind_eq_some_iff.mp H
 obtain ⟨t168, A40, H⟩ := H
 (try dsimp only at H)
 have A4 := Q_ A40
 clear A40
 by_cases c5 : t168 = true
 rotate_left
 ·replace c5 := bf_ c5
  subst c5
  rw [if_neg ff_] at H
  obtain rfl := Option.some.inj H
  have p167 : 0 ≤ (x3_1 : Int) := dt_
  have q167 : x3_1 < (l0.length : Int) := dt_
  obtain ⟨ad167, e167, hx167_0⟩ := Kd.at_int HR0.out x3_1 p167 q167
  cases e167
  replace p167 := eq_true p167
  replace q167 := eq_true q167
  go_wp2_with (first | (go_at_call 72; (with_reducible refine (spec_l1In.calls (rd l0 x3_1) 1 9 false _ A4.out).mono ?_); rintro e w' ⟨rfl, ⟨nd, rfl⟩⟩; (try first | exact ⟨rfl, _, World.drewN_drewN _ _ _⟩ | exact ⟨rfl, _, Eq.trans (World.drewN_drewN _ _ _) (congrArg (World.drewN _) (Nat.add_assoc _ _ _))⟩)))
  repeat (go_quiet (first | (go_at_call 72; (with_reducible refine (spec_l1In.calls (rd l0 x3_1) 1 9 false _ A4.out).mono ?_); rintro e w' ⟨rfl, ⟨nd, rfl⟩⟩; (try first | exact ⟨rfl, _, World.drewN_drewN _ _ _⟩ | exact ⟨rfl, _, Eq.trans (World.drewN_drewN _ _ _) (congrArg (World.drewN _) (Nat.add_assoc _ _ _))⟩))); try go_wp2_with (first | (go_at_call 72; (with_reducible refine (spec_l1In.calls (rd l0 x3_1) 1 9 false _ A4.out).mono ?_); rintro e w' ⟨rfl, ⟨nd, rfl⟩⟩; (try first | exact ⟨rfl, _, World.drewN_drewN _ _ _⟩ | exact ⟨rfl, _, Eq.trans (World.drewN_drewN _ _ _) (congrArg (World.drewN _) (Nat.add_assoc _ _ _))⟩))))
  go_ret
  exact ⟨by first | rfl | (simp; done) | (simp [*]; done), by repeat (first | exact Drawn0.refl _ | apply Drawn0.step)⟩
 subst c5
 rw [if_pos rfl] at H
 by_cases c6 : x3_1 > 0
 rotate_left
 ·rw [if_neg c6] at H
  have c6b0 : decide (0 < x3_1) = false := decide_eq_false c6
  clear c6
  have H' := Q_ H
  clear H
  have p167 : 0 ≤ (x3_1 : Int) := dt_
  have q167 : x3_1 < (l0.length : Int) := dt_
  obtain ⟨ad167, e167, hx167_0⟩ := Kd.at_int HR0.out x3_1 p167 q167
  cases e167
  replace p167 := eq_true p167
  replace q167 := eq_true q167
  go_wp2_with (first | (go_at_call 72; (with_reducible refine (spec_l1In.calls (rd l0 x3_1) 1 9 true _ A4.out).mono ?_); rintro e w' ⟨rfl, ⟨nd, rfl⟩⟩; (try first | exact ⟨rfl, _, World.drewN_drewN _ _ _⟩ | exact ⟨rfl, _, Eq.trans (World.drewN_drewN _ _ _) (congrArg (World.drewN _) (Nat.add_assoc _ _ _))⟩)))
  repeat (go_quiet (first | (go_at_call 72; (with_reducible refine (spec_l1In.calls (rd l0 x3_1) 1 9 true _ A4.out).mono ?_); rintro e w' ⟨rfl, ⟨nd, rfl⟩⟩; (try first | exact ⟨rfl, _, World.drewN_drewN _ _ _⟩ | exact ⟨rfl, _, Eq.trans (World.drewN_drewN _ _ _) (congrArg (World.drewN _) (Nat.add_assoc _ _ _))⟩))); try go_wp2_with (first | (go_at_call 72; (with_reducible refine (spec_l1In.calls (rd l0 x3_1) 1 9 true _ A4.out).mono ?_); rintro e w' ⟨rfl, ⟨nd, rfl⟩⟩; (try first | exact ⟨rfl, _, World.drewN_drewN _ _ _⟩ | exact ⟨rfl, _, Eq.trans (World.drewN_drewN _ _ _) (congrArg (World.drewN _) (Nat.add_assoc _ _ _))⟩))))
  go_roundg k1
  case measure => have := HK1.out; omega
  case rel => exact ⟨(wrap64 (x3_1 + 1)), el_, H', ⟨by have := HK1.out; omega⟩, by repeat (first | exact Drawn0.refl _ | apply Drawn0.step)⟩
 rw [if_pos c6] at H
 have c6b0 : decide (0 < x3_1) = true := decide_eq_true c6
 clear c6
 obtain ⟨ji7, hji7⟩ : ∃ j_ : Int, (wrap64 (x3_1 - 1)) = j_ := ⟨_, rfl⟩
 replace H : (if 0 ≤ (ji7) then (if (ji7) < (l0.length : Int) then (if (rd l0 (ji7)) ≥ (rd l0 x3_1) then (some false) else (spec_AreVersions.l0 k1 l0 (wrap64 (x3_1 + 1)))) else (none)) else (none)) = some r := by first | (rw [hji7] at H; exact H) | (simp only [hji7] at H ⊢; exact H)
 (try rw [hji7] at A4)
 have hji7w : (IntKind.i64.wrap (x3_1 - 1)) = ji7 := (i64_w _).trans hji7
 by_cases c8 : 0 ≤ (ji7)
 rotate_left
 ·rw [if_neg c8] at H
  exact absurd H (by simp)
 rw [if_pos c8] at H
 have c8b0 : decide (0 ≤ (ji7)) = true := decide_eq_true c8
 clear c8
 by_cases c9 : (ji7) < (l0.length : Int)
 rotate_left
 ·rw [if_neg c9] at H
  exact absurd H (by simp)
 rw [if_pos c9] at H
 have c9b0 : decide ((ji7) < (l0.length : Int)) = true := decide_eq_true c9
 clear c9
 have HS_ := Q_ H
 clear H
 have p167 : 0 ≤ (x3_1 : Int) := dt_
 have q167 : x3_1 < (l0.length : Int) := dt_
 obtain ⟨ad167, e167, hx167_0⟩ := Kd.at_int HR0.out x3_1 p167 q167
 cases e167
 replace p167 := eq_true p167
 replace q167 := eq_true q167
 go_upto_if 31 with (first | (go_at_call 72; (with_reducible refine (spec_l1In.calls (rd l0 x3_1) 1 9 true _ A4.out).mono ?_); rintro e w' ⟨rfl, ⟨nd, rfl⟩⟩; (try first | exact ⟨rfl, _, World.drewN_drewN _ _ _⟩ | exact ⟨rfl, _, Eq.trans (World.drewN_drewN _ _ _) (congrArg (World.drewN _) (Nat.add_assoc _ _ _))⟩); have p169 : 0 ≤ ((ji7) : Int) := dt_; have q169 : (ji7) < (l0.length : Int) := dt_; obtain ⟨ad169, e169, hx169_0⟩ := Kd.at_int HR0.out (ji7) p169 q169; obtain rfl : ad167 = ad169 := (by injection e169); replace p169 := eq_true p169; replace q169 := eq_true q169; have p170 : 0 ≤ (x3_1 : Int) := dt_; have q170 : x3_1 < (l0.length : Int) := dt_; obtain ⟨ad170, e170, hx170_0⟩ := Kd.at_int HR0.out x3_1 p170 q170; obtain rfl : ad167 = ad170 := (by injection e170); replace p170 := eq_true p170; replace q170 := eq_true q170))
 repeat (go_quiet (first | (go_at_call 72; (with_reducible refine (spec_l1In.calls (rd l0 x3_1) 1 9 true _ A4.out).mono ?_); rintro e w' ⟨rfl, ⟨nd, rfl⟩⟩; (try first | exact ⟨rfl, _, World.drewN_drewN _ _ _⟩ | exact ⟨rfl, _, Eq.trans (World.drewN_drewN _ _ _) (congrArg (World.drewN _) (Nat.add_assoc _ _ _))⟩); have p169 : 0 ≤ ((ji7) : Int) := dt_; have q169 : (ji7) < (l0.length : Int) := dt_; obtain ⟨ad169, e169, hx169_0⟩ := Kd.at_int HR0.out (ji7) p169 q169; obtain rfl : ad167 = ad169 := (by injection e169); replace p169 := eq_true p169; replace q169 := eq_true q169; have p170 : 0 ≤ (x3_1 : Int) := dt_; have q170 : x3_1 < (l0.length : Int) := dt_; obtain ⟨ad170, e170, hx170_0⟩ := Kd.at_int HR0.out x3_1 p170 q170; obtain rfl : ad167 = ad170 := (by injection e170); replace p170 := eq_true p170; replace q170 := eq_true q170)); go_upto_if 31 with (first | (go_at_call 72; (with_reducible refine (spec_l1In.calls (rd l0 x3_1) 1 9 true _ A4.out).mono ?_); rintro e w' ⟨rfl, ⟨nd, rfl⟩⟩; (try first | exact ⟨rfl, _, World.drewN_drewN _ _ _⟩ | exact ⟨rfl, _, Eq.trans (World.drewN_drewN _ _ _) (congrArg (World.drewN _) (Nat.add_assoc _ _ _))⟩); have p169 : 0 ≤ ((ji7) : Int) := dt_; have q169 : (ji7) < (l0.length : Int) := dt_; obtain ⟨ad169, e169, hx169_0⟩ := Kd.at_int HR0.out (ji7) p169 q169; obtain rfl : ad167 = ad169 := (by injection e169); replace p169 := eq_true p169; replace q169 := eq_true q169; have p170 : 0 ≤ (x3_1 : Int) := dt_; have q170 : x3_1 < (l0.length : Int) := dt_; obtain ⟨ad170, e170, hx170_0⟩ := Kd.at_int HR0.out x3_1 p170 q170; obtain rfl : ad167 = ad170 := (by injection e170); replace p170 := eq_true p170; replace q170 := eq_true q170)))
 (try simp only [Act.put, List.setIfInBounds_toArray, List.set_cons_zero, List.set_cons_succ])
 have H := HS_.out
 clear HS_
 by_cases c10 : (rd l0 (ji7)) ≥ (rd l0 x3_1)
 rotate_left
 ·rw [if_neg c10] at H
  have c10b0 : decide ((rd l0 x3_1) ≤ (rd l0 (ji7))) = false := decide_eq_false c10
  clear c10
  (first | rw [c10b0] | (simp only [i64_w, i32_w]; rw [c10b0]) | skip)
  have H' := Q_ H
  clear H
  go_wp2
  repeat (go_quiet (fail); try go_wp2)
  go_roundg k1
  case measure => have := HK1.out; omega
  case rel => exact ⟨(wrap64 (x3_1 + 1)), el_, H', ⟨by have := HK1.out; omega⟩, by repeat (first | exact Drawn0.refl _ | apply Drawn0.step)⟩
 rw [if_pos c10] at H
 have c10b0 : decide ((rd l0 x3_1) ≤ (rd l0 (ji7))) = true := decide_eq_true c10
 clear c10
 (first | rw [c10b0] | (simp only [i64_w, i32_w]; rw [c10b0]) | skip)
 obtain rfl := Option.some.inj H
 go_wp2
 repeat (go_quiet (fail); try go_wp2)
 go_ret
 exact ⟨by first | rfl | (simp; done) | (simp only [← hji7] <;> (first | rfl | simp)) | (simp [*]; done), by repeat (first | exact Drawn0.refl _ | apply Drawn0.step)⟩

/-! ### spec_ExtOf: function 71 -/
def spec_ExtOf.l0 : Nat → List (S113) → Int → Int → Option (Int)
 | 0, _, _, _ => none
 | k + 1, x0, x1, x5 => if x5 < (x0.length : Int) then (if 0 ≤ x5 then (if ((rd_T113 x0 x5).f0) = x1 then (some x5) else (spec_ExtOf.l0 k x0 x1 (wrap64 (x5 + 1)))) else (none)) else (some (-1))
def spec_ExtOf.f (k : Nat) (l0 : List (S113)) (a1 : Int) : Option (Int) := spec_ExtOf.l0 k l0 a1 0
theorem spec_ExtOf.mono_l : ∀ k, (∀ y0 y1 y2, LeO (spec_ExtOf.l0 k y0 y1 y2) (spec_ExtOf.l0 (k + 1) y0 y1 y2))
 | 0 => fun _ _ _ r h => by simp [spec_ExtOf.l0] at h
 | k + 1 => by
  have ih0 := spec_ExtOf.mono_l k
  ·intro y0 y1 y2
   unfold spec_ExtOf.l0
   exact mo1_ ih0
theorem spec_ExtOf.mono : ∀ a0 a1 k, LeO (spec_ExtOf.f k a0 a1) (spec_ExtOf.f (k + 1) a0 a1) := by
 intro a0 a1 k
 have ih0 := spec_ExtOf.mono_l k
 unfold spec_ExtOf.f
 exact mo1_ ih0
theorem spec_ExtOf.calls (k : Nat) (A0 : Option Addr) (c0 : Nat) (l0 : List (S113)) (a1 : Int) (r : Int) (w : World) (hr0 : Kd.C k113 w A0 l0.length l0) (hc0 : l0.length ≤ c0) (h : spec_ExtOf.f k l0 a1 = some r) :
  Calls Try.prog 71 #[.slice A0 l0.length c0, .int .i64 a1] w fun e w' => e = .returned (.int .i64 r) ∧ Drawn0 w w' := by
 have HR0 := Q_ hr0
 have HC0 := Q_ hc0
 clear hr0 hc0
 have H : (spec_ExtOf.l0 k l0 a1 0) = some r := h
 clear h
 have H' := Q_ H
 clear H
 go_enter Try.func71, Try.ntmps71
 go_wp2
 go_loopg [5] k (fun kq v5 w' => ∃ (x5_1 : Int), v5 = .int .i64 x5_1 ∧ Aside0 (spec_ExtOf.l0 kq l0 a1 x5_1 = some r) ∧ Aside0 (kq ≤ k) ∧ Drawn0 w w')
 case atStart => exact ⟨(0), el_, H', ⟨Nat.le_refl _⟩, by repeat (first | exact Drawn0.refl _ | apply Drawn0.step)⟩
 clear H'
 try clear p2
 obtain ⟨x5_1, rfl, HA, HK1, ⟨m1, rfl⟩⟩ := hrel
 rcases gk with _ | k1
 ·exact absurd HA.out (by simp [spec_ExtOf.l0])
 have H := HA.out
 clear HA
 simp only [spec_ExtOf.l0] at H
 by_cases c3 : x5_1 < (l0.length : Int)
 rotate_left
 ·rw [if_neg c3] at H
  have c3b0 : decide (x5_1 < (l0.length : Int)) = false := decide_eq_false c3
  clear c3
  obtain rfl := Option.some.inj H
  go_wp2
  go_ret
  exact ⟨by first | rfl | (simp; done) | (simp [*]; done), by repeat (first | exact Drawn0.refl _ | apply Drawn0.step)⟩
 rw [if_pos c3] at H
 have c3b0 : decide (x5_1 < (l0.length : Int)) = true := decide_eq_true c3
 clear c3
 by_cases c4 : 0 ≤ x5_1
 rotate_left
 ·rw [if_neg c4] at H
  exact absurd H (by simp)
 rw [if_pos c4] at H
 have c4b0 : decide (0 ≤ x5_1) = true := decide_eq_true c4
 clear c4
 by_cases c5 : ((rd_T113 l0 x5_1).f0) = a1
 rotate_left
 ·rw [if_neg c5] at H
  have c5b0 : (((rd_T113 l0 x5_1).f0) == a1) = false := beq_eq_false_iff_ne.mpr c5
  have c5b1 : (((rd_T113 l0 x5_1).f0) != a1) = true := bne_iff_ne.mpr c5
  have H' := Q_ H
  clear H
  have p171 : 0 ≤ (x5_1 : Int) := dt_
  have q171 : x5_1 < (l0.length : Int) := dt_
  obtain ⟨ad171, A171_1, c171_1, e171, hx171_0, hx171_1, hl171_1, hi171_1⟩ := at_T113 HR0.out x5_1 p171 q171
  cases e171
  have HR171_1 := Q_ hi171_1
  have HC171_1 := Q_ hl171_1
  clear hi171_1 hl171_1
  replace p171 := eq_true p171
  replace q171 := eq_true q171
  go_wp2
  go_roundg k1
  case measure => have := HK1.out; omega
  case rel => exact ⟨(wrap64 (x5_1 + 1)), el_, H', ⟨by have := HK1.out; omega⟩, by repeat (first | exact Drawn0.refl _ | apply Drawn0.step)⟩
 rw [if_pos c5] at H
 have c5b0 : (((rd_T113 l0 x5_1).f0) == a1) = true := beq_iff_eq.mpr c5
 have c5b1 : (((rd_T113 l0 x5_1).f0) != a1) = false := bne_eq_false_iff_eq.mpr c5
 clear c5
 obtain rfl := Option.some.inj H
 have p171 : 0 ≤ (x5_1 : Int) := dt_
 have q171 : x5_1 < (l0.length : Int) := dt_
 obtain ⟨ad171, A171_1, c171_1, e171, hx171_0, hx171_1, hl171_1, hi171_1⟩ := at_T113 HR0.out x5_1 p171 q171
 cases e171
 have HR171_1 := Q_ hi171_1
 have HC171_1 := Q_ hl171_1
 clear hi171_1 hl171_1
 replace p171 := eq_true p171
 replace q171 := eq_true q171
 go_wp2
 go_ret
 exact ⟨by first | rfl | (simp; done) | (simp [*]; done), by repeat (first | exact Drawn0.refl _ | apply Drawn0.step)⟩

/-! ### spec_l9Byte: function 93 -/
def spec_l9Byte.l0 : Nat → List Int → Int → Option (Bool)
 | 0, _, _ => none
 | k + 1, x0, x3 => if x3 < (x0.length : Int) then (if 0 ≤ x3 then ((spec_l1In.f (rd x0 x3) 0 255).bind fun t173 => (if t173 = true then (spec_l9Byte.l0 k x0 (wrap64 (x3 + 1))) else (some false))) else (none)) else (some true)
def spec_l9Byte.f (k : Nat) (l0 : List Int) : Option (Bool) := spec_l9Byte.l0 k l0 0
theorem spec_l9Byte.mono_l : ∀ k, (∀ y0 y1, LeO (spec_l9Byte.l0 k y0 y1) (spec_l9Byte.l0 (k + 1) y0 y1))
 | 0 => fun _ _ r h => by simp [spec_l9Byte.l0] at h
 | k + 1 => by
  have ih0 := spec_l9Byte.mono_l k
  ·intro y0 y1
   unfold spec_l9Byte.l0
   exact mo1_ ih0
theorem spec_l9Byte.mono : ∀ a0 k, LeO (spec_l9Byte.f k a0) (spec_l9Byte.f (k + 1) a0) := by
 intro a0 k
 have ih0 := spec_l9Byte.mono_l k
 unfold spec_l9Byte.f
 exact mo1_ ih0
theorem spec_l9Byte.calls (k : Nat) (A0 : Option Addr) (c0 : Nat) (l0 : List Int) (r : Bool) (w : World) (hr0 : Kd.C (Kd.int .i64) w A0 l0.length l0) (hc0 : l0.length ≤ c0) (h : spec_l9Byte.f k l0 = some r) :
  Calls Try.prog 93 #[.slice A0 l0.length c0] w fun e w' => e = .returned (.bool r) ∧ Drawn0 w w' := by
 have HR0 := Q_ hr0
 have HC0 := Q_ hc0
 clear hr0 hc0
 have H : (spec_l9Byte.l0 k l0 0) = some r := h
 clear h
 have H' := Q_ H
 clear H
 go_enter Try.func93, Try.ntmps93
 go_wp2
 go_loopg [3] k (fun kq v3 w' => ∃ (x3_1 : Int), v3 = .int .i64 x3_1 ∧ Aside0 (spec_l9Byte.l0 kq l0 x3_1 = some r) ∧ Aside0 (kq ≤ k) ∧ Drawn0 w w')
 case atStart => exact ⟨(0), el_, H', ⟨Nat.le_refl _⟩, by repeat (first | exact Drawn0.refl _ | apply Drawn0.step)⟩
 clear H'
 obtain ⟨x3_1, rfl, HA, HK1, ⟨m1, rfl⟩⟩ := hrel
 rcases gk with _ | k1
 ·exact absurd HA.out (by simp [spec_l9Byte.l0])
 have H := HA.out
 clear HA
 simp only [spec_l9Byte.l0] at H
 by_cases c2 : x3_1 < (l0.length : Int)
 rotate_left
 ·rw [if_neg c2] at H
  have c2b0 : decide (x3_1 < (l0.length : Int)) = false := decide_eq_false c2
  clear c2
  obtain rfl := Option.some.inj H
  go_wp2
  go_ret
  exact ⟨by first | rfl | (simp; done) | (simp [*]; done), by repeat (first | exact Drawn0.refl _ | apply Drawn0.step)⟩
 rw [if_pos c2] at H
 have c2b0 : decide (x3_1 < (l0.length : Int)) = true := decide_eq_true c2
 clear c2
 by_cases c3 : 0 ≤ x3_1
 rotate_left
 ·rw [if_neg c3] at H
  exact absurd H (by simp)
 rw [if_pos c3] at H
 have c3b0 : decide (0 ≤ x3_1) = true := decide_eq_true c3
 clear c3
 replace H := Option.bind_eq_some_iff.mp H
 obtain ⟨t173, A40, H⟩ := H
 (try dsimp only at H)
 have A4 := Q_ A40
 clear A40
 have HS_ := Q_ H
 clear H
 have p172 : 0 ≤ (x3_1 : Int) := dt_
 have q172 : x3_1 < (l0.length : Int) := dt_
 obtain ⟨ad172, e172, hx172_0⟩ := Kd.at_int HR0.out x3_1 p172 q172
 cases e172
 replace p172 := eq_true p172
 replace q172 := eq_true q172
 go_upto_if 15 with (first | ((with_reducible refine gate_callee (f := 72) rfl ?_); refine gl_ (some 14) Try.func72 #[.int .i64 (rd l0 x3_1), .int .i64 0, .int .i64 255] ?_; (with_reducible refine (spec_l1In.calls (rd l0 x3_1) 0 255 t173 _ A4.out).mono ?_); rintro e w' ⟨rfl, ⟨nd, rfl⟩⟩; refine ⟨_, rfl, ?_⟩))
 (try simp only [Act.put, List.setIfInBounds_toArray, List.set_cons_zero, List.set_cons_succ])
 have H := HS_.out
 clear HS_
 by_cases c5 : t173 = true
 rotate_left
 ·replace c5 := bf_ c5
  subst c5
  rw [if_neg ff_] at H
  obtain rfl := Option.some.inj H
  go_wp2
  go_ret
  exact ⟨by first | rfl | (simp; done) | (simp [*]; done), by repeat (first | exact Drawn0.refl _ | apply Drawn0.step)⟩
 subst c5
 rw [if_pos rfl] at H
 have H' := Q_ H
 clear H
 go_wp2
 go_roundg k1
 case measure => have := HK1.out; omega
 case rel => exact ⟨(wrap64 (x3_1 + 1)), el_, H', ⟨by have := HK1.out; omega⟩, by repeat (first | exact Drawn0.refl _ | apply Drawn0.step)⟩

end Go.Proofs.Ytlcpaebidnaolaa.Print
