-- Written by a program of this session (printx.py) out of the translation; Lean checks it.
import Derived.Test.YtlcpaebidnaolaaPrint0
import Derived.Test.YtlcpaebidnaolaaPrint1
import Derived.Test.YtlcpaebidnaolaaPrint2
namespace Go.Proofs.Ytlcpaebidnaolaa.Print
open Go.RowKit Go.Proofs.YtlcpaebidnaolaaW.PrintWords Go.Proofs.YtlcpaebidnaolaaW.PrintLast Go.Proofs.YtlcpaebidnaolaaW.PrintMore Go.Proofs.Ytlcpaebidnaolaa.Short
attribute [local go_sem] max2_int min2_int max_two min_two max_three min_three max_four min_four   -- for this text's walks alone
set_option linter.unusedVariables false
set_option maxHeartbeats 8000000
set_option maxRecDepth 100000
set_option linter.unusedSimpArgs false

/-! ### spec_l12Draw: function 42 -/
def spec_l12Draw.l0 : Nat → List Int → Int → List Int → Int → Int → Option (List Int × Int × Int)
 | 0, _, _, _, _, _ => none
 | k + 1, x3, x4, x1000, x1001, x1002 => if x4 > 0 then ((spec_l1Below.f x1000 x1001 x1002 6).bind fun bt187 => ((spec_l4Put.f k x3 (wrap64 (1 + bt187.1))).bind fun t190 => (spec_l12Draw.l0 k t190 (wrap64 (x4 - 1)) x1000 bt187.2.1 bt187.2.2))) else (some (x3, x1001, x1002))
def spec_l12Draw.f (k : Nat) (s0_0 : List Int) (s0_1 : Int) (s0_2 : Int) : Option (List Int × Int × Int) := (spec_l1Below.f s0_0 s0_1 s0_2 4).bind fun bt178 => ((spec_l1Below.f s0_0 bt178.2.1 bt178.2.2 4).bind fun bt184 => (spec_l12Draw.l0 k (([wrap64 (1 + bt178.1)] : List Int)) bt184.1 s0_0 bt184.2.1 bt184.2.2))
theorem spec_l12Draw.mono_l : ∀ k, (∀ y0 y1 y2 y3 y4, LeO (spec_l12Draw.l0 k y0 y1 y2 y3 y4) (spec_l12Draw.l0 (k + 1) y0 y1 y2 y3 y4))
 | 0 => fun _ _ _ _ _ r h => by simp [spec_l12Draw.l0] at h
 | k + 1 => by
  have ih0 := spec_l12Draw.mono_l k
  ·intro y0 y1 y2 y3 y4
   unfold spec_l12Draw.l0
   exact mo2_ ih0 spec_l4Put.mono
theorem spec_l12Draw.mono : ∀ a0 a1 a2 k, LeO (spec_l12Draw.f k a0 a1 a2) (spec_l12Draw.f (k + 1) a0 a1 a2) := by
 intro a0 a1 a2 k
 have ih0 := spec_l12Draw.mono_l k
 unfold spec_l12Draw.f
 exact mo2_ ih0 spec_l4Put.mono
theorem spec_l12Draw.calls (k : Nat) (g : Nat) (s0_0 : List Int) (s0_1 : Int) (s0_2 : Int) (r1 : List Int) (r2 : Int) (r3 : Int) (w0 w : World) (hI : IsS77 w0 w g s0_0 s0_1 s0_2) (hB : Below w0.heap.size w0 w) (h : spec_l12Draw.f k s0_0 s0_1 s0_2 = some (r1, r2, r3)) :
  Calls Try.prog 42 #[.pointer (some ⟨g, 0, none⟩)] w fun e w' => ∃ v0_ : Value, e = .returned (v0_) ∧ Kd.R (Kd.int .i64) 3 w' w.heap.size (fun _ => True) v0_ r1 ∧ IsS77 w0 w' g s0_0 r2 r3 ∧ Below w0.heap.size w0 w' ∧ KeepBut w w' g none := by
 have HI0 := Q_ hI
 have HK := Q_ (KeepBut.refl w g none)
 have HL := Q_ hB.size
 clear hI
 have HW0 := Q_ hB.size
 have HB := Q_ hB
 clear hB
 have H : ((spec_l1Below.f s0_0 s0_1 s0_2 4).bind fun bt178 => ((spec_l1Below.f s0_0 bt178.2.1 bt178.2.2 4).bind fun bt184 => (spec_l12Draw.l0 k (([wrap64 (1 + bt178.1)] : List Int)) bt184.1 s0_0 bt184.2.1 bt184.2.2))) = some (r1, r2, r3) := h
 clear h
 replace H := Option.bind_eq_some_iff.mp H
 obtain ⟨⟨t178, t179, t180⟩, A20, H⟩ := H
 (try dsimp only at H)
 have A2 := Q_ A20
 clear A20
 obtain ⟨y181, hy181⟩ : ∃ y_ : List Int, y_ = (([wrap64 (1 + t178)] : List Int)) := ⟨_, rfl⟩
 replace H : ((spec_l1Below.f s0_0 t179 t180 4).bind fun bt184 => (spec_l12Draw.l0 k y181 bt184.1 s0_0 bt184.2.1 bt184.2.2)) = some (r1, r2, r3) := hb_ hy181 H
 have Ny181 := Q_ hy181
 clear hy181
 replace H := Option.bind_eq_some_iff.mp H
 obtain ⟨⟨t184, t185, t186⟩, A30, H⟩ := H
 replace H : (spec_l12Draw.l0 k y181 t184 s0_0 t185 t186) = some (r1, r2, r3) := H
 have A3 := Q_ A30
 clear A30
 have H' := Q_ H
 clear H
 go_enter Try.func42, Try.ntmps42
 go_wp2_with (first | ((with_reducible refine gate_callee (f := 25) rfl ?_); refine gl_ (some 6) Try.func25 #[.pointer (some ⟨g, 0, none⟩), .int .i64 4] ?_; (with_reducible refine (spec_l1Below.calls g s0_0 s0_1 s0_2 4 t178 t179 t180 w0 _ ?side1 ?side2 A2.out).mono ?_); (case side1 => exact qs77_0_ HI0.out); (case side2 => exact qb1_ HB.out (IsS77.ge HI0.out)); rintro e w4 ⟨rfl, hi, hb, hk⟩; refine ⟨_, rfl, ?_⟩; have _ := Q_ (KeepBut.trans (qk0_ HK.out) hk (.inl rfl)); have _ := Q_ (hb); have _ := Q_ (hi); clear HK HB HI0; rename_i HK HB HI0; (try clear hb); (try clear hb2); (try clear hk); (try clear hi)) | ((with_reducible refine gate_dst (N := 8) rfl ?_); refine Kd.R_lit (Kd.int .i64) _ 3 ?hg (N := 8) ?hd (xs := ([wrap64 (1 + t178)] : List Int)) (inner := [.int .i64 (wrap64 (1 + t178))]) (ok := fun _ => True) (okp := fun _ => True) ?hr ?hp (fun _ hk => hk) trivial (Below.refl _ _) (Nat.le_refl _) (by simp) ?_; (case hd => rfl); (case hg => rfl); (case hr => first | (go_simp; done) | (go_simp; rfl)); (case hp => exact (Reps.one (show Kd.M (Kd.int .i64) _ _ _ (wrap64 (1 + t178)) [.int .i64 (wrap64 (1 + t178))] from rfl) (Reps.none _ _))); intro v182 w5 ho6 hb hg_ hnew_; clear hg_ hnew_; (first | rw [← Ny181.out] at ho6 | (simp only [Int.reduceToNat] at ho6; rw [← Ny181.out] at ho6)); have _ := Q_ (Kd.R_lower ho6 (keep_size (w := w) (g := g) (row := none) (qk0_ HK.out))); have _ := Q_ (IsS77.below (qs77_0_ HI0.out) hb); have _ := Q_ (KeepBut.trans (qk0_ HK.out) (KeepBut.of_below hb g none) (.inl rfl)); have _ := Q_ (below_step (qb1_ HB.out (IsS77.ge HI0.out)) hb); clear HI0 HK HB; rename_i HO183 HI0 HK HB; clear hb ho6) | ((with_reducible refine gate_callee (f := 25) rfl ?_); refine gl_ (some 10) Try.func25 #[.pointer (some ⟨g, 0, none⟩), .int .i64 4] ?_; (with_reducible refine (spec_l1Below.calls g s0_0 t179 t180 4 t184 t185 t186 w0 _ ?side1 ?side2 A3.out).mono ?_); (case side1 => exact qs77_0_ HI0.out); (case side2 => exact qb1_ HB.out (IsS77.ge HI0.out)); rintro e w7 ⟨rfl, hi, hb, hk⟩; refine ⟨_, rfl, ?_⟩; have _ := Q_ (Kd.R_mono (Kd.R_keep (IsS77.apart (show IsS77 w0 _ g s0_0 t179 t180 from qs77_0_ HI0.out) (pr_ HO183.out) (by decide)) hk (fun _ h => h.2)) (fun _ h => h.1)); have _ := Q_ (KeepBut.trans (qk0_ HK.out) hk (.inl rfl)); have _ := Q_ (hb); have _ := Q_ (hi); clear HO183 HK HB HI0; rename_i HO183 HK HB HI0; (try clear hb); (try clear hb2); (try clear hk); (try clear hi)))
 (try simp only [Act.put, List.setIfInBounds_toArray, List.set_cons_zero, List.set_cons_succ])
 go_loopg [3, 4] k (fun kq v3 v4 w' => ∃ (x3_1 : List Int) (x4_1 : Int) (x1001_1 : Int) (x1002_1 : Int), v4 = .int .i64 x4_1 ∧ Aside0 (spec_l12Draw.l0 kq x3_1 x4_1 s0_0 x1001_1 x1002_1 = some (r1, r2, r3)) ∧ Aside0 (kq ≤ k) ∧ Aside0 (Kd.R (Kd.int .i64) 3 w' w.heap.size (fun _ => True) v3 x3_1) ∧ Aside0 (IsS77 w0 w' g s0_0 x1001_1 x1002_1) ∧ Aside0 (KeepBut w w' g none) ∧ Aside0 (Below w0.heap.size w0 w'))
 case atStart => exact ⟨(y181), (t184), (t185), (t186), el_, H', ⟨Nat.le_refl _⟩, ⟨pr_ HO183.out⟩, ⟨qs77_0_ HI0.out⟩, ⟨qk0_ HK.out⟩, ⟨qb1_ HB.out (IsS77.ge HI0.out)⟩⟩
 clear H'
 try clear c2
 try clear p2
 try clear c4
 try clear p6
 obtain ⟨x3_1, x4_1, x1001_1, x1002_1, rfl, HA, HK1, HO_3, HI0, HK, HB⟩ := hrel
 rcases gk with _ | k1
 ·exact absurd HA.out (by simp [spec_l12Draw.l0])
 have H := HA.out
 clear HA
 simp only [spec_l12Draw.l0] at H
 by_cases c8 : x4_1 > 0
 rotate_left
 ·rw [if_neg c8] at H
  have c8b0 : decide (0 < x4_1) = false := decide_eq_false c8
  clear c8
  simp only [Option.some.injEq, Prod.mk.injEq] at H
  obtain ⟨rfl, rfl, rfl⟩ := H
  go_wp2
  go_ret
  exact ⟨_, er_, pr_ HO_3.out, qs77_0_ HI0.out, qb1_ HB.out (IsS77.ge HI0.out), qk0_ HK.out⟩
 rw [if_pos c8] at H
 have c8b0 : decide (0 < x4_1) = true := decide_eq_true c8
 clear c8
 replace H := Option.bind_eq_some_iff.mp H
 obtain ⟨⟨t187, t188, t189⟩, A90, H⟩ := H
 (try dsimp only at H)
 have A9 := Q_ A90
 clear A90
 replace H := Option.bind_eq_some_iff.mp H
 obtain ⟨t190, A100, H⟩ := H
 (try dsimp only at H)
 have A10 := Q_ A100
 clear A100
 have H' := Q_ H
 clear H
 go_wp2_with (first | ((with_reducible refine gate_callee (f := 25) rfl ?_); refine gl_ (some 17) Try.func25 #[.pointer (some ⟨g, 0, none⟩), .int .i64 6] ?_; (with_reducible refine (spec_l1Below.calls g s0_0 x1001_1 x1002_1 6 t187 t188 t189 w0 _ ?side1 ?side2 A9.out).mono ?_); (case side1 => exact qs77_0_ HI0.out); (case side2 => exact qb1_ HB.out (IsS77.ge HI0.out)); rintro e w11 ⟨rfl, hi, hb, hk⟩; refine ⟨_, rfl, ?_⟩; have _ := Q_ (Kd.R_mono (Kd.R_keep (IsS77.apart (show IsS77 w0 _ g s0_0 x1001_1 x1002_1 from qs77_0_ HI0.out) (pr_ HO_3.out) (by decide)) hk (fun _ h => h.2)) (fun _ h => h.1)); have _ := Q_ (KeepBut.trans (qk0_ HK.out) hk (.inl rfl)); have _ := Q_ (hb); have _ := Q_ (hi); clear HO_3 HK HB HI0; rename_i HO_3 HK HB HI0; (try clear hb); (try clear hb2); (try clear hk); (try clear hi); obtain ⟨Ao12, co12, eo12⟩ := Kd.R_slice HO_3.out; subst eo12) | ((with_reducible refine gate_callee (f := 46) rfl ?_); refine gl_ (some 19) Try.func46 #[.slice Ao12 x3_1.length co12, .int .i64 (wrap64 (1 + t187))] ?_; (with_reducible refine (spec_l4Put.calls k1 _ _ x3_1 (wrap64 (1 + t187)) t190 _ ?side1 ?side2 A10.out).mono ?_); (case side1 => exact pc_ ((Kd.R_reads' HO_3.out).2.2)); (case side2 => exact (Kd.R_reads' HO_3.out).2.1); rintro e w13 ⟨v191, rfl, ho0, hb⟩; refine ⟨_, rfl, ?_⟩; have _ := Q_ (Kd.R_elder' (pr_ HO_3.out) (Kd.R_base ho0) hb); have _ := Q_ (Kd.R_lower (Kd.R_new' ho0 (Kd.R_lt (pr_ HO_3.out))) (keep_size (w := w) (g := g) (row := none) (qk0_ HK.out))); have _ := Q_ (IsS77.below (qs77_0_ HI0.out) hb); have _ := Q_ (KeepBut.trans (qk0_ HK.out) (KeepBut.of_below hb g none) (.inl rfl)); have _ := Q_ (below_step (qb1_ HB.out (IsS77.ge HI0.out)) hb); clear HO_3 HI0 HK HB; rename_i HO_3 HO192 HI0 HK HB; (try clear hb); (try clear hb2); (try clear hk); (try clear hi); (try clear ho0)))
 go_roundg k1
 case measure => have := HK1.out; omega
 case rel => exact ⟨(t190), (wrap64 (x4_1 - 1)), (t188), (t189), el_, H', ⟨by have := HK1.out; omega⟩, ⟨pr_ (Kd.R_mono HO192.out (fun _ hk => trivial))⟩, ⟨qs77_0_ HI0.out⟩, ⟨qk0_ HK.out⟩, ⟨qb1_ HB.out (IsS77.ge HI0.out)⟩⟩

/-! ### spec_ExtOf: function 71 -/
def spec_ExtOf.l0 : Nat → List (S113) → Int → Int → Option (Int)
 | 0, _, _, _ => none
 | k + 1, x0, x1, x5 => if x5 < (x0.length : Int) then (if 0 ≤ x5 then (if ((rd_T113 x0 x5).f0) = x1 then (some x5) else (spec_ExtOf.l0 k x0 x1 (wrap64 (x5 + 1)))) else (none)) else (some (-1))
def spec_ExtOf.f (k : Nat) (l0 : List (S113)) (a1 : Int) : Option (Int) := spec_ExtOf.l0 k l0 a1 0
theorem spec_ExtOf.mono_l : ∀ k, (∀ y0 y1 y2, LeO (spec_ExtOf.l0 k y0 y1 y2) (spec_ExtOf.l0 (k + 1) y0 y1 y2))
 | 0 => fun _ _ _ r h => by simp [spec_ExtOf.l0] at h
 | k + 1 => by
  have ih0 := spec_ExtOf.mono_l k
  ·intro y0 y1 y2
   unfold spec_ExtOf.l0
   exact mo1_ ih0
theorem spec_ExtOf.mono : ∀ a0 a1 k, LeO (spec_ExtOf.f k a0 a1) (spec_ExtOf.f (k + 1) a0 a1) := by
 intro a0 a1 k
 have ih0 := spec_ExtOf.mono_l k
 unfold spec_ExtOf.f
 exact mo1_ ih0
theorem spec_ExtOf.calls (k : Nat) (A0 : Option Addr) (c0 : Nat) (l0 : List (S113)) (a1 : Int) (r : Int) (w : World) (hr0 : Kd.C k113 w A0 l0.length l0) (hc0 : l0.length ≤ c0) (h : spec_ExtOf.f k l0 a1 = some r) :
  Calls Try.prog 71 #[.slice A0 l0.length c0, .int .i64 a1] w fun e w' => e = .returned (.int .i64 r) ∧ Drawn0 w w' := by
 have HR0 := Q_ hr0
 have HC0 := Q_ hc0
 clear hr0 hc0
 have H : (spec_ExtOf.l0 k l0 a1 0) = some r := h
 clear h
 have H' := Q_ H
 clear H
 go_enter Try.func71, Try.ntmps71
 go_wp2
 go_loopg [5] k (fun kq v5 w' => ∃ (x5_1 : Int), v5 = .int .i64 x5_1 ∧ Aside0 (spec_ExtOf.l0 kq l0 a1 x5_1 = some r) ∧ Aside0 (kq ≤ k) ∧ Drawn0 w w')
 case atStart => exact ⟨(0), el_, H', ⟨Nat.le_refl _⟩, by repeat (first | exact Drawn0.refl _ | apply Drawn0.step)⟩
 clear H'
 try clear p2
 obtain ⟨x5_1, rfl, HA, HK1, ⟨m1, rfl⟩⟩ := hrel
 rcases gk with _ | k1
 ·exact absurd HA.out (by simp [spec_ExtOf.l0])
 have H := HA.out
 clear HA
 simp only [spec_ExtOf.l0] at H
 by_cases c3 : x5_1 < (l0.length : Int)
 rotate_left
 ·rw [if_neg c3] at H
  have c3b0 : decide (x5_1 < (l0.length : Int)) = false := decide_eq_false c3
  clear c3
  obtain rfl := Option.some.inj H
  go_wp2
  go_ret
  exact ⟨by first | rfl | (simp; done) | (simp [*]; done), by repeat (first | exact Drawn0.refl _ | apply Drawn0.step)⟩
 rw [if_pos c3] at H
 have c3b0 : decide (x5_1 < (l0.length : Int)) = true := decide_eq_true c3
 clear c3
 by_cases c4 : 0 ≤ x5_1
 rotate_left
 ·rw [if_neg c4] at H
  exact absurd H (by simp)
 rw [if_pos c4] at H
 have c4b0 : decide (0 ≤ x5_1) = true := decide_eq_true c4
 clear c4
 by_cases c5 : ((rd_T113 l0 x5_1).f0) = a1
 rotate_left
 ·rw [if_neg c5] at H
  have c5b0 : (((rd_T113 l0 x5_1).f0) == a1) = false := beq_eq_false_iff_ne.mpr c5
  have c5b1 : (((rd_T113 l0 x5_1).f0) != a1) = true := bne_iff_ne.mpr c5
  have H' := Q_ H
  clear H
  have p193 : 0 ≤ (x5_1 : Int) := dt_
  have q193 : x5_1 < (l0.length : Int) := dt_
  obtain ⟨ad193, A193_1, c193_1, e193, hx193_0, hx193_1, hl193_1, hi193_1⟩ := at_T113 HR0.out x5_1 p193 q193
  cases e193
  have HR193_1 := Q_ hi193_1
  have HC193_1 := Q_ hl193_1
  clear hi193_1 hl193_1
  replace p193 := eq_true p193
  replace q193 := eq_true q193
  go_wp2
  go_roundg k1
  case measure => have := HK1.out; omega
  case rel => exact ⟨(wrap64 (x5_1 + 1)), el_, H', ⟨by have := HK1.out; omega⟩, by repeat (first | exact Drawn0.refl _ | apply Drawn0.step)⟩
 rw [if_pos c5] at H
 have c5b0 : (((rd_T113 l0 x5_1).f0) == a1) = true := beq_iff_eq.mpr c5
 have c5b1 : (((rd_T113 l0 x5_1).f0) != a1) = false := bne_eq_false_iff_eq.mpr c5
 clear c5
 obtain rfl := Option.some.inj H
 have p193 : 0 ≤ (x5_1 : Int) := dt_
 have q193 : x5_1 < (l0.length : Int) := dt_
 obtain ⟨ad193, A193_1, c193_1, e193, hx193_0, hx193_1, hl193_1, hi193_1⟩ := at_T113 HR0.out x5_1 p193 q193
 cases e193
 have HR193_1 := Q_ hi193_1
 have HC193_1 := Q_ hl193_1
 clear hi193_1 hl193_1
 replace p193 := eq_true p193
 replace q193 := eq_true q193
 go_wp2
 go_ret
 exact ⟨by first | rfl | (simp; done) | (simp [*]; done), by repeat (first | exact Drawn0.refl _ | apply Drawn0.step)⟩

/-! ### spec_l9Draw: function 53 -/
mutual
def spec_l9Draw.l0 : Nat → List (S113) → Int → List Int → Int → Int → Option ((List (S113)) × Int × Int)
 | 0, _, _, _, _, _ => none
 | k + 1, x3, x4, x1000, x1001, x1002 => if x4 > 0 then ((spec_l1Int.f x1000 x1001 x1002 (([1, 2, 3, 10, 26, 40, 42, 200] : List Int))).bind fun bt203 => ((spec_l1Below.f x1000 bt203.2.1 bt203.2.2 4).bind fun bt207 => (spec_l9Draw.l1 k x3 x4 bt207.1 x1000 bt207.2.1 bt207.2.2 bt203.1 ([] : List Int)))) else (some (x3, x1001, x1002))
def spec_l9Draw.l1 : Nat → List (S113) → Int → Int → List Int → Int → Int → Int → List Int → Option ((List (S113)) × Int × Int)
 | 0, _, _, _, _, _, _, _, _ => none
 | k + 1, x3, x4, x6, x1000, x1001, x1002, x207000, x207001 => if x6 > 0 then ((spec_l1Below.f x1000 x1001 x1002 256).bind fun bt210 => (if x207001.length < 17592186044416 then (spec_l9Draw.l1 k x3 x4 (wrap64 (x6 - 1)) x1000 bt210.2.1 bt210.2.2 x207000 (x207001 ++ [bt210.1])) else (none))) else ((spec_ExtOf.f k x3 x207000).bind fun t216 => (if t216 < 0 then (if x3.length < 4398046511104 then (spec_l9Draw.l0 k (x3 ++ [(⟨x207000, x207001⟩ : S113)]) (wrap64 (x4 - 1)) x1000 x1001 x1002) else (none)) else (spec_l9Draw.l0 k x3 (wrap64 (x4 - 1)) x1000 x1001 x1002)))
end
def spec_l9Draw.f (k : Nat) (s0_0 : List Int) (s0_1 : Int) (s0_2 : Int) : Option ((List (S113)) × Int × Int) := (spec_l1Below.f s0_0 s0_1 s0_2 6).bind fun bt197 => (spec_l9Draw.l0 k (([] : List (S113))) bt197.1 s0_0 bt197.2.1 bt197.2.2)
theorem spec_l9Draw.mono_l : ∀ k, (∀ y0 y1 y2 y3 y4, LeO (spec_l9Draw.l0 k y0 y1 y2 y3 y4) (spec_l9Draw.l0 (k + 1) y0 y1 y2 y3 y4)) ∧ (∀ y0 y1 y2 y3 y4 y5 y6 y7, LeO (spec_l9Draw.l1 k y0 y1 y2 y3 y4 y5 y6 y7) (spec_l9Draw.l1 (k + 1) y0 y1 y2 y3 y4 y5 y6 y7))
 | 0 => ⟨fun _ _ _ _ _ r h => by simp [spec_l9Draw.l0] at h, fun _ _ _ _ _ _ _ _ r h => by simp [spec_l9Draw.l1] at h⟩
 | k + 1 => by
  obtain ⟨ih0, ih1⟩ := spec_l9Draw.mono_l k
  refine ⟨?_, ?_⟩
  ·intro y0 y1 y2 y3 y4
   unfold spec_l9Draw.l0
   exact mo3_ ih0 ih1 spec_ExtOf.mono
  ·intro y0 y1 y2 y3 y4 y5 y6 y7
   unfold spec_l9Draw.l1
   exact mo3_ ih0 ih1 spec_ExtOf.mono
theorem spec_l9Draw.mono : ∀ a0 a1 a2 k, LeO (spec_l9Draw.f k a0 a1 a2) (spec_l9Draw.f (k + 1) a0 a1 a2) := by
 intro a0 a1 a2 k
 obtain ⟨ih0, ih1⟩ := spec_l9Draw.mono_l k
 unfold spec_l9Draw.f
 exact mo3_ ih0 ih1 spec_ExtOf.mono
def spec_l9Draw.T9 : Bool × List (List Nat × List Nat) := (true, [([], []), ([0], [0]), ([], []), ([2], [2]), ([3], [3]), ([1, 4, 3], [1, 4]), ([0, 1, 2, 3, 4, 5], []), ([6, 5, 5, 0, 1, 2, 3, 4, 5], [5, 6])])
def spec_l9Draw.B9 : List Nat := [0, 1, 0, 4, 12, 31, 63, 127]
theorem spec_l9Draw.tab9 : rtab .any (opsOf Try.f53 9) = spec_l9Draw.T9 := by kernel_rfl
theorem spec_l9Draw.bits9 : waitsOk spec_l9Draw.T9.2 spec_l9Draw.B9 = true := by kernel_rfl
theorem spec_l9Draw.calls (k : Nat) (g : Nat) (s0_0 : List Int) (s0_1 : Int) (s0_2 : Int) (r1 : List (S113)) (r2 : Int) (r3 : Int) (w0 w : World) (hI : IsS77 w0 w g s0_0 s0_1 s0_2) (hB : Below w0.heap.size w0 w) (h : spec_l9Draw.f k s0_0 s0_1 s0_2 = some (r1, r2, r3)) :
  Calls Try.prog 53 #[.pointer (some ⟨g, 0, none⟩)] w fun e w' => ∃ v0_ : Value, e = .returned (v0_) ∧ Kd.S k113 113 w' w.heap.size (fun _ => True) v0_ r1 ∧ IsS77 w0 w' g s0_0 r2 r3 ∧ Below w0.heap.size w0 w' ∧ KeepBut w w' g none := by
 have hu113 := Try.underlying113
 have HI0 := Q_ hI
 have HK := Q_ (KeepBut.refl w g none)
 have HL := Q_ hB.size
 clear hI
 have HW0 := Q_ hB.size
 have HB := Q_ hB
 clear hB
 have H : ((spec_l1Below.f s0_0 s0_1 s0_2 6).bind fun bt197 => (spec_l9Draw.l0 k (([] : List (S113))) bt197.1 s0_0 bt197.2.1 bt197.2.2)) = some (r1, r2, r3) := h
 clear h
 obtain ⟨y194, hy194⟩ : ∃ y_ : List (S113), y_ = (([] : List (S113))) := ⟨_, rfl⟩
 replace H : ((spec_l1Below.f s0_0 s0_1 s0_2 6).bind fun bt197 => (spec_l9Draw.l0 k y194 bt197.1 s0_0 bt197.2.1 bt197.2.2)) = some (r1, r2, r3) := hb_ hy194 H
 have Ny194 := Q_ hy194
 clear hy194
 replace H := Option.bind_eq_some_iff.mp H
 obtain ⟨⟨t197, t198, t199⟩, A20, H⟩ := H
 replace H : (spec_l9Draw.l0 k y194 t197 s0_0 t198 t199) = some (r1, r2, r3) := H
 have A2 := Q_ A20
 clear A20
 have H' := Q_ H
 clear H
 go_enter Try.func53, Try.ntmps53
 go_wp2_with (first | ((with_reducible refine gate_dst (N := 7) rfl ?_); refine Kd.S_lit k113 _ 113 ?hg (N := 7) ?hd (xs := ([] : List (S113))) (inner := []) (ok := fun _ => True) (okp := fun _ => True) ?hr ?hp (fun _ hk => hk) trivial (Below.refl _ _) (Nat.le_refl _) (by simp) ?_; (case hd => rfl); (case hg => rfl); (case hr => first | (go_simp; done) | (go_simp; rfl)); (case hp => exact (Reps.none _ _)); intro v195 w3 ho4 hb hg_ hnew_; clear hg_ hnew_; (first | rw [← Ny194.out] at ho4 | (simp only [Int.reduceToNat] at ho4; rw [← Ny194.out] at ho4)); have _ := Q_ (Kd.S_lower ho4 (keep_size (w := w) (g := g) (row := none) (qk0_ HK.out))); have _ := Q_ (IsS77.below (qs77_0_ HI0.out) hb); have _ := Q_ (KeepBut.trans (qk0_ HK.out) (KeepBut.of_below hb g none) (.inl rfl)); have _ := Q_ (below_step (qb1_ HB.out (IsS77.ge HI0.out)) hb); clear HI0 HK HB; rename_i HO196 HI0 HK HB; clear hb ho4) | ((with_reducible refine gate_callee (f := 25) rfl ?_); refine gl_ (some 9) Try.func25 #[.pointer (some ⟨g, 0, none⟩), .int .i64 6] ?_; (with_reducible refine (spec_l1Below.calls g s0_0 s0_1 s0_2 6 t197 t198 t199 w0 _ ?side1 ?side2 A2.out).mono ?_); (case side1 => exact qs77_0_ HI0.out); (case side2 => exact qb1_ HB.out (IsS77.ge HI0.out)); rintro e w5 ⟨rfl, hi, hb, hk⟩; refine ⟨_, rfl, ?_⟩; have _ := Q_ (Kd.S_mono (Kd.S_keep (IsS77.apartS (show IsS77 w0 _ g s0_0 s0_1 s0_2 from qs77_0_ HI0.out) (ps_ HO196.out) (by decide)) hk (fun _ h => h.2)) (fun _ h => h.1)); have _ := Q_ (KeepBut.trans (qk0_ HK.out) hk (.inl rfl)); have _ := Q_ (hb); have _ := Q_ (hi); clear HO196 HK HB HI0; rename_i HO196 HK HB HI0; (try clear hb); (try clear hb2); (try clear hk); (try clear hi)))
 (try simp only [Act.put, List.setIfInBounds_toArray, List.set_cons_zero, List.set_cons_succ])
 go_loopg [3, 4] k (fun kq v3 v4 w' => ∃ (x3_1 : List (S113)) (x4_1 : Int) (x1001_1 : Int) (x1002_1 : Int), v4 = .int .i64 x4_1 ∧ Aside0 (spec_l9Draw.l0 kq x3_1 x4_1 s0_0 x1001_1 x1002_1 = some (r1, r2, r3)) ∧ Aside0 (kq ≤ k) ∧ Aside0 (Kd.S k113 113 w' w.heap.size (fun _ => True) v3 x3_1) ∧ Aside0 (IsS77 w0 w' g s0_0 x1001_1 x1002_1) ∧ Aside0 (KeepBut w w' g none) ∧ Aside0 (Below w0.heap.size w0 w'))
 case atStart => exact ⟨(y194), (t197), (t198), (t199), el_, H', ⟨Nat.le_refl _⟩, ⟨ps_ HO196.out⟩, ⟨qs77_0_ HI0.out⟩, ⟨qk0_ HK.out⟩, ⟨qb1_ HB.out (IsS77.ge HI0.out)⟩⟩
 clear H'
 try clear c2
 try clear p2
 try clear c5
 obtain ⟨x3_1, x4_1, x1001_1, x1002_1, rfl, HA, HK1, HO_3, HI0, HK, HB⟩ := hrel
 rcases gk with _ | k1
 ·exact absurd HA.out (by simp [spec_l9Draw.l0])
 have H := HA.out
 clear HA
 simp only [spec_l9Draw.l0] at H
 by_cases c6 : x4_1 > 0
 rotate_left
 ·rw [if_neg c6] at H
  have c6b0 : decide (0 < x4_1) = false := decide_eq_false c6
  clear c6
  simp only [Option.some.injEq, Prod.mk.injEq] at H
  obtain ⟨rfl, rfl, rfl⟩ := H
  go_wp2
  go_ret
  exact ⟨_, er_, ps_ HO_3.out, qs77_0_ HI0.out, qb1_ HB.out (IsS77.ge HI0.out), qk0_ HK.out⟩
 rw [if_pos c6] at H
 have c6b0 : decide (0 < x4_1) = true := decide_eq_true c6
 clear c6
 obtain ⟨y200, hy200⟩ : ∃ y_ : List Int, y_ = (([1, 2, 3, 10, 26, 40, 42, 200] : List Int)) := ⟨_, rfl⟩
 replace H : ((spec_l1Int.f s0_0 x1001_1 x1002_1 y200).bind fun bt203 => ((spec_l1Below.f s0_0 bt203.2.1 bt203.2.2 4).bind fun bt207 => (spec_l9Draw.l1 k1 x3_1 x4_1 bt207.1 s0_0 bt207.2.1 bt207.2.2 bt203.1 ([] : List Int)))) = some (r1, r2, r3) := hb_ hy200 H
 have Ny200 := Q_ hy200
 clear hy200
 replace H := Option.bind_eq_some_iff.mp H
 obtain ⟨⟨t203, t204, t205⟩, A70, H⟩ := H
 (try dsimp only at H)
 have A7 := Q_ A70
 clear A70
 replace H := Option.bind_eq_some_iff.mp H
 obtain ⟨⟨t207, t208, t209⟩, A80, H⟩ := H
 (try dsimp only at H)
 have A8 := Q_ A80
 clear A80
 have H' := Q_ H
 clear H
 go_wp2_with (first | ((with_reducible refine gate_dst (N := 15) rfl ?_); refine Kd.R_lit (Kd.int .i64) _ 3 ?hg (N := 15) ?hd (xs := ([1, 2, 3, 10, 26, 40, 42, 200] : List Int)) (inner := [.int .i64 1, .int .i64 2, .int .i64 3, .int .i64 10, .int .i64 26, .int .i64 40, .int .i64 42, .int .i64 200]) (ok := fun _ => True) (okp := fun _ => True) ?hr ?hp (fun _ hk => hk) trivial (Below.refl _ _) (Nat.le_refl _) (by simp) ?_; (case hd => rfl); (case hg => rfl); (case hr => first | (go_simp; done) | (go_simp; rfl)); (case hp => exact (Reps.one (show Kd.M (Kd.int .i64) _ _ _ 1 [.int .i64 1] from rfl) (Reps.one (show Kd.M (Kd.int .i64) _ _ _ 2 [.int .i64 2] from rfl) (Reps.one (show Kd.M (Kd.int .i64) _ _ _ 3 [.int .i64 3] from rfl) (Reps.one (show Kd.M (Kd.int .i64) _ _ _ 10 [.int .i64 10] from rfl) (Reps.one (show Kd.M (Kd.int .i64) _ _ _ 26 [.int .i64 26] from rfl) (Reps.one (show Kd.M (Kd.int .i64) _ _ _ 40 [.int .i64 40] from rfl) (Reps.one (show Kd.M (Kd.int .i64) _ _ _ 42 [.int .i64 42] from rfl) (Reps.one (show Kd.M (Kd.int .i64) _ _ _ 200 [.int .i64 200] from rfl) (Reps.none _ _)))))))))); intro v201 w9 ho10 hb hg_ hnew_; clear hg_ hnew_; (first | rw [← Ny200.out] at ho10 | (simp only [Int.reduceToNat] at ho10; rw [← Ny200.out] at ho10)); have _ := Q_ (Kd.S_elder' (ps_ HO_3.out) (Kd.R_base ho10) hb); have _ := Q_ (Kd.R_lower ho10 (keep_size (w := w) (g := g) (row := none) (qk0_ HK.out))); have _ := Q_ (IsS77.below (qs77_0_ HI0.out) hb); have _ := Q_ (KeepBut.trans (qk0_ HK.out) (KeepBut.of_below hb g none) (.inl rfl)); have _ := Q_ (below_step (qb1_ HB.out (IsS77.ge HI0.out)) hb); clear HO_3 HI0 HK HB; rename_i HO_3 HO202 HI0 HK HB; clear hb ho10; obtain ⟨Ao11, co11, eo11⟩ := Kd.R_slice HO202.out; subst eo11) | ((with_reducible refine gate_callee (f := 27) rfl ?_); refine gl_ (some 16) Try.func27 #[.pointer (some ⟨g, 0, none⟩), .slice Ao11 y200.length co11] ?_; (with_reducible refine (spec_l1Int.calls g s0_0 x1001_1 x1002_1 _ _ y200 t203 t204 t205 w0 _ ?side1 ?side2 ?side3 ?side4 ?side5 A7.out).mono ?_); (case side1 => exact qs77_0_ HI0.out); (case side2 => exact qb1_ HB.out (IsS77.ge HI0.out)); (case side3 => exact pc_ ((Kd.R_reads' HO202.out).2.2)); (case side4 => exact (Kd.R_reads' HO202.out).2.1); (case side5 => exact far_slice (IsS77.own_ne HI0.out HO202.out (by decide))); rintro e w12 ⟨rfl, hi, hb, hk⟩; refine ⟨_, rfl, ?_⟩; have _ := Q_ (Kd.S_mono (Kd.S_keep (IsS77.apartS (show IsS77 w0 _ g s0_0 x1001_1 x1002_1 from qs77_0_ HI0.out) (ps_ HO_3.out) (by decide)) hk (fun _ h => h.2)) (fun _ h => h.1)); have _ := Q_ (Kd.R_mono (Kd.R_keep (IsS77.apart (show IsS77 w0 _ g s0_0 x1001_1 x1002_1 from qs77_0_ HI0.out) (pr_ HO202.out) (by decide)) hk (fun _ h => h.2)) (fun _ h => h.1)); have _ := Q_ (KeepBut.trans (qk0_ HK.out) hk (.inl rfl)); have _ := Q_ (hb); have _ := Q_ (hi); clear HO_3 HO202 HK HB HI0; rename_i HO_3 HO202 HK HB HI0; (try clear hb); (try clear hb2); (try clear hk); (try clear hi)) | ((with_reducible refine gate_dst (N := 5) rfl ?_); refine box_event ?hg (N := 5) ?hd (cs := #[.int .i64 0, .slice none 0 0]) (t := 113) ?hr ?_; (case hd => rfl); (case hg => rfl); (case hr => first | (go_simp; done) | (go_simp; rfl)); intro gb206 hg w13 hbox hb; have _ := Q_ (Kd.S_below (Kd.S_elderB (ps_ HO_3.out) gb206 (Nat.le_of_eq hg.symm)) hb); have _ := Q_ (Kd.R_below (pr_ HO202.out) hb); have _ := Q_ (IsS77.below (qs77_0_ HI0.out) hb); have _ := Q_ (KeepBut.trans (qk0_ HK.out) (KeepBut.of_below hb g none) (.inl rfl)); have _ := Q_ (below_step (qb1_ HB.out (IsS77.ge HI0.out)) hb); have BK206 := Q_ (hbox); have GW206 := Q_ ((by rw [hg]; exact (keep_size (w := w) (g := g) (row := none) (qk0_ HK.out)) : w.heap.size ≤ gb206)); have GE206 := Q_ (Nat.le_trans HW0.out GW206.out); have NB0_206 := Q_ ((by rw [hg]; exact Nat.ne_of_lt (IsS77.lt (show IsS77 w0 _ g s0_0 t204 t205 from qs77_0_ HI0.out)) : g ≠ gb206)); have NB206_0 := Q_ NB0_206.out.symm; clear HO_3 HO202 HI0 HK HB; rename_i HO_3 HO202 HI0 HK HB; clear hb hbox hg; have hnb14 := NB206_0.out; have hnc14 := NB0_206.out; have hcz15 := bc2_ BK206.out) | ((with_reducible refine gate_callee (f := 25) rfl ?_); refine gl_ (some 19) Try.func25 #[.pointer (some ⟨g, 0, none⟩), .int .i64 4] ?_; (with_reducible refine (spec_l1Below.calls g s0_0 t204 t205 4 t207 t208 t209 w0 _ ?side1 ?side2 A8.out).mono ?_); (case side1 => exact qs77_1_ HI0.out NB0_206.out); (case side2 => exact qb2_ HB.out (IsS77.ge HI0.out) GE206.out); rintro e w16 ⟨rfl, hi, hb, hk⟩; refine ⟨_, rfl, ?_⟩; have _ := Q_ (Kd.S_mono (Kd.S_keep (IsS77.apartS (show IsS77 w0 _ g s0_0 t204 t205 from qs77_1_ HI0.out NB0_206.out) (by (with_reducible repeat (first | apply Kd.S_alloc | apply Kd.S_drewN | apply Kd.S_drew)); exact (Kd.S_mono (Kd.S_far (p := ⟨gb206, 1, none⟩) (Kd.S_far (p := ⟨gb206, 0, none⟩) (Kd.S_mono HO_3.out (fun k_ hk => (⟨hk, hk.2⟩ : _ ∧ k_ ≠ gb206))) (fun _ hk => hk.2) (.int .i64 t203)) (fun _ hk => hk.2) (.slice none 0 0)) (fun _ h_ => h_.1))) (by decide)) hk (fun _ h => h.2)) (fun _ h => h.1)); have _ := Q_ (Kd.R_mono (Kd.R_keep (IsS77.apart (show IsS77 w0 _ g s0_0 t204 t205 from qs77_1_ HI0.out NB0_206.out) (pr_ (rf2_ HO202.out BK206.out)) (by decide)) hk (fun _ h => h.2)) (fun _ h => h.1)); have _ := Q_ (KeepBut.blk hk (g' := gb206) (o := .cells #[.int .i64 t203, .slice none 0 0] 113 (0, 0)) (pp_ BK206.out) NB206_0.out (by simp)); have _ := Q_ (KeepBut.trans (qk1_ HK.out GW206.out) hk (.inl rfl)); have _ := Q_ (hb); have _ := Q_ (hi); clear HO_3 HO202 BK206 HK HB HI0; rename_i HO_3 HO202 BK206 HK HB HI0; (try clear hb); (try clear hb2); (try clear hk); (try clear hi)))
 (try simp only [Act.put, List.setIfInBounds_toArray, List.set_cons_zero, List.set_cons_succ])
 go_loopg [6] k1 (fun kq v6 w' => ∃ (x6_2 : Int) (x1001_2 : Int) (x1002_2 : Int) (x207001_2 : List Int) (u207001 : Value), v6 = .int .i64 x6_2 ∧ Aside0 (spec_l9Draw.l1 kq x3_1 x4_1 x6_2 s0_0 x1001_2 x1002_2 t203 x207001_2 = some (r1, r2, r3)) ∧ Aside0 (kq ≤ k1) ∧ Aside0 (Kd.S k113 113 w' w.heap.size (fun k_ => some k_ ≠ (u207001 : Value).ownBlock ∧ k_ ≠ gb206) u3 x3_1) ∧ Aside0 (Kd.R (Kd.int .i64) 3 w' w.heap.size (fun _ => True) u207001 x207001_2) ∧ Aside0 (w'.heap[gb206]? = some (.cells #[.int .i64 t203, u207001] 113 (0, 0))) ∧ Aside0 (IsS77 w0 w' g s0_0 x1001_2 x1002_2) ∧ Aside0 (KeepBut w w' g none) ∧ Aside0 (Below w0.heap.size w0 w'))
 case atStart => exact ⟨(t207), (t208), (t209), (([] : List Int)), (.slice none 0 0), el_, H', ⟨Nat.le_refl _⟩, ⟨by (with_reducible repeat (first | apply Kd.S_alloc | apply Kd.S_drewN | apply Kd.S_drew)); exact Kd.S_mono HO_3.out (fun _ hk => ⟨(by simp [Value.ownBlock]), hk.2⟩)⟩, ⟨by first | exact Kd.R_nil _ _ _ _ _ | exact Kd.N_nil _ _ _ _ _ | exact Kd.V_nil _ _ _ _ _ | exact Kd.Q_nil _ _ _ _ _ | exact Kd.S_nil _ _ _ _ _⟩, ⟨pk_ BK206.out⟩, ⟨qs77_1_ HI0.out NB0_206.out⟩, ⟨qk1_ HK.out GW206.out⟩, ⟨qb2_ HB.out (IsS77.ge HI0.out) GE206.out⟩⟩
 clear H'
 try clear c1
 try clear c2
 try clear p2
 try clear c5
 try clear c6
 try clear c6b0
 try clear c14
 try clear hcz15
 try clear p2
 obtain ⟨x6_2, x1001_2, x1002_2, x207001_2, u207001, rfl, HA, HK2, HO_3, HO_207001, BK206, HI0, HK, HB⟩ := hrel
 rcases gk with _ | k2
 ·exact absurd HA.out (by simp [spec_l9Draw.l1])
 have H := HA.out
 clear HA
 simp only [spec_l9Draw.l1] at H
 by_cases c17 : x6_2 > 0
 rotate_left
 ·rw [if_neg c17] at H
  have c17b0 : decide (0 < x6_2) = false := decide_eq_false c17
  clear c17
  replace H := Option.bind_eq_some_iff.mp H
  obtain ⟨t216, A180, H⟩ := H
  (try dsimp only at H)
  have A18 := Q_ A180
  clear A180
  have HS_ := Q_ H
  clear H
  have hnb19 := NB206_0.out
  have hnc19 := NB0_206.out
  have hcz20 := bc2_ BK206.out
  obtain ⟨Ao21, co21, eo21⟩ := Kd.S_slice HO_3.out
  subst eo21
  go_upto_if 35 with (first | ((with_reducible refine gate_callee (f := 71) rfl ?_); refine gl_ (some 34) Try.func71 #[.slice Ao21 x3_1.length co21, .int .i64 t203] ?_; (with_reducible refine (spec_ExtOf.calls k2 _ _ x3_1 t203 t216 _ ?side1 ?side2 A18.out).mono ?_); (case side1 => exact pc_ ((Kd.S_reads' HO_3.out).2.2)); (case side2 => exact (Kd.S_reads' HO_3.out).2.1); rintro e w' ⟨rfl, ⟨nd, rfl⟩⟩; refine ⟨_, rfl, ?_⟩))
  (try simp only [Act.put, List.setIfInBounds_toArray, List.set_cons_zero, List.set_cons_succ])
  have H := HS_.out
  clear HS_
  by_cases c22 : t216 < 0
  rotate_left
  ·rw [if_neg c22] at H
   have c22b0 : decide (t216 < 0) = false := decide_eq_false c22
   clear c22
   (first | rw [c22b0] | (simp only [i64_w, i32_w]; rw [c22b0]) | skip)
   have H' := Q_ H
   clear H
   go_wp2
   go_roundg k2
   case measure => have := HK1.out; have := HK2.out; omega
   case rel => exact ⟨(x3_1), (wrap64 (x4_1 - 1)), (x1001_2), (x1002_2), el_, H', ⟨by have := HK1.out; have := HK2.out; omega⟩, ⟨ps_ (Kd.S_mono HO_3.out (fun _ hk => trivial))⟩, ⟨qs77_1_ HI0.out NB0_206.out⟩, ⟨qk1_ HK.out GW206.out⟩, ⟨qb2_ HB.out (IsS77.ge HI0.out) GE206.out⟩⟩
  rw [if_pos c22] at H
  have c22b0 : decide (t216 < 0) = true := decide_eq_true c22
  clear c22
  (first | rw [c22b0] | (simp only [i64_w, i32_w]; rw [c22b0]) | skip)
  by_cases c23 : x3_1.length < 4398046511104
  rotate_left
  ·rw [if_neg c23] at H
   exact absurd H (by simp)
  rw [if_pos c23] at H
  have LMc23 := Q_ c23
  clear c23
  obtain ⟨y217, hy217⟩ : ∃ y_ : List (S113), y_ = (x3_1 ++ [(⟨t203, x207001_2⟩ : S113)]) := ⟨_, rfl⟩
  replace H : (spec_l9Draw.l0 k2 y217 (wrap64 (x4_1 - 1)) s0_0 x1001_2 x1002_2) = some (r1, r2, r3) := hb_ hy217 H
  have Ny217 := Q_ hy217
  clear hy217
  have H' := Q_ H
  clear H
  have hnb24 := NB206_0.out
  have hnc24 := NB0_206.out
  have hcz25 := bc2_ BK206.out
  obtain ⟨Ao27, co27, eo27⟩ := Kd.R_slice HO_207001.out
  subst eo27
  go_wp2_with (first | ((with_reducible refine gate_builtin (b := .append) (xs := #[.tmp 36, .tmp 38]) rfl ?_); at_builtin; refine Kd.S_append k113 w.heap.size rfl (.tmp 36) (.tmp 38) 69 113 (.agg #[(.int .i64 0), (.slice none 0 0)]) 32 rfl Try.underlying69 info113 rfl (by decide) (by omega) (.slice Ao21 x3_1.length co21) x3_1 (⟨t203, x207001_2⟩ : S113) [.int .i64 t203, .slice Ao27 x207001_2.length co27] (fun k_ => k_ ≠ gb206) (fun k_ => some k_ = (.slice Ao27 x207001_2.length co27 : Value).ownBlock) rfl rfl ?aP (fun k_ hk_ => ((Kd.R_mono (ok' := fun k_ => ((fun k_ => k_ ≠ gb206)) k_ ∧ some k_ ≠ (.slice Ao21 x3_1.length co21 : Value).ownBlock) (Kd.R_types (Kd.R_apart' (HO_207001.out) (Kd.S_typed HO_3.out) (by decide)) BK206.out (by decide)) (fun k_ hk => ⟨hk.2, hk.1.2⟩))).1 k_ hk_.symm) ?aF ?aO (Below.refl _ _) ?aS ?aL ?_; (case aP => exact k113_mkM _ _ _ (⟨t203, x207001_2⟩ : S113) (Kd.R_mono (Kd.R_tight rfl (Kd.R_mono (ok' := fun k_ => ((fun k_ => k_ ≠ gb206)) k_ ∧ some k_ ≠ (.slice Ao21 x3_1.length co21 : Value).ownBlock) (Kd.R_types (Kd.R_apart' (HO_207001.out) (Kd.S_typed HO_3.out) (by decide)) BK206.out (by decide)) (fun k_ hk => ⟨hk.2, hk.1.2⟩))) (fun _ h_ => h_))); (case aF => exact (fun k_ hk => Kd.freshB (g := gb206) (o := .cells #[.int .i64 t203, .slice Ao27 x207001_2.length co27] 113 (0, 0)) (pk_ BK206.out) k_ hk)); (case aO => exact (by (with_reducible repeat (first | apply Kd.S_alloc | apply Kd.S_drewN | apply Kd.S_drew)); exact Kd.S_mono HO_3.out (fun k_ hk => ⟨hk.2, fun e_ => hk.1 e_⟩))); (case aS => exact (keep_size (w := w) (g := g) (row := none) (qk1_ HK.out GW206.out))); (case aL => have := LMc23.out; omega); intro v218 w26 ho hb hg hat; rw [← Ny217.out] at ho; have _ := Q_ (blk_grown (g := gb206) (o := .cells #[.int .i64 t203, .slice Ao27 x207001_2.length co27] 113 (0, 0)) (pk_ BK206.out) hg (Kd.S_away HO_3.out (fun _ hk => hk.2))); have _ := Q_ (IsS77.grown (qs77_1_ HI0.out NB0_206.out) hg (IsS77.own_neS HI0.out HO_3.out (by decide))); have _ := Q_ (below_weaken (qb2_ HB.out (IsS77.ge HI0.out) GE206.out) HL.out hb); have _ := Q_ (KeepBut.trans (qk1_ HK.out GW206.out) (KeepBut.of_grown hg g) (Kd.S_base2 HO_3.out)); have _ := Q_ (ho); clear BK206 HI0 HB HK HO_3 HO_207001; rename_i BK206 HI0 HB HK HO219; clear ho hb hg hat))
  go_roundg k2
  case measure => have := HK1.out; have := HK2.out; omega
  case rel => exact ⟨(y217), (wrap64 (x4_1 - 1)), (x1001_2), (x1002_2), el_, H', ⟨by have := HK1.out; have := HK2.out; omega⟩, ⟨ps_ (Kd.S_mono HO219.out (fun _ hk => trivial))⟩, ⟨qs77_1_ HI0.out NB0_206.out⟩, ⟨qk1_ HK.out GW206.out⟩, ⟨qb2_ HB.out (IsS77.ge HI0.out) GE206.out⟩⟩
 rw [if_pos c17] at H
 have c17b0 : decide (0 < x6_2) = true := decide_eq_true c17
 clear c17
 replace H := Option.bind_eq_some_iff.mp H
 obtain ⟨⟨t210, t211, t212⟩, A280, H⟩ := H
 (try dsimp only at H)
 have A28 := Q_ A280
 clear A280
 by_cases c29 : x207001_2.length < 17592186044416
 rotate_left
 ·rw [if_neg c29] at H
  exact absurd H (by simp)
 rw [if_pos c29] at H
 have LMc29 := Q_ c29
 clear c29
 obtain ⟨y213, hy213⟩ : ∃ y_ : List Int, y_ = (x207001_2 ++ [t210]) := ⟨_, rfl⟩
 replace H : (spec_l9Draw.l1 k2 x3_1 x4_1 (wrap64 (x6_2 - 1)) s0_0 t211 t212 t203 y213) = some (r1, r2, r3) := hb_ hy213 H
 have Ny213 := Q_ hy213
 clear hy213
 have H' := Q_ H
 clear H
 try go_wp2
 have _ := Q_ (Kd.S_drew HO_3.out)
 have _ := Q_ (Kd.R_drew HO_207001.out)
 have _ := Q_ (blk_drew BK206.out)
 have _ := Q_ (IsS77.drew HI0.out)
 have _ := Q_ (keep_drew HK.out)
 have _ := Q_ (below_drew1 HB.out)
 clear HO_3 HO_207001 BK206 HI0 HK HB
 rename_i HO_3 HO_207001 BK206 HI0 HK HB
 refine start_ (n := 8) (S := fun w' => w'.cell? ⟨gb206, 0, none⟩ = some (.int .i64 t203) ∧ w'.cell? ⟨gb206, 1, none⟩ = some (u207001)) (ds := [7]) #[false, false, false, false, false, false, false, false] (by kernel_rfl) rfl rfl (sb_ BK206.out) (fun hHeld => ?_); refine with_tabW spec_l9Draw.tab9 spec_l9Draw.bits9 (fun HT_ HW_ => ?_)
 generalize wr.drew = w30 at HO_3 HO_207001 BK206 HI0 HK HB hHeld ⊢
 refine pu_ 0 (some 24) (tf_ 1 8) HT_ ?_
 refine pu_ 2 (some 26) (tm_ 8 5) HT_ ?_
 refine ta_ 1 (some 25) (tf_ 3 8) HT_ HW_ hHeld ?_
 refine on_ 3 (some 27) (tf_ 4 8) HT_ (fun K hK => ?_)
 refine goes_ Try.func25 (by kernel_rfl) rfl #[.pointer (some ⟨g, 0, none⟩), .int .i64 256] (by rfl) rfl rfl mp_ ?_
 with_reducible refine (spec_l1Below.calls g s0_0 x1001_2 x1002_2 256 t210 t211 t212 w0 _ ?side1 ?side2 A28.out).mono ?_
 (case side1 => exact qs77_1_ HI0.out NB0_206.out)
 (case side2 => exact qb2_ HB.out (IsS77.ge HI0.out) GE206.out)
 rintro e w31 ⟨rfl, hi, hb, hk⟩
 refine ⟨_, rfl, ?_⟩
 have _ := Q_ (Kd.S_mono (Kd.S_keep (IsS77.apartS (show IsS77 w0 _ g s0_0 x1001_2 x1002_2 from qs77_1_ HI0.out NB0_206.out) (ps_ HO_3.out) (by decide)) hk (fun _ h => h.2)) (fun _ h => h.1))
 have _ := Q_ (Kd.R_mono (Kd.R_keep (IsS77.apart (show IsS77 w0 _ g s0_0 x1001_2 x1002_2 from qs77_1_ HI0.out NB0_206.out) (pr_ HO_207001.out) (by decide)) hk (fun _ h => h.2)) (fun _ h => h.1))
 have _ := Q_ (KeepBut.blk hk (g' := gb206) (o := .cells #[.int .i64 t203, u207001] 113 (0, 0)) (pk_ BK206.out) NB206_0.out (by simp))
 have _ := Q_ (KeepBut.trans (qk1_ HK.out GW206.out) hk (.inl rfl))
 have _ := Q_ (hb)
 have _ := Q_ (hi)
 clear HO_3 HO_207001 BK206 HK HB HI0
 rename_i HO_3 HO_207001 BK206 HK HB HI0
 (try clear hb)
 (try clear hb2)
 (try clear hk)
 (try clear hi)
 refine hK.out _ _ (sb_ BK206.out) (fun hHeld => ?_)
 clear hK K
 refine no_ (some 27) ?_
 refine on_ 4 (some 28) (tf_ 5 8) HT_ (fun K hK => ?_)
 refine value_ (w1 := ?_) (v := ?_) (by rfl) rfl ?_ ?_
 rotate_left 2
 ·go_simp
  constructor
  ·rfl
  ·rfl
 refine hK.out _ _ ⟨(blk_cell (blk_alloc BK206.out _) 0).trans rfl, (blk_cell (blk_alloc BK206.out _) 1).trans rfl⟩ (fun hHeld => ?_)
 clear hK K
 refine no_ (some 28) ?_
 refine on_ 5 (some 29) (tf_ 6 8) HT_ (fun K hK => ?_)
 refine Kd.R_append_step (Kd.int .i64) w.heap.size (by rfl) (.tmp 25) (.tmp 28) 25 3 (.int .i64 0) 8 rfl Try.underlying25 info3 rfl (by decide) (by omega) u207001 x207001_2 t210 [.int .i64 t210] (fun _ => True) (fun _ => False) rfl rfl ?aP (fun _ hk => hk.elim) ?aF ?aO (Below.refl _ _) ?aS ?aL ?_
 (case aP => exact rfl)
 (case aF => exact (fun _ _ => trivial))
 (case aO => exact (pr_ HO_207001.out))
 (case aS => exact (keep_size (w := w) (g := g) (row := none) (qk1_ HK.out GW206.out)))
 (case aL => have := LMc29.out; omega)
 intro v214 w32 ho hb hg hat
 rw [← Ny213.out] at ho
 have _ := Q_ (Kd.S_after (ok := (fun k_ => k_ ≠ gb206)) (by (with_reducible repeat (first | apply Kd.S_alloc | apply Kd.S_drewN | apply Kd.S_drew)); exact Kd.S_mono HO_3.out (fun _ hk => ⟨hk.2, hk.1⟩)) hg hat)
 have _ := Q_ (blk_grown (g := gb206) (o := .cells #[.int .i64 t203, u207001] 113 (0, 0)) (pk_ BK206.out) hg (Kd.R_ne HO_207001.out BK206.out (by decide)))
 have _ := Q_ (IsS77.grown (qs77_1_ HI0.out NB0_206.out) hg (IsS77.own_ne HI0.out HO_207001.out (by decide)))
 have _ := Q_ (below_weaken (qb2_ HB.out (IsS77.ge HI0.out) GE206.out) HL.out hb)
 have _ := Q_ (KeepBut.trans (qk1_ HK.out GW206.out) (KeepBut.of_grown hg g) (Kd.R_base2 HO_207001.out))
 have _ := Q_ (ho)
 clear HO_3 BK206 HI0 HB HK HO_207001
 rename_i HO_3 BK206 HI0 HB HK HO215
 clear ho hb hg hat
 obtain ⟨Ao33, co33, eo33⟩ := Kd.R_slice HO215.out
 (first | subst eo33 | (injection eo33 with f1_ f2_ f3_; have f4_ := f1_.symm; have f5_ := f3_.symm; clear f1_ f2_ f3_; subst f4_; subst f5_))
 refine hK.out _ _ (sb_ BK206.out) (fun hHeld => ?_)
 clear hK K
 refine no_ (some 29) ?_
 refine pu_ 6 (some 30) (tf_ 7 8) HT_ ?_
 refine last_ (i := 7) (N := none) #[true, true, true, true, true, true, true, true] rfl rfl (one_of HT_.out (by kernel_rfl)) (by decide) (fun K hK => ?_)
 have hs34 : w32.cell? ⟨gb206, 1, none⟩ = some (u207001) := (blk_cell BK206.out 1).trans rfl
 have hfs34 := blk_frozen BK206.out 1
 refine skip_ (w1 := ?_) (by rfl) rfl ?_ ?_
 rotate_left
 ·go_simp
  rfl
 refine hK.out _ _ ?_
 clear hK K
 refine done_ (done_of HT_.out (by kernel_rfl)) ?_
 try go_wp2
 go_roundg k2
 case measure => have := HK1.out; have := HK2.out; omega
 case rel => exact ⟨(wrap64 (x6_2 - 1)), (t211), (t212), (y213), (.slice Ao33 y213.length co33), el_, H', ⟨by have := HK1.out; have := HK2.out; omega⟩, ⟨by (with_reducible repeat (first | apply Kd.S_alloc | apply Kd.S_drewN | apply Kd.S_drew)); exact Kd.S_mono (Kd.S_far (p := ⟨gb206, 1, none⟩) (Kd.S_mono HO_3.out (fun k_ hk => (⟨hk, hk.1⟩ : _ ∧ k_ ≠ gb206))) (fun _ hk => hk.2) (.slice Ao33 y213.length co33)) (fun _ hk => ⟨hk.1.2, hk.1.1⟩)⟩, ⟨pr_ (Kd.R_mono (Kd.R_far (p := ⟨gb206, 1, none⟩) (Kd.R_types HO215.out BK206.out (by decide)) (fun _ hk => hk.2) (.slice Ao33 y213.length co33)) (fun _ hk => trivial))⟩, ⟨pp_ BK206.out⟩, ⟨qs77_1_ HI0.out NB0_206.out⟩, ⟨qk1_ HK.out GW206.out⟩, ⟨qb2_ HB.out (IsS77.ge HI0.out) GE206.out⟩⟩

/-! ### spec_l17Draw: function 40 -/
def spec_l17Draw.f (k : Nat) (s0_0 : List Int) (s0_1 : Int) (s0_2 : Int) : Option (List Int × (List (S113)) × Int × Int) := (spec_l12Draw.f k s0_0 s0_1 s0_2).bind fun bt221 => ((spec_l9Draw.f k s0_0 bt221.2.1 bt221.2.2).bind fun bt226 => (some (bt221.1, bt226.1, bt226.2.1, bt226.2.2)))
theorem spec_l17Draw.mono : ∀ a0 a1 a2 k, LeO (spec_l17Draw.f k a0 a1 a2) (spec_l17Draw.f (k + 1) a0 a1 a2) := by
 intro a0 a1 a2 k
 unfold spec_l17Draw.f
 exact mo2_ spec_l12Draw.mono spec_l9Draw.mono
theorem spec_l17Draw.calls (k : Nat) (g : Nat) (s0_0 : List Int) (s0_1 : Int) (s0_2 : Int) (r1 : List Int) (r2 : List (S113)) (r3 : Int) (r4 : Int) (w0 w : World) (hI : IsS77 w0 w g s0_0 s0_1 s0_2) (hB : Below w0.heap.size w0 w) (h : spec_l17Draw.f k s0_0 s0_1 s0_2 = some (r1, r2, r3, r4)) :
  Calls Try.prog 40 #[.pointer (some ⟨g, 0, none⟩)] w fun e w' => ∃ v0_ v1_ : Value, e = .returned (.agg #[v0_, v1_]) ∧ Kd.R (Kd.int .i64) 3 w' w.heap.size (fun _ => True) v0_ r1 ∧ Kd.S k113 113 w' w.heap.size (fun k_ => some k_ ≠ (v0_ : Value).ownBlock) v1_ r2 ∧ IsS77 w0 w' g s0_0 r3 r4 ∧ Below w0.heap.size w0 w' ∧ KeepBut w w' g none := by
 have hu71 := Try.underlying71
 have HI0 := Q_ hI
 have HK := Q_ (KeepBut.refl w g none)
 have HL := Q_ hB.size
 clear hI
 have HW0 := Q_ hB.size
 have HB := Q_ hB
 clear hB
 have H : ((spec_l12Draw.f k s0_0 s0_1 s0_2).bind fun bt221 => ((spec_l9Draw.f k s0_0 bt221.2.1 bt221.2.2).bind fun bt226 => (some (bt221.1, bt226.1, bt226.2.1, bt226.2.2)))) = some (r1, r2, r3, r4) := h
 clear h
 replace H := Option.bind_eq_some_iff.mp H
 obtain ⟨⟨t221, t224, t225⟩, A20, H⟩ := H
 (try dsimp only at H)
 have A2 := Q_ A20
 clear A20
 replace H := Option.bind_eq_some_iff.mp H
 obtain ⟨⟨t226, t229, t230⟩, A30, H⟩ := H
 replace H : (some (t221, t226, t229, t230)) = some (r1, r2, r3, r4) := H
 have A3 := Q_ A30
 clear A30
 simp only [Option.some.injEq, Prod.mk.injEq] at H
 obtain ⟨rfl, rfl, rfl, rfl⟩ := H
 go_enter Try.func40, Try.ntmps40
 go_wp2_with (first | ((with_reducible refine gate_dst (N := 2) rfl ?_); refine box_event ?hg (N := 2) ?hd (cs := #[.slice none 0 0, .slice none 0 0]) (t := 71) ?hr ?_; (case hd => rfl); (case hg => rfl); (case hr => first | (go_simp; done) | (go_simp; rfl)); intro gb220 hg w4 hbox hb; have _ := Q_ (IsS77.below (qs77_0_ HI0.out) hb); have _ := Q_ (KeepBut.trans (qk0_ HK.out) (KeepBut.of_below hb g none) (.inl rfl)); have _ := Q_ (below_step (qb1_ HB.out (IsS77.ge HI0.out)) hb); have BK220 := Q_ (hbox); have GW220 := Q_ ((by rw [hg]; exact (keep_size (w := w) (g := g) (row := none) (qk0_ HK.out)) : w.heap.size ≤ gb220)); have GE220 := Q_ (Nat.le_trans HW0.out GW220.out); have NB0_220 := Q_ ((by rw [hg]; exact Nat.ne_of_lt (IsS77.lt (show IsS77 w0 _ g s0_0 s0_1 s0_2 from qs77_0_ HI0.out)) : g ≠ gb220)); have NB220_0 := Q_ NB0_220.out.symm; clear HI0 HK HB; rename_i HI0 HK HB; clear hb hbox hg) | ((with_reducible refine gate_callee (f := 42) rfl ?_); refine gl_ (some 4) Try.func42 #[.pointer (some ⟨g, 0, none⟩)] ?_; (with_reducible refine (spec_l12Draw.calls k g s0_0 s0_1 s0_2 t221 t224 t225 w0 _ ?side1 ?side2 A2.out).mono ?_); (case side1 => exact qs77_1_ HI0.out NB0_220.out); (case side2 => exact qb2_ HB.out (IsS77.ge HI0.out) GE220.out); rintro e w5 ⟨v222, rfl, ho0, hi, hb, hk⟩; refine ⟨_, rfl, ?_⟩; have _ := Q_ (KeepBut.blk hk (g' := gb220) (o := .cells #[.slice none 0 0, .slice none 0 0] 71 (0, 0)) (pk_ BK220.out) NB220_0.out (by simp)); have _ := Q_ (Kd.R_lower ho0 (keep_size (w := w) (g := g) (row := none) (qk1_ HK.out GW220.out))); have _ := Q_ (KeepBut.trans (qk1_ HK.out GW220.out) hk (.inl rfl)); have _ := Q_ (hb); have _ := Q_ (hi); clear BK220 HK HB HI0; rename_i BK220 HO223 HK HB HI0; (try clear hb); (try clear hb2); (try clear hk); (try clear hi); (try clear ho0)) | ((with_reducible refine gate_callee (f := 53) rfl ?_); refine gl_ (some 6) Try.func53 #[.pointer (some ⟨g, 0, none⟩)] ?_; (with_reducible refine (spec_l9Draw.calls k g s0_0 t224 t225 t226 t229 t230 w0 _ ?side1 ?side2 A3.out).mono ?_); (case side1 => exact qs77_1_ HI0.out NB0_220.out); (case side2 => exact qb2_ HB.out (IsS77.ge HI0.out) GE220.out); rintro e w6 ⟨v227, rfl, ho0, hi, hb, hk⟩; refine ⟨_, rfl, ?_⟩; have _ := Q_ (KeepBut.blk hk (g' := gb220) (o := .cells #[.slice none 0 0, .slice none 0 0] 71 (0, 0)) (pk_ BK220.out) NB220_0.out (by simp)); have _ := Q_ (Kd.R_mono (Kd.R_keep (IsS77.apart (show IsS77 w0 _ g s0_0 t224 t225 from qs77_1_ HI0.out NB0_220.out) (pr_ HO223.out) (by decide)) hk (fun _ h => h.2)) (fun _ h => h.1)); have _ := Q_ (Kd.S_lower (Kd.S_new' ho0 (Kd.R_lt (pr_ HO223.out))) (keep_size (w := w) (g := g) (row := none) (qk1_ HK.out GW220.out))); have _ := Q_ (KeepBut.trans (qk1_ HK.out GW220.out) hk (.inl rfl)); have _ := Q_ (hb); have _ := Q_ (hi); clear BK220 HO223 HK HB HI0; rename_i BK220 HO223 HO228 HK HB HI0; (try clear hb); (try clear hb2); (try clear hk); (try clear hi); (try clear ho0); obtain ⟨Ao7, co7, eo7⟩ := Kd.S_slice HO228.out; subst eo7; obtain ⟨Ao8, co8, eo8⟩ := Kd.R_slice HO223.out; subst eo8; have hnb9 := NB220_0.out; have hnc9 := NB0_220.out; have hcz10 := bc2_ BK220.out))
 refine bodyPost_ret (results_cell_row rfl _ _ gb220 71 #[.slice Ao8 t221.length co8, .slice Ao7 t226.length co7] (0, 0) _ rfl (pp_ BK220.out) Try.underlying71 rfl (by kernel_rfl)) rfl ?_
 exact ⟨_, _, er_, pr_ (Kd.R_mono (rf2_ HO223.out BK220.out) (fun _ hk => trivial)), ps_ (Kd.S_mono (Kd.S_far (p := ⟨gb220, 1, none⟩) (Kd.S_far (p := ⟨gb220, 0, none⟩) (Kd.S_types HO228.out BK220.out (by decide)) (fun _ hk => hk.2) (.slice Ao8 t221.length co8)) (fun _ hk => hk.2) (.slice Ao7 t226.length co7)) (fun _ hk => hk.1.2)), qs77_1_ HI0.out NB0_220.out, qb2_ HB.out (IsS77.ge HI0.out) GE220.out, qk1_ HK.out GW220.out⟩

/-! ### spec_l9Has: function 74 -/
def spec_l9Has.l0 : Nat → List Int → Int → Int → Option (Bool)
 | 0, _, _, _ => none
 | k + 1, x0, x1, x5 => if x5 < (x0.length : Int) then (if 0 ≤ x5 then (if (rd x0 x5) = x1 then (some true) else (spec_l9Has.l0 k x0 x1 (wrap64 (x5 + 1)))) else (none)) else (some false)
def spec_l9Has.f (k : Nat) (l0 : List Int) (a1 : Int) : Option (Bool) := spec_l9Has.l0 k l0 a1 0
theorem spec_l9Has.mono_l : ∀ k, (∀ y0 y1 y2, LeO (spec_l9Has.l0 k y0 y1 y2) (spec_l9Has.l0 (k + 1) y0 y1 y2))
 | 0 => fun _ _ _ r h => by simp [spec_l9Has.l0] at h
 | k + 1 => by
  have ih0 := spec_l9Has.mono_l k
  ·intro y0 y1 y2
   unfold spec_l9Has.l0
   exact mo1_ ih0
theorem spec_l9Has.mono : ∀ a0 a1 k, LeO (spec_l9Has.f k a0 a1) (spec_l9Has.f (k + 1) a0 a1) := by
 intro a0 a1 k
 have ih0 := spec_l9Has.mono_l k
 unfold spec_l9Has.f
 exact mo1_ ih0
theorem spec_l9Has.calls (k : Nat) (A0 : Option Addr) (c0 : Nat) (l0 : List Int) (a1 : Int) (r : Bool) (w : World) (hr0 : Kd.C (Kd.int .i64) w A0 l0.length l0) (hc0 : l0.length ≤ c0) (h : spec_l9Has.f k l0 a1 = some r) :
  Calls Try.prog 74 #[.slice A0 l0.length c0, .int .i64 a1] w fun e w' => e = .returned (.bool r) ∧ Drawn0 w w' := by
 have HR0 := Q_ hr0
 have HC0 := Q_ hc0
 clear hr0 hc0
 have H : (spec_l9Has.l0 k l0 a1 0) = some r := h
 clear h
 have H' := Q_ H
 clear H
 go_enter Try.func74, Try.ntmps74
 go_wp2
 go_loopg [5] k (fun kq v5 w' => ∃ (x5_1 : Int), v5 = .int .i64 x5_1 ∧ Aside0 (spec_l9Has.l0 kq l0 a1 x5_1 = some r) ∧ Aside0 (kq ≤ k) ∧ Drawn0 w w')
 case atStart => exact ⟨(0), el_, H', ⟨Nat.le_refl _⟩, by repeat (first | exact Drawn0.refl _ | apply Drawn0.step)⟩
 clear H'
 try clear p2
 obtain ⟨x5_1, rfl, HA, HK1, ⟨m1, rfl⟩⟩ := hrel
 rcases gk with _ | k1
 ·exact absurd HA.out (by simp [spec_l9Has.l0])
 have H := HA.out
 clear HA
 simp only [spec_l9Has.l0] at H
 by_cases c3 : x5_1 < (l0.length : Int)
 rotate_left
 ·rw [if_neg c3] at H
  have c3b0 : decide (x5_1 < (l0.length : Int)) = false := decide_eq_false c3
  clear c3
  obtain rfl := Option.some.inj H
  go_wp2
  go_ret
  exact ⟨by first | rfl | (simp; done) | (simp [*]; done), by repeat (first | exact Drawn0.refl _ | apply Drawn0.step)⟩
 rw [if_pos c3] at H
 have c3b0 : decide (x5_1 < (l0.length : Int)) = true := decide_eq_true c3
 clear c3
 by_cases c4 : 0 ≤ x5_1
 rotate_left
 ·rw [if_neg c4] at H
  exact absurd H (by simp)
 rw [if_pos c4] at H
 have c4b0 : decide (0 ≤ x5_1) = true := decide_eq_true c4
 clear c4
 by_cases c5 : (rd l0 x5_1) = a1
 rotate_left
 ·rw [if_neg c5] at H
  have c5b0 : ((rd l0 x5_1) == a1) = false := beq_eq_false_iff_ne.mpr c5
  have c5b1 : ((rd l0 x5_1) != a1) = true := bne_iff_ne.mpr c5
  have H' := Q_ H
  clear H
  have p231 : 0 ≤ (x5_1 : Int) := dt_
  have q231 : x5_1 < (l0.length : Int) := dt_
  obtain ⟨ad231, e231, hx231_0⟩ := Kd.at_int HR0.out x5_1 p231 q231
  cases e231
  replace p231 := eq_true p231
  replace q231 := eq_true q231
  go_wp2
  go_roundg k1
  case measure => have := HK1.out; omega
  case rel => exact ⟨(wrap64 (x5_1 + 1)), el_, H', ⟨by have := HK1.out; omega⟩, by repeat (first | exact Drawn0.refl _ | apply Drawn0.step)⟩
 rw [if_pos c5] at H
 have c5b0 : ((rd l0 x5_1) == a1) = true := beq_iff_eq.mpr c5
 have c5b1 : ((rd l0 x5_1) != a1) = false := bne_eq_false_iff_eq.mpr c5
 clear c5
 obtain rfl := Option.some.inj H
 have p231 : 0 ≤ (x5_1 : Int) := dt_
 have q231 : x5_1 < (l0.length : Int) := dt_
 obtain ⟨ad231, e231, hx231_0⟩ := Kd.at_int HR0.out x5_1 p231 q231
 cases e231
 replace p231 := eq_true p231
 replace q231 := eq_true q231
 go_wp2
 go_ret
 exact ⟨by first | rfl | (simp; done) | (simp [*]; done), by repeat (first | exact Drawn0.refl _ | apply Drawn0.step)⟩

/-! ### spec_l21Left: function 70 -/
def spec_l21Left.l0 : Nat → List Int → List Int → List Int → Int → Option (List Int)
 | 0, _, _, _, _ => none
 | k + 1, x0, x1, x5, x6 => if x6 < (x0.length : Int) then (if 0 ≤ x6 then ((spec_l9Has.f k x1 (rd x0 x6)).bind fun t236 => (if t236 = true then (spec_l21Left.l0 k x0 x1 x5 (wrap64 (x6 + 1))) else (if x5.length < 17592186044416 then (spec_l21Left.l0 k x0 x1 (x5 ++ [rd x0 x6]) (wrap64 (x6 + 1))) else (none)))) else (none)) else (some x5)
def spec_l21Left.f (k : Nat) (l0 : List Int) (l1 : List Int) : Option (List Int) := spec_l21Left.l0 k l0 l1 (([] : List Int)) 0
theorem spec_l21Left.mono_l : ∀ k, (∀ y0 y1 y2 y3, LeO (spec_l21Left.l0 k y0 y1 y2 y3) (spec_l21Left.l0 (k + 1) y0 y1 y2 y3))
 | 0 => fun _ _ _ _ r h => by simp [spec_l21Left.l0] at h
 | k + 1 => by
  have ih0 := spec_l21Left.mono_l k
  ·intro y0 y1 y2 y3
   unfold spec_l21Left.l0
   exact mo2_ ih0 spec_l9Has.mono
theorem spec_l21Left.mono : ∀ a0 a1 k, LeO (spec_l21Left.f k a0 a1) (spec_l21Left.f (k + 1) a0 a1) := by
 intro a0 a1 k
 have ih0 := spec_l21Left.mono_l k
 unfold spec_l21Left.f
 exact mo2_ ih0 spec_l9Has.mono
theorem spec_l21Left.calls (k : Nat) (A0 : Option Addr) (c0 : Nat) (l0 : List Int) (A1 : Option Addr) (c1 : Nat) (l1 : List Int) (r : List Int) (w : World) (hr0 : Kd.C (Kd.int .i64) w A0 l0.length l0) (hc0 : l0.length ≤ c0) (hr1 : Kd.C (Kd.int .i64) w A1 l1.length l1) (hc1 : l1.length ≤ c1) (h : spec_l21Left.f k l0 l1 = some r) :
  Calls Try.prog 70 #[.slice A0 l0.length c0, .slice A1 l1.length c1] w fun e w' => ∃ v0_ : Value, e = .returned (v0_) ∧ Kd.R (Kd.int .i64) 3 w' w.heap.size (fun _ => True) v0_ r ∧ Below w.heap.size w w' := by
 have HR0 := Q_ hr0
 have HC0 := Q_ hc0
 clear hr0 hc0
 have HR1 := Q_ hr1
 have HC1 := Q_ hc1
 clear hr1 hc1
 have HB := Q_ (Below.refl w.heap.size w)
 have H : (spec_l21Left.l0 k l0 l1 (([] : List Int)) 0) = some r := h
 clear h
 obtain ⟨y232, hy232⟩ : ∃ y_ : List Int, y_ = (([] : List Int)) := ⟨_, rfl⟩
 replace H : (spec_l21Left.l0 k l0 l1 y232 0) = some r := hb_ hy232 H
 have Ny232 := Q_ hy232
 clear hy232
 have H' := Q_ H
 clear H
 go_enter Try.func70, Try.ntmps70
 go_wp2_with (first | ((with_reducible refine gate_dst (N := 7) rfl ?_); refine Kd.R_lit (Kd.int .i64) _ 3 ?hg (N := 7) ?hd (xs := ([] : List Int)) (inner := []) (ok := fun _ => True) (okp := fun _ => True) ?hr ?hp (fun _ hk => hk) trivial (Below.refl _ _) (Nat.le_refl _) (by simp) ?_; (case hd => rfl); (case hg => rfl); (case hr => first | (go_simp; done) | (go_simp; rfl)); (case hp => exact (Reps.none _ _)); intro v233 w3 ho4 hb hg_ hnew_; clear hg_ hnew_; (first | rw [← Ny232.out] at ho4 | (simp only [Int.reduceToNat] at ho4; rw [← Ny232.out] at ho4)); have _ := Q_ (Kd.R_lower ho4 (below_size (pb_ HB.out))); have _ := Q_ (below_step (pb_ HB.out) hb); clear HB; rename_i HO234 HB; clear hb ho4))
 (try simp only [Act.put, List.setIfInBounds_toArray, List.set_cons_zero, List.set_cons_succ])
 go_loopg [5, 6] k (fun kq v5 v6 w' => ∃ (x5_1 : List Int) (x6_1 : Int), v6 = .int .i64 x6_1 ∧ Aside0 (spec_l21Left.l0 kq l0 l1 x5_1 x6_1 = some r) ∧ Aside0 (kq ≤ k) ∧ Aside0 (Kd.R (Kd.int .i64) 3 w' w.heap.size (fun _ => True) v5 x5_1) ∧ Aside0 (Below w.heap.size w w'))
 case atStart => exact ⟨(y232), (0), el_, H', ⟨Nat.le_refl _⟩, ⟨pr_ HO234.out⟩, ⟨pb_ HB.out⟩⟩
 clear H'
 try clear c1
 try clear p2
 obtain ⟨x5_1, x6_1, rfl, HA, HK1, HO_5, HB⟩ := hrel
 rcases gk with _ | k1
 ·exact absurd HA.out (by simp [spec_l21Left.l0])
 have H := HA.out
 clear HA
 simp only [spec_l21Left.l0] at H
 by_cases c5 : x6_1 < (l0.length : Int)
 rotate_left
 ·rw [if_neg c5] at H
  have c5b0 : decide (x6_1 < (l0.length : Int)) = false := decide_eq_false c5
  clear c5
  obtain rfl := Option.some.inj H
  go_wp2
  go_ret
  exact ⟨_, er_, pr_ HO_5.out, pb_ HB.out⟩
 rw [if_pos c5] at H
 have c5b0 : decide (x6_1 < (l0.length : Int)) = true := decide_eq_true c5
 clear c5
 by_cases c6 : 0 ≤ x6_1
 rotate_left
 ·rw [if_neg c6] at H
  exact absurd H (by simp)
 rw [if_pos c6] at H
 have c6b0 : decide (0 ≤ x6_1) = true := decide_eq_true c6
 clear c6
 replace H := Option.bind_eq_some_iff.mp H
 obtain ⟨t236, A70, H⟩ := H
 (try dsimp only at H)
 have A7 := Q_ A70
 clear A70
 have HS_ := Q_ H
 clear H
 have p235 : 0 ≤ (x6_1 : Int) := dt_
 have q235 : x6_1 < (l0.length : Int) := dt_
 obtain ⟨ad235, e235, hx235_0⟩ := Kd.at_int HR0.out x6_1 p235 q235
 cases e235
 replace hx235_0 := bt_ HB hx235_0
 replace p235 := eq_true p235
 replace q235 := eq_true q235
 go_upto_if 20 with (first | ((with_reducible refine gate_callee (f := 74) rfl ?_); refine gl_ (some 19) Try.func74 #[.slice A1 l1.length c1, .int .i64 (rd l0 x6_1)] ?_; (with_reducible refine (spec_l9Has.calls k1 _ _ l1 (rd l0 x6_1) t236 _ ?side1 ?side2 A7.out).mono ?_); (case side1 => exact cb_ HR1 HB); (case side2 => exact HC1.out); rintro e w' ⟨rfl, ⟨nd, rfl⟩⟩; refine ⟨_, rfl, ?_⟩))
 (try simp only [Act.put, List.setIfInBounds_toArray, List.set_cons_zero, List.set_cons_succ])
 have H := HS_.out
 clear HS_
 by_cases c8 : t236 = true
 ·subst c8
  rw [if_pos rfl] at H
  have H' := Q_ H
  clear H
  go_wp2
  go_roundg k1
  case measure => have := HK1.out; omega
  case rel => exact ⟨(x5_1), (wrap64 (x6_1 + 1)), el_, H', ⟨by have := HK1.out; omega⟩, ⟨pr_ HO_5.out⟩, ⟨pb_ HB.out⟩⟩
 replace c8 := bf_ c8
 subst c8
 rw [if_neg ff_] at H
 by_cases c9 : x5_1.length < 17592186044416
 rotate_left
 ·rw [if_neg c9] at H
  exact absurd H (by simp)
 rw [if_pos c9] at H
 have LMc9 := Q_ c9
 clear c9
 obtain ⟨y238, hy238⟩ : ∃ y_ : List Int, y_ = (x5_1 ++ [rd l0 x6_1]) := ⟨_, rfl⟩
 replace H : (spec_l21Left.l0 k1 l0 l1 y238 (wrap64 (x6_1 + 1))) = some r := hb_ hy238 H
 have Ny238 := Q_ hy238
 clear hy238
 have H' := Q_ H
 clear H
 have p237 : 0 ≤ (x6_1 : Int) := dt_
 have q237 : x6_1 < (l0.length : Int) := dt_
 obtain ⟨ad237, e237, hx237_0⟩ := Kd.at_int HR0.out x6_1 p237 q237
 obtain rfl : ad235 = ad237 := (by injection e237)
 replace hx237_0 := bt_ HB hx237_0
 replace p237 := eq_true p237
 replace q237 := eq_true q237
 go_wp2_with (first | ((with_reducible refine gate_builtin (b := .append) (xs := #[.tmp 21, .tmp 26]) rfl ?_); at_builtin; refine Kd.R_append (Kd.int .i64) (w0 := w) w.heap.size rfl (.tmp 21) (.tmp 26) 25 3 (.int .i64 0) 8 rfl Try.underlying25 info3 rfl (by decide) (by omega) u5 x5_1 (rd l0 x6_1) [.int .i64 (rd l0 x6_1)] (fun _ => True) (fun _ => False) rfl rfl ?aP (fun _ hk => hk.elim) ?aF ?aO ?aB ?aS ?aL ?_; (case aP => exact rfl); (case aB => exact (pb_ HB.out)); (case aF => exact (fun _ _ => trivial)); (case aO => exact (pr_ HO_5.out)); (case aS => exact (below_size (pb_ HB.out))); (case aL => have := LMc9.out; omega); intro v239 w10 ho hb hg hat; rw [← Ny238.out] at ho; have _ := Q_ (hb); have _ := Q_ (ho); clear HB HO_5; rename_i HB HO240; clear ho hb hg hat))
 go_roundg k1
 case measure => have := HK1.out; omega
 case rel => exact ⟨(y238), (wrap64 (x6_1 + 1)), el_, H', ⟨by have := HK1.out; omega⟩, ⟨pr_ HO240.out⟩, ⟨pb_ HB.out⟩⟩

/-! ### spec_l1In: function 72 -/
def spec_l1In.f (a0 : Int) (a1 : Int) (a2 : Int) : Option (Bool) := if a0 ≥ a1 then (some (decide (a0 ≤ a2))) else (some false)
theorem spec_l1In.calls (a0 : Int) (a1 : Int) (a2 : Int) (r : Bool) (w : World) (h : spec_l1In.f a0 a1 a2 = some r) :
  Calls Try.prog 72 #[.int .i64 a0, .int .i64 a1, .int .i64 a2] w fun e w' => e = .returned (.bool r) ∧ Drawn0 w w' := by
 have H : (if a0 ≥ a1 then (some (decide (a0 ≤ a2))) else (some false)) = some r := h
 clear h
 by_cases c4 : a0 ≥ a1
 rotate_left
 ·rw [if_neg c4] at H
  have c4b0 : decide (a1 ≤ a0) = false := decide_eq_false c4
  clear c4
  obtain rfl := Option.some.inj H
  go_enter Try.func72, Try.ntmps72
  go_wp2
  go_ret
  exact ⟨by first | rfl | (simp; done) | (simp [*]; done), by repeat (first | exact Drawn0.refl _ | apply Drawn0.step)⟩
 rw [if_pos c4] at H
 have c4b0 : decide (a1 ≤ a0) = true := decide_eq_true c4
 clear c4
 obtain rfl := Option.some.inj H
 go_enter Try.func72, Try.ntmps72
 go_wp2
 go_ret
 exact ⟨by first | rfl | (simp; done) | (simp [*]; done), by repeat (first | exact Drawn0.refl _ | apply Drawn0.step)⟩

end Go.Proofs.Ytlcpaebidnaolaa.Print
