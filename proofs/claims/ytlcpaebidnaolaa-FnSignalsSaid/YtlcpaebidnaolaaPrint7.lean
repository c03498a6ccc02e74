-- Written by a program of this session (printx.py) out of the translation; Lean checks it.
import Derived.Test.YtlcpaebidnaolaaPrint0
import Derived.Test.YtlcpaebidnaolaaPrint6
namespace Go.Proofs.Ytlcpaebidnaolaa.Print
open Go.RowKit Go.Proofs.YtlcpaebidnaolaaW.PrintWords Go.Proofs.YtlcpaebidnaolaaW.PrintLast Go.Proofs.YtlcpaebidnaolaaW.PrintMore Go.Proofs.Ytlcpaebidnaolaa.Short
attribute [local go_sem] max2_int min2_int max_two min_two max_three min_three max_four min_four   -- for this text's walks alone
set_option linter.unusedVariables false
set_option maxHeartbeats 8000000
set_option maxRecDepth 100000
set_option linter.unusedSimpArgs false

/-! ### spec_EqualExts: function 95 -/
def spec_EqualExts.l0 : Nat → List (S113) → List (S113) → Int → Option (Bool)
 | 0, _, _, _ => none
 | k + 1, x0, x1, x5 => if x5 < (x0.length : Int) then (if 0 ≤ x5 then (if x5 < (x1.length : Int) then (if ((rd_T113 x0 x5).f0) = ((rd_T113 x1 x5).f0) then ((spec_EqualInts.f k ((rd_T113 x0 x5).f1) ((rd_T113 x1 x5).f1)).bind fun t281 => (if t281 = true then (spec_EqualExts.l0 k x0 x1 (wrap64 (x5 + 1))) else (some false))) else (some false)) else (none)) else (none)) else (some true)
def spec_EqualExts.f (k : Nat) (l0 : List (S113)) (l1 : List (S113)) : Option (Bool) := if (l0.length : Int) = (l1.length : Int) then (spec_EqualExts.l0 k l0 l1 0) else (some false)
theorem spec_EqualExts.mono_l : ∀ k, (∀ y0 y1 y2, LeO (spec_EqualExts.l0 k y0 y1 y2) (spec_EqualExts.l0 (k + 1) y0 y1 y2))
 | 0 => fun _ _ _ r h => by simp [spec_EqualExts.l0] at h
 | k + 1 => by
  have ih0 := spec_EqualExts.mono_l k
  ·intro y0 y1 y2
   unfold spec_EqualExts.l0
   exact mo2_ ih0 spec_EqualInts.mono
theorem spec_EqualExts.mono : ∀ a0 a1 k, LeO (spec_EqualExts.f k a0 a1) (spec_EqualExts.f (k + 1) a0 a1) := by
 intro a0 a1 k
 have ih0 := spec_EqualExts.mono_l k
 unfold spec_EqualExts.f
 exact mo2_ ih0 spec_EqualInts.mono
theorem spec_EqualExts.calls (k : Nat) (A0 : Option Addr) (c0 : Nat) (l0 : List (S113)) (A1 : Option Addr) (c1 : Nat) (l1 : List (S113)) (r : Bool) (w : World) (hr0 : Kd.C k113 w A0 l0.length l0) (hc0 : l0.length ≤ c0) (hr1 : Kd.C k113 w A1 l1.length l1) (hc1 : l1.length ≤ c1) (h : spec_EqualExts.f k l0 l1 = some r) :
  Calls Try.prog 95 #[.slice A0 l0.length c0, .slice A1 l1.length c1] w fun e w' => e = .returned (.bool r) ∧ Drawn0 w w' := by
 have HR0 := Q_ hr0
 have HC0 := Q_ hc0
 clear hr0 hc0
 have HR1 := Q_ hr1
 have HC1 := Q_ hc1
 clear hr1 hc1
 have H : (if (l0.length : Int) = (l1.length : Int) then (spec_EqualExts.l0 k l0 l1 0) else (some false)) = some r := h
 clear h
 by_cases c3 : (l0.length : Int) = (l1.length : Int)
 rotate_left
 ·rw [if_neg c3] at H
  have c3b0 : ((l0.length : Int) == (l1.length : Int)) = false := beq_eq_false_iff_ne.mpr c3
  have c3b1 : ((l0.length : Int) != (l1.length : Int)) = true := bne_iff_ne.mpr c3
  have c3b2 : (l0.length == l1.length) = false := by first | simpa using c3 | (simp at c3 ⊢; omega)
  obtain rfl := Option.some.inj H
  go_enter Try.func95, Try.ntmps95
  go_wp2
  repeat (go_quiet (fail); try go_wp2)
  go_ret
  exact ⟨by first | rfl | (simp; done) | (simp [*]; done), by repeat (first | exact Drawn0.refl _ | apply Drawn0.step)⟩
 rw [if_pos c3] at H
 have c3b0 : ((l0.length : Int) == (l1.length : Int)) = true := beq_iff_eq.mpr c3
 have c3b1 : ((l0.length : Int) != (l1.length : Int)) = false := bne_eq_false_iff_eq.mpr c3
 have c3b2 : (l0.length == l1.length) = true := by first | simpa using c3 | (simp at c3 ⊢; omega)
 clear c3
 have H' := Q_ H
 clear H
 go_enter Try.func95, Try.ntmps95
 go_wp2
 repeat (go_quiet (fail); try go_wp2)
 go_loopg [5] k (fun kq v5 w' => ∃ (x5_1 : Int), v5 = .int .i64 x5_1 ∧ Aside0 (spec_EqualExts.l0 kq l0 l1 x5_1 = some r) ∧ Aside0 (kq ≤ k) ∧ Drawn0 w w')
 case atStart => exact ⟨(0), el_, H', ⟨Nat.le_refl _⟩, by repeat (first | exact Drawn0.refl _ | apply Drawn0.step)⟩
 clear H'
 try clear c1
 try clear p2
 try clear c3
 try clear c3b0
 try clear c3b1
 try clear c3b2
 obtain ⟨x5_1, rfl, HA, HK1, ⟨m1, rfl⟩⟩ := hrel
 rcases gk with _ | k1
 ·exact absurd HA.out (by simp [spec_EqualExts.l0])
 have H := HA.out
 clear HA
 simp only [spec_EqualExts.l0] at H
 by_cases c4 : x5_1 < (l0.length : Int)
 rotate_left
 ·rw [if_neg c4] at H
  have c4b0 : decide (x5_1 < (l0.length : Int)) = false := decide_eq_false c4
  clear c4
  obtain rfl := Option.some.inj H
  go_wp2
  repeat (go_quiet (fail); try go_wp2)
  go_ret
  exact ⟨by first | rfl | (simp; done) | (simp [*]; done), by repeat (first | exact Drawn0.refl _ | apply Drawn0.step)⟩
 rw [if_pos c4] at H
 have c4b0 : decide (x5_1 < (l0.length : Int)) = true := decide_eq_true c4
 clear c4
 by_cases c5 : 0 ≤ x5_1
 rotate_left
 ·rw [if_neg c5] at H
  exact absurd H (by simp)
 rw [if_pos c5] at H
 have c5b0 : decide (0 ≤ x5_1) = true := decide_eq_true c5
 clear c5
 by_cases c6 : x5_1 < (l1.length : Int)
 rotate_left
 ·rw [if_neg c6] at H
  exact absurd H (by simp)
 rw [if_pos c6] at H
 have c6b0 : decide (x5_1 < (l1.length : Int)) = true := decide_eq_true c6
 clear c6
 by_cases c7 : ((rd_T113 l0 x5_1).f0) = ((rd_T113 l1 x5_1).f0)
 rotate_left
 ·rw [if_neg c7] at H
  have c7b0 : (((rd_T113 l0 x5_1).f0) == ((rd_T113 l1 x5_1).f0)) = false := beq_eq_false_iff_ne.mpr c7
  have c7b1 : (((rd_T113 l0 x5_1).f0) != ((rd_T113 l1 x5_1).f0)) = true := bne_iff_ne.mpr c7
  obtain rfl := Option.some.inj H
  have p277 : 0 ≤ (x5_1 : Int) := dt_
  have q277 : x5_1 < (l0.length : Int) := dt_
  obtain ⟨ad277, A277_1, c277_1, e277, hx277_0, hx277_1, hl277_1, hi277_1⟩ := at_T113 HR0.out x5_1 p277 q277
  cases e277
  have HR277_1 := Q_ hi277_1
  have HC277_1 := Q_ hl277_1
  clear hi277_1 hl277_1
  replace p277 := eq_true p277
  replace q277 := eq_true q277
  have p278 : 0 ≤ (x5_1 : Int) := dt_
  have q278 : x5_1 < (l1.length : Int) := dt_
  obtain ⟨ad278, A278_1, c278_1, e278, hx278_0, hx278_1, hl278_1, hi278_1⟩ := at_T113 HR1.out x5_1 p278 q278
  cases e278
  have HR278_1 := Q_ hi278_1
  have HC278_1 := Q_ hl278_1
  clear hi278_1 hl278_1
  replace p278 := eq_true p278
  replace q278 := eq_true q278
  go_wp2
  repeat (go_quiet (fail); try go_wp2)
  go_ret
  exact ⟨by first | rfl | (simp; done) | (simp [*]; done), by repeat (first | exact Drawn0.refl _ | apply Drawn0.step)⟩
 rw [if_pos c7] at H
 have c7b0 : (((rd_T113 l0 x5_1).f0) == ((rd_T113 l1 x5_1).f0)) = true := beq_iff_eq.mpr c7
 have c7b1 : (((rd_T113 l0 x5_1).f0) != ((rd_T113 l1 x5_1).f0)) = false := bne_eq_false_iff_eq.mpr c7
 clear c7
 replace H := Option.bind_eq_some_iff.mp H
 obtain ⟨t281, A80, H⟩ := H
 (try dsimp only at H)
 have A8 := Q_ A80
 clear A80
 have HS_ := Q_ H
 clear H
 have p277 : 0 ≤ (x5_1 : Int) := dt_
 have q277 : x5_1 < (l0.length : Int) := dt_
 obtain ⟨ad277, A277_1, c277_1, e277, hx277_0, hx277_1, hl277_1, hi277_1⟩ := at_T113 HR0.out x5_1 p277 q277
 cases e277
 have HR277_1 := Q_ hi277_1
 have HC277_1 := Q_ hl277_1
 clear hi277_1 hl277_1
 replace p277 := eq_true p277
 replace q277 := eq_true q277
 have p278 : 0 ≤ (x5_1 : Int) := dt_
 have q278 : x5_1 < (l1.length : Int) := dt_
 obtain ⟨ad278, A278_1, c278_1, e278, hx278_0, hx278_1, hl278_1, hi278_1⟩ := at_T113 HR1.out x5_1 p278 q278
 cases e278
 have HR278_1 := Q_ hi278_1
 have HC278_1 := Q_ hl278_1
 clear hi278_1 hl278_1
 replace p278 := eq_true p278
 replace q278 := eq_true q278
 have p279 : 0 ≤ (x5_1 : Int) := dt_
 have q279 : x5_1 < (l0.length : Int) := dt_
 obtain ⟨ad279, A279_1, c279_1, e279, hx279_0, hx279_1, hl279_1, hi279_1⟩ := at_T113 HR0.out x5_1 p279 q279
 obtain rfl : ad277 = ad279 := (by injection e279)
 have HR279_1 := Q_ hi279_1
 have HC279_1 := Q_ hl279_1
 clear hi279_1 hl279_1
 replace p279 := eq_true p279
 replace q279 := eq_true q279
 have ea_ := Option.some.inj (hx277_1.symm.trans hx279_1)
 injection ea_ with ea_ en_ ec_
 subst ea_
 subst ec_
 clear en_
 have p280 : 0 ≤ (x5_1 : Int) := dt_
 have q280 : x5_1 < (l1.length : Int) := dt_
 obtain ⟨ad280, A280_1, c280_1, e280, hx280_0, hx280_1, hl280_1, hi280_1⟩ := at_T113 HR1.out x5_1 p280 q280
 obtain rfl : ad278 = ad280 := (by injection e280)
 have HR280_1 := Q_ hi280_1
 have HC280_1 := Q_ hl280_1
 clear hi280_1 hl280_1
 replace p280 := eq_true p280
 replace q280 := eq_true q280
 have ea_ := Option.some.inj (hx278_1.symm.trans hx280_1)
 injection ea_ with ea_ en_ ec_
 subst ea_
 subst ec_
 clear en_
 go_upto_if 41 with (first | (go_at_call 94; (with_reducible refine (spec_EqualInts.calls k1 _ _ ((rd_T113 l0 x5_1).f1) _ _ ((rd_T113 l1 x5_1).f1) t281 _ ?side1 ?side2 ?side3 ?side4 A8.out).mono ?_); (case side1 => exact pc_ HR279_1.out); (case side2 => exact HC279_1.out); (case side3 => exact pc_ HR280_1.out); (case side4 => exact HC280_1.out); rintro e w' ⟨rfl, ⟨nd, rfl⟩⟩; (try first | exact ⟨rfl, _, World.drewN_drewN _ _ _⟩ | exact ⟨rfl, _, Eq.trans (World.drewN_drewN _ _ _) (congrArg (World.drewN _) (Nat.add_assoc _ _ _))⟩)))
 repeat (go_quiet (first | (go_at_call 94; (with_reducible refine (spec_EqualInts.calls k1 _ _ ((rd_T113 l0 x5_1).f1) _ _ ((rd_T113 l1 x5_1).f1) t281 _ ?side1 ?side2 ?side3 ?side4 A8.out).mono ?_); (case side1 => exact pc_ HR279_1.out); (case side2 => exact HC279_1.out); (case side3 => exact pc_ HR280_1.out); (case side4 => exact HC280_1.out); rintro e w' ⟨rfl, ⟨nd, rfl⟩⟩; (try first | exact ⟨rfl, _, World.drewN_drewN _ _ _⟩ | exact ⟨rfl, _, Eq.trans (World.drewN_drewN _ _ _) (congrArg (World.drewN _) (Nat.add_assoc _ _ _))⟩))); go_upto_if 41 with (first | (go_at_call 94; (with_reducible refine (spec_EqualInts.calls k1 _ _ ((rd_T113 l0 x5_1).f1) _ _ ((rd_T113 l1 x5_1).f1) t281 _ ?side1 ?side2 ?side3 ?side4 A8.out).mono ?_); (case side1 => exact pc_ HR279_1.out); (case side2 => exact HC279_1.out); (case side3 => exact pc_ HR280_1.out); (case side4 => exact HC280_1.out); rintro e w' ⟨rfl, ⟨nd, rfl⟩⟩; (try first | exact ⟨rfl, _, World.drewN_drewN _ _ _⟩ | exact ⟨rfl, _, Eq.trans (World.drewN_drewN _ _ _) (congrArg (World.drewN _) (Nat.add_assoc _ _ _))⟩))))
 (try simp only [Act.put, List.setIfInBounds_toArray, List.set_cons_zero, List.set_cons_succ])
 have H := HS_.out
 clear HS_
 by_cases c9 : t281 = true
 rotate_left
 ·replace c9 := bf_ c9
  subst c9
  rw [if_neg ff_] at H
  obtain rfl := Option.some.inj H
  go_wp2
  repeat (go_quiet (fail); try go_wp2)
  go_ret
  exact ⟨by first | rfl | (simp; done) | (simp [*]; done), by repeat (first | exact Drawn0.refl _ | apply Drawn0.step)⟩
 subst c9
 rw [if_pos rfl] at H
 have H' := Q_ H
 clear H
 go_wp2
 repeat (go_quiet (fail); try go_wp2)
 go_roundg k1
 case measure => have := HK1.out; omega
 case rel => exact ⟨(wrap64 (x5_1 + 1)), el_, H', ⟨by have := HK1.out; omega⟩, by repeat (first | exact Drawn0.refl _ | apply Drawn0.step)⟩

/-! ### spec_EqualHellos: function 78 -/
def spec_EqualHellos.f (k : Nat) (l0_0 : List Int) (l0_1 : List (S113)) (l1_0 : List Int) (l1_1 : List (S113)) : Option (Bool) := (spec_EqualInts.f k l0_0 l1_0).bind fun t284 => (if t284 = true then ((spec_EqualExts.f k l0_1 l1_1).bind fun t285 => (some t285)) else (some false))
theorem spec_EqualHellos.mono : ∀ a0 a1 a2 a3 k, LeO (spec_EqualHellos.f k a0 a1 a2 a3) (spec_EqualHellos.f (k + 1) a0 a1 a2 a3) := by
 intro a0 a1 a2 a3 k
 unfold spec_EqualHellos.f
 exact mo2_ spec_EqualExts.mono spec_EqualInts.mono
theorem spec_EqualHellos.calls (k : Nat) (A0_0 : Option Addr) (c0_0 : Nat) (l0_0 : List Int) (A0_1 : Option Addr) (c0_1 : Nat) (l0_1 : List (S113)) (A1_0 : Option Addr) (c1_0 : Nat) (l1_0 : List Int) (A1_1 : Option Addr) (c1_1 : Nat) (l1_1 : List (S113)) (r : Bool) (w : World) (hr0_0 : Kd.C (Kd.int .i64) w A0_0 l0_0.length l0_0) (hc0_0 : l0_0.length ≤ c0_0) (hr0_1 : Kd.C k113 w A0_1 l0_1.length l0_1) (hc0_1 : l0_1.length ≤ c0_1) (hr1_0 : Kd.C (Kd.int .i64) w A1_0 l1_0.length l1_0) (hc1_0 : l1_0.length ≤ c1_0) (hr1_1 : Kd.C k113 w A1_1 l1_1.length l1_1) (hc1_1 : l1_1.length ≤ c1_1) (h : spec_EqualHellos.f k l0_0 l0_1 l1_0 l1_1 = some r) :
  Calls Try.prog 78 #[.agg #[.slice A0_0 l0_0.length c0_0, .slice A0_1 l0_1.length c0_1], .agg #[.slice A1_0 l1_0.length c1_0, .slice A1_1 l1_1.length c1_1]] w fun e w' => e = .returned (.bool r) ∧ Below w.heap.size w w' := by
 have hu71 := Try.underlying71
 have HR0_0 := Q_ hr0_0
 have HC0_0 := Q_ hc0_0
 clear hr0_0 hc0_0
 have HR0_1 := Q_ hr0_1
 have HC0_1 := Q_ hc0_1
 clear hr0_1 hc0_1
 have HR1_0 := Q_ hr1_0
 have HC1_0 := Q_ hc1_0
 clear hr1_0 hc1_0
 have HR1_1 := Q_ hr1_1
 have HC1_1 := Q_ hc1_1
 clear hr1_1 hc1_1
 have HB := Q_ (Below.refl w.heap.size w)
 have H : ((spec_EqualInts.f k l0_0 l1_0).bind fun t284 => (if t284 = true then ((spec_EqualExts.f k l0_1 l1_1).bind fun t285 => (some t285)) else (some false))) = some r := h
 clear h
 have HS_ := Q_ H
 clear H
 go_enter Try.func78, Try.ntmps78
 go_upto_region 1 with (first | ((with_reducible refine gate_dst (N := 2) rfl ?_); refine box_event ?hg (N := 2) ?hd (cs := #[.slice A0_0 l0_0.length c0_0, .slice A0_1 l0_1.length c0_1]) (t := 71) ?hr ?_; (case hd => rfl); (case hg => rfl); (case hr => first | (go_simp; done) | (go_simp; rfl)); intro gb282 hg w3 hbox hb; have _ := Q_ (below_step (pb_ HB.out) hb); have BK282 := Q_ (hbox); have GW282 := Q_ ((by rw [hg]; exact (below_size (pb_ HB.out)) : w.heap.size ≤ gb282)); have GE282 := GW282; clear HB; rename_i HB; clear hb hbox hg) | ((with_reducible refine gate_dst (N := 3) rfl ?_); refine box_event ?hg (N := 3) ?hd (cs := #[.slice A1_0 l1_0.length c1_0, .slice A1_1 l1_1.length c1_1]) (t := 71) ?hr ?_; (case hd => rfl); (case hg => rfl); (case hr => first | (go_simp; done) | (go_simp; rfl)); intro gb283 hg w4 hbox hb; have _ := Q_ (bb_ BK282.out hb); have _ := Q_ (below_step (pb1_ HB.out GE282.out) hb); have BK283 := Q_ (hbox); have GW283 := Q_ ((by rw [hg]; exact (below_size (pb1_ HB.out GE282.out)) : w.heap.size ≤ gb283)); have GE283 := GW283; have NB282_283 := Q_ ((by rw [hg]; exact Nat.ne_of_lt (blk_lt (pk_ BK282.out)) : gb282 ≠ gb283)); have NB283_282 := Q_ NB282_283.out.symm; clear BK282 HB; rename_i BK282 HB; clear hb hbox hg))
 (try simp only [Act.put, List.setIfInBounds_toArray, List.set_cons_zero, List.set_cons_succ])
 have H := HS_.out
 clear HS_
 replace H := Option.bind_eq_some_iff.mp H
 obtain ⟨t284, A50, H⟩ := H
 (try dsimp only at H)
 have A5 := Q_ A50
 clear A50
 by_cases c6 : t284 = true
 rotate_left
 ·replace c6 := bf_ c6
  subst c6
  rw [if_neg ff_] at H
  obtain rfl := Option.some.inj H
  have hnb7 := NB282_283.out
  have hnc7 := NB283_282.out
  have hcz8 := bc2_ BK282.out
  have hcz9 := bc2_ BK283.out
  go_wp2_with (first | ((with_reducible refine gate_callee (f := 94) rfl ?_); refine gl_ (some 9) Try.func94 #[.slice A0_0 l0_0.length c0_0, .slice A1_0 l1_0.length c1_0] ?_; (with_reducible refine (spec_EqualInts.calls k _ _ l0_0 _ _ l1_0 false _ ?side1 ?side2 ?side3 ?side4 A5.out).mono ?_); (case side1 => exact cb_ HR0_0 HB); (case side2 => exact HC0_0.out); (case side3 => exact cb_ HR1_0 HB); (case side4 => exact HC1_0.out); rintro e w' ⟨rfl, ⟨nd, rfl⟩⟩; refine ⟨_, rfl, ?_⟩))
  go_ret
  exact ⟨er_, pb2_ HB.out GE282.out GE283.out⟩
 subst c6
 rw [if_pos rfl] at H
 replace H := Option.bind_eq_some_iff.mp H
 obtain ⟨t285, A100, H⟩ := H
 replace H : (some t285) = some r := H
 have A10 := Q_ A100
 clear A100
 obtain rfl := Option.some.inj H
 have hnb11 := NB282_283.out
 have hnc11 := NB283_282.out
 have hcz12 := bc2_ BK282.out
 have hcz13 := bc2_ BK283.out
 go_wp2_with (first | ((with_reducible refine gate_callee (f := 94) rfl ?_); refine gl_ (some 9) Try.func94 #[.slice A0_0 l0_0.length c0_0, .slice A1_0 l1_0.length c1_0] ?_; (with_reducible refine (spec_EqualInts.calls k _ _ l0_0 _ _ l1_0 true _ ?side1 ?side2 ?side3 ?side4 A5.out).mono ?_); (case side1 => exact cb_ HR0_0 HB); (case side2 => exact HC0_0.out); (case side3 => exact cb_ HR1_0 HB); (case side4 => exact HC1_0.out); rintro e w' ⟨rfl, ⟨nd, rfl⟩⟩; refine ⟨_, rfl, ?_⟩) | (go_at_call 95; (with_reducible refine (spec_EqualExts.calls k _ _ l0_1 _ _ l1_1 t285 _ ?side1 ?side2 ?side3 ?side4 A10.out).mono ?_); (case side1 => exact pc_ (Kd.C_below HR0_1.out (pb2_ HB.out GE282.out GE283.out))); (case side2 => exact HC0_1.out); (case side3 => exact pc_ (Kd.C_below HR1_1.out (pb2_ HB.out GE282.out GE283.out))); (case side4 => exact HC1_1.out); rintro e w' ⟨rfl, ⟨nd, rfl⟩⟩))
 go_ret
 exact ⟨er_, pb2_ HB.out GE282.out GE283.out⟩

/-! ### spec_PassesWhole: function 60 -/
def spec_PassesWhole.f (k : Nat) (l0_0 : List Int) (l0_1 : List (S113)) (l1 : List (S89)) : Option (Bool) := (spec_PassPath.f k l1 l0_0 l0_1).bind fun bt287 => (if bt287.2.2 = true then ((spec_EqualHellos.f k bt287.1 bt287.2.1 l0_0 l0_1).bind fun t295 => (some t295)) else (some false))
theorem spec_PassesWhole.mono : ∀ a0 a1 a2 k, LeO (spec_PassesWhole.f k a0 a1 a2) (spec_PassesWhole.f (k + 1) a0 a1 a2) := by
 intro a0 a1 a2 k
 unfold spec_PassesWhole.f
 exact mo2_ spec_EqualHellos.mono spec_PassPath.mono
theorem spec_PassesWhole.calls (k : Nat) (A0_0 : Option Addr) (c0_0 : Nat) (l0_0 : List Int) (A0_1 : Option Addr) (c0_1 : Nat) (l0_1 : List (S113)) (A1 : Option Addr) (c1 : Nat) (l1 : List (S89)) (r : Bool) (w : World) (hr0_0 : Kd.C (Kd.int .i64) w A0_0 l0_0.length l0_0) (hc0_0 : l0_0.length ≤ c0_0) (hr0_1 : Kd.C k113 w A0_1 l0_1.length l0_1) (hc0_1 : l0_1.length ≤ c0_1) (hr1 : Kd.C k89 w A1 l1.length l1) (hc1 : l1.length ≤ c1) (h : spec_PassesWhole.f k l0_0 l0_1 l1 = some r) :
  Calls Try.prog 60 #[.agg #[.slice A0_0 l0_0.length c0_0, .slice A0_1 l0_1.length c0_1], .slice A1 l1.length c1] w fun e w' => e = .returned (.bool r) ∧ Below w.heap.size w w' := by
 have hu71 := Try.underlying71
 have HR0_0 := Q_ hr0_0
 have HC0_0 := Q_ hc0_0
 clear hr0_0 hc0_0
 have HR0_1 := Q_ hr0_1
 have HC0_1 := Q_ hc0_1
 clear hr0_1 hc0_1
 have HR1 := Q_ hr1
 have HC1 := Q_ hc1
 clear hr1 hc1
 have HB := Q_ (Below.refl w.heap.size w)
 have H : ((spec_PassPath.f k l1 l0_0 l0_1).bind fun bt287 => (if bt287.2.2 = true then ((spec_EqualHellos.f k bt287.1 bt287.2.1 l0_0 l0_1).bind fun t295 => (some t295)) else (some false))) = some r := h
 clear h
 have HS_ := Q_ H
 clear H
 go_enter Try.func60, Try.ntmps60
 go_upto_region 1 with (first | ((with_reducible refine gate_dst (N := 2) rfl ?_); refine box_event ?hg (N := 2) ?hd (cs := #[.slice A0_0 l0_0.length c0_0, .slice A0_1 l0_1.length c0_1]) (t := 71) ?hr ?_; (case hd => rfl); (case hg => rfl); (case hr => first | (go_simp; done) | (go_simp; rfl)); intro gb286 hg w3 hbox hb; have _ := Q_ (below_step (pb_ HB.out) hb); have BK286 := Q_ (hbox); have GW286 := Q_ ((by rw [hg]; exact (below_size (pb_ HB.out)) : w.heap.size ≤ gb286)); have GE286 := GW286; clear HB; rename_i HB; clear hb hbox hg))
 (try simp only [Act.put, List.setIfInBounds_toArray, List.set_cons_zero, List.set_cons_succ])
 have H := HS_.out
 clear HS_
 replace H := Option.bind_eq_some_iff.mp H
 obtain ⟨⟨t287, t290, t293⟩, A40, H⟩ := H
 (try dsimp only at H)
 have A4 := Q_ A40
 clear A40
 have HS_ := Q_ H
 clear H
 have hcz5 := bc2_ BK286.out
 go_upto_region 2 with (first | ((with_reducible refine gate_callee (f := 63) rfl ?_); refine gl_ (some 10) Try.func63 #[.slice A1 l1.length c1, .agg #[.slice A0_0 l0_0.length c0_0, .slice A0_1 l0_1.length c0_1]] ?_; (with_reducible refine (spec_PassPath.calls k _ _ l1 _ _ l0_0 _ _ l0_1 t287 t290 t293 _ ?side1 ?side2 ?side3 ?side4 ?side5 ?side6 A4.out).mono ?_); (case side1 => exact cb_ HR1 HB); (case side2 => exact HC1.out); (case side3 => exact cb_ HR0_0 HB); (case side4 => exact HC0_0.out); (case side5 => exact cb_ HR0_1 HB); (case side6 => exact HC0_1.out); rintro e w6 ⟨v288, v291, rfl, ho0, ho1, hb⟩; refine ⟨_, rfl, ?_⟩; have _ := Q_ (Kd.R_lower ho0 (below_size (pb1_ HB.out GE286.out))); have _ := Q_ (Kd.S_lower ho1 (below_size (pb1_ HB.out GE286.out))); have _ := Q_ (bb_ BK286.out hb); have _ := Q_ (below_step (pb1_ HB.out GE286.out) hb); clear BK286 HB; rename_i HO289 HO292 BK286 HB; (try clear hb); (try clear hb2); (try clear hk); (try clear hi); (try clear ho0); (try clear ho1)) | ((with_reducible refine gate_dst (N := 5) rfl ?_); refine box_event ?hg (N := 5) ?hd (cs := #[.slice none 0 0, .slice none 0 0]) (t := 71) ?hr ?_; (case hd => rfl); (case hg => rfl); (case hr => first | (go_simp; done) | (go_simp; rfl)); intro gb294 hg w7 hbox hb; have _ := Q_ (Kd.R_below (pr_ HO289.out) hb); have _ := Q_ (Kd.S_below (ps_ HO292.out) hb); have _ := Q_ (bb_ BK286.out hb); have _ := Q_ (below_step (pb1_ HB.out GE286.out) hb); have BK294 := Q_ (hbox); have GW294 := Q_ ((by rw [hg]; exact (below_size (pb1_ HB.out GE286.out)) : w.heap.size ≤ gb294)); have GE294 := GW294; have NB286_294 := Q_ ((by rw [hg]; exact Nat.ne_of_lt (blk_lt (pk_ BK286.out)) : gb286 ≠ gb294)); have NB294_286 := Q_ NB286_294.out.symm; clear HO289 HO292 BK286 HB; rename_i HO289 HO292 BK286 HB; clear hb hbox hg; obtain ⟨Ao8, co8, eo8⟩ := Kd.R_slice HO289.out; subst eo8; have hnb9 := NB294_286.out; have hnc9 := NB286_294.out; have hcz10 := bc2_ BK294.out; obtain ⟨Ao11, co11, eo11⟩ := Kd.S_slice HO292.out; subst eo11))
 (try simp only [Act.put, List.setIfInBounds_toArray, List.set_cons_zero, List.set_cons_succ])
 have H := HS_.out
 clear HS_
 by_cases c12 : t293 = true
 rotate_left
 ·replace c12 := bf_ c12
  subst c12
  rw [if_neg ff_] at H
  obtain rfl := Option.some.inj H
  go_wp2
  go_ret
  exact ⟨er_, pb2_ HB.out GE286.out GE294.out⟩
 subst c12
 rw [if_pos rfl] at H
 replace H := Option.bind_eq_some_iff.mp H
 obtain ⟨t295, A130, H⟩ := H
 replace H : (some t295) = some r := H
 have A13 := Q_ A130
 clear A130
 obtain rfl := Option.some.inj H
 have hnb14 := NB294_286.out
 have hnc14 := NB286_294.out
 have hcz15 := bc2_ BK294.out
 have hcz16 := bc2_ BK286.out
 go_wp2_with (first | (go_at_call 78; (with_reducible refine (spec_EqualHellos.calls k _ _ t287 _ _ t290 _ _ l0_0 _ _ l0_1 t295 _ ?side1 ?side2 ?side3 ?side4 ?side5 ?side6 ?side7 ?side8 A13.out).mono ?_); (case side1 => refine (Kd.R_reads' (e := 3) (base := w.heap.size) (ok := fun k_ => True) (n := t287.length) (c := co8) ?_).2.2; exact (pr_ (rf2_ HO289.out BK294.out))); (case side2 => exact (Kd.R_reads' HO289.out).2.1); (case side3 => refine (Kd.S_reads' (e := 113) (base := w.heap.size) (ok := fun k_ => some k_ ≠ (.slice Ao8 t287.length co8 : Value).ownBlock) (n := t290.length) (c := co11) ?_).2.2; exact (ps_ (sf2_ HO292.out BK294.out))); (case side4 => exact (Kd.S_reads' HO292.out).2.1); (case side5 => exact Kd.C_below HR0_0.out (pb2_ HB.out GE286.out GE294.out)); (case side6 => exact HC0_0.out); (case side7 => exact Kd.C_below HR0_1.out (pb2_ HB.out GE286.out GE294.out)); (case side8 => exact HC0_1.out); rintro e w17 ⟨rfl, hb⟩; have _ := Q_ (Kd.R_below (pr_ (rf2_ HO289.out BK294.out)) hb); have _ := Q_ (Kd.S_below (ps_ (sf2_ HO292.out BK294.out)) hb); have _ := Q_ (blk_below (g := gb286) (o := .cells #[.slice A0_0 l0_0.length c0_0, .slice A0_1 l0_1.length c0_1] 71 (0, 0)) (pp_ BK286.out) hb); have _ := Q_ (blk_below (g := gb294) (o := .cells #[.slice Ao8 t287.length co8, .slice Ao11 t290.length co11] 71 (0, 0)) (pp_ BK294.out) hb); have _ := Q_ (below_step (pb2_ HB.out GE286.out GE294.out) hb); clear HO289 HO292 BK286 BK294 HB; rename_i HO289 HO292 BK286 BK294 HB; (try clear hb); (try clear hb2); (try clear hk); (try clear hi)))
 go_ret
 exact ⟨er_, pb2_ HB.out GE286.out GE294.out⟩

end Go.Proofs.Ytlcpaebidnaolaa.Print
