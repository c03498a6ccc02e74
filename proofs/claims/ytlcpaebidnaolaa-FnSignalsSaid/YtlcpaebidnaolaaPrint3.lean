-- Written by a program of this session (printx.py) out of the translation; Lean checks it.
import Derived.Test.YtlcpaebidnaolaaPrint0
import Derived.Test.YtlcpaebidnaolaaPrint2
namespace Go.Proofs.Ytlcpaebidnaolaa.Print
open Go.RowKit Go.Proofs.YtlcpaebidnaolaaW.PrintWords Go.Proofs.YtlcpaebidnaolaaW.PrintLast Go.Proofs.YtlcpaebidnaolaaW.PrintMore Go.Proofs.Ytlcpaebidnaolaa.Short
attribute [local go_sem] max2_int min2_int max_two min_two max_three min_three max_four min_four   -- for this text's walks alone
set_option linter.unusedVariables false
set_option maxHeartbeats 8000000
set_option maxRecDepth 100000
set_option linter.unusedSimpArgs false

/-! ### spec_AreExts: function 77 -/
def spec_AreExts.l0 : Nat → List (S113) → Int → Option (Bool)
 | 0, _, _ => none
 | k + 1, x0, x3 => if x3 < (x0.length : Int) then (if 0 ≤ x3 then ((spec_l1In.f ((rd_T113 x0 x3).f0) 0 255).bind fun t175 => (if t175 = true then (if (((rd_T113 x0 x3).f1).length : Int) > 4 then (some false) else ((spec_l9Byte.f k ((rd_T113 x0 x3).f1)).bind fun t178 => (if t178 = true then ((spec_ExtOf.f k x0 ((rd_T113 x0 x3).f0)).bind fun t180 => (if t180 < x3 then (some false) else (spec_AreExts.l0 k x0 (wrap64 (x3 + 1))))) else (some false)))) else (some false))) else (none)) else (some (decide ((x0.length : Int) ≤ 6)))
def spec_AreExts.f (k : Nat) (l0 : List (S113)) : Option (Bool) := spec_AreExts.l0 k l0 0
theorem spec_AreExts.mono_l : ∀ k, (∀ y0 y1, LeO (spec_AreExts.l0 k y0 y1) (spec_AreExts.l0 (k + 1) y0 y1))
 | 0 => fun _ _ r h => by simp [spec_AreExts.l0] at h
 | k + 1 => by
  have ih0 := spec_AreExts.mono_l k
  ·intro y0 y1
   unfold spec_AreExts.l0
   exact mo3_ ih0 spec_ExtOf.mono spec_l9Byte.mono
theorem spec_AreExts.mono : ∀ a0 k, LeO (spec_AreExts.f k a0) (spec_AreExts.f (k + 1) a0) := by
 intro a0 k
 have ih0 := spec_AreExts.mono_l k
 unfold spec_AreExts.f
 exact mo3_ ih0 spec_ExtOf.mono spec_l9Byte.mono
theorem spec_AreExts.calls (k : Nat) (A0 : Option Addr) (c0 : Nat) (l0 : List (S113)) (r : Bool) (w : World) (hr0 : Kd.C k113 w A0 l0.length l0) (hc0 : l0.length ≤ c0) (h : spec_AreExts.f k l0 = some r) :
  Calls Try.prog 77 #[.slice A0 l0.length c0] w fun e w' => e = .returned (.bool r) ∧ Drawn0 w w' := by
 have HR0 := Q_ hr0
 have HC0 := Q_ hc0
 clear hr0 hc0
 have H : (spec_AreExts.l0 k l0 0) = some r := h
 clear h
 have H' := Q_ H
 clear H
 go_enter Try.func77, Try.ntmps77
 go_wp2
 go_loopg [3] k (fun kq v3 w' => ∃ (x3_1 : Int), v3 = .int .i64 x3_1 ∧ Aside0 (spec_AreExts.l0 kq l0 x3_1 = some r) ∧ Aside0 (kq ≤ k) ∧ Drawn0 w w')
 case atStart => exact ⟨(0), el_, H', ⟨Nat.le_refl _⟩, by repeat (first | exact Drawn0.refl _ | apply Drawn0.step)⟩
 clear H'
 obtain ⟨x3_1, rfl, HA, HK1, ⟨m1, rfl⟩⟩ := hrel
 rcases gk with _ | k1
 ·exact absurd HA.out (by simp [spec_AreExts.l0])
 have H := HA.out
 clear HA
 simp only [spec_AreExts.l0] at H
 by_cases c2 : x3_1 < (l0.length : Int)
 rotate_left
 ·rw [if_neg c2] at H
  have c2b0 : decide (x3_1 < (l0.length : Int)) = false := decide_eq_false c2
  clear c2
  obtain rfl := Option.some.inj H
  go_wp2
  go_ret
  exact ⟨by first | rfl | (simp; done) | (simp [*]; done), by repeat (first | exact Drawn0.refl _ | apply Drawn0.step)⟩
 rw [if_pos c2] at H
 have c2b0 : decide (x3_1 < (l0.length : Int)) = true := decide_eq_true c2
 clear c2
 by_cases c3 : 0 ≤ x3_1
 rotate_left
 ·rw [if_neg c3] at H
  exact absurd H (by simp)
 rw [if_pos c3] at H
 have c3b0 : decide (0 ≤ x3_1) = true := decide_eq_true c3
 clear c3
 replace H := Option.bind_eq_some_iff.mp H
 obtain ⟨t175, A40, H⟩ := H
 (try dsimp only at H)
 have A4 := Q_ A40
 clear A40
 by_cases c5 : t175 = true
 rotate_left
 ·replace c5 := bf_ c5
  subst c5
  rw [if_neg ff_] at H
  obtain rfl := Option.some.inj H
  have p174 : 0 ≤ (x3_1 : Int) := dt_
  have q174 : x3_1 < (l0.length : Int) := dt_
  obtain ⟨ad174, A174_1, c174_1, e174, hx174_0, hx174_1, hl174_1, hi174_1⟩ := at_T113 HR0.out x3_1 p174 q174
  cases e174
  have HR174_1 := Q_ hi174_1
  have HC174_1 := Q_ hl174_1
  clear hi174_1 hl174_1
  replace p174 := eq_true p174
  replace q174 := eq_true q174
  go_wp2_with (first | ((with_reducible refine gate_callee (f := 72) rfl ?_); refine gl_ (some 15) Try.func72 #[.int .i64 ((rd_T113 l0 x3_1).f0), .int .i64 0, .int .i64 255] ?_; (with_reducible refine (spec_l1In.calls ((rd_T113 l0 x3_1).f0) 0 255 false _ A4.out).mono ?_); rintro e w' ⟨rfl, ⟨nd, rfl⟩⟩; refine ⟨_, rfl, ?_⟩))
  go_ret
  exact ⟨by first | rfl | (simp; done) | (simp [*]; done), by repeat (first | exact Drawn0.refl _ | apply Drawn0.step)⟩
 subst c5
 rw [if_pos rfl] at H
 by_cases c6 : (((rd_T113 l0 x3_1).f1).length : Int) > 4
 ·rw [if_pos c6] at H
  have c6b0 : decide (4 < (((rd_T113 l0 x3_1).f1).length : Int)) = true := decide_eq_true c6
  have c6b1 : decide (4 < ((rd_T113 l0 x3_1).f1).length) = true := decide_eq_true (by omega)
  clear c6
  obtain rfl := Option.some.inj H
  have p174 : 0 ≤ (x3_1 : Int) := dt_
  have q174 : x3_1 < (l0.length : Int) := dt_
  obtain ⟨ad174, A174_1, c174_1, e174, hx174_0, hx174_1, hl174_1, hi174_1⟩ := at_T113 HR0.out x3_1 p174 q174
  cases e174
  have HR174_1 := Q_ hi174_1
  have HC174_1 := Q_ hl174_1
  clear hi174_1 hl174_1
  replace p174 := eq_true p174
  replace q174 := eq_true q174
  go_wp2_with (first | ((with_reducible refine gate_callee (f := 72) rfl ?_); refine gl_ (some 15) Try.func72 #[.int .i64 ((rd_T113 l0 x3_1).f0), .int .i64 0, .int .i64 255] ?_; (with_reducible refine (spec_l1In.calls ((rd_T113 l0 x3_1).f0) 0 255 true _ A4.out).mono ?_); rintro e w' ⟨rfl, ⟨nd, rfl⟩⟩; refine ⟨_, rfl, ?_⟩; have p176 : 0 ≤ (x3_1 : Int) := dt_; have q176 : x3_1 < (l0.length : Int) := dt_; obtain ⟨ad176, A176_1, c176_1, e176, hx176_0, hx176_1, hl176_1, hi176_1⟩ := at_T113 HR0.out x3_1 p176 q176; obtain rfl : ad174 = ad176 := (by injection e176); have HR176_1 := Q_ hi176_1; have HC176_1 := Q_ hl176_1; clear hi176_1 hl176_1; replace p176 := eq_true p176; replace q176 := eq_true q176; have ea_ := Option.some.inj (hx174_1.symm.trans hx176_1); injection ea_ with ea_ en_ ec_; subst ea_; subst ec_; clear en_))
  go_ret
  exact ⟨by first | rfl | (simp; done) | (simp [*]; done), by repeat (first | exact Drawn0.refl _ | apply Drawn0.step)⟩
 rw [if_neg c6] at H
 have c6b0 : decide (4 < (((rd_T113 l0 x3_1).f1).length : Int)) = false := decide_eq_false c6
 have c6b1 : decide (4 < ((rd_T113 l0 x3_1).f1).length) = false := decide_eq_false (by omega)
 clear c6
 replace H := Option.bind_eq_some_iff.mp H
 obtain ⟨t178, A70, H⟩ := H
 (try dsimp only at H)
 have A7 := Q_ A70
 clear A70
 by_cases c8 : t178 = true
 rotate_left
 ·replace c8 := bf_ c8
  subst c8
  rw [if_neg ff_] at H
  obtain rfl := Option.some.inj H
  have p174 : 0 ≤ (x3_1 : Int) := dt_
  have q174 : x3_1 < (l0.length : Int) := dt_
  obtain ⟨ad174, A174_1, c174_1, e174, hx174_0, hx174_1, hl174_1, hi174_1⟩ := at_T113 HR0.out x3_1 p174 q174
  cases e174
  have HR174_1 := Q_ hi174_1
  have HC174_1 := Q_ hl174_1
  clear hi174_1 hl174_1
  replace p174 := eq_true p174
  replace q174 := eq_true q174
  go_wp2_with (first | ((with_reducible refine gate_callee (f := 72) rfl ?_); refine gl_ (some 15) Try.func72 #[.int .i64 ((rd_T113 l0 x3_1).f0), .int .i64 0, .int .i64 255] ?_; (with_reducible refine (spec_l1In.calls ((rd_T113 l0 x3_1).f0) 0 255 true _ A4.out).mono ?_); rintro e w' ⟨rfl, ⟨nd, rfl⟩⟩; refine ⟨_, rfl, ?_⟩; have p176 : 0 ≤ (x3_1 : Int) := dt_; have q176 : x3_1 < (l0.length : Int) := dt_; obtain ⟨ad176, A176_1, c176_1, e176, hx176_0, hx176_1, hl176_1, hi176_1⟩ := at_T113 HR0.out x3_1 p176 q176; obtain rfl : ad174 = ad176 := (by injection e176); have HR176_1 := Q_ hi176_1; have HC176_1 := Q_ hl176_1; clear hi176_1 hl176_1; replace p176 := eq_true p176; replace q176 := eq_true q176; have ea_ := Option.some.inj (hx174_1.symm.trans hx176_1); injection ea_ with ea_ en_ ec_; subst ea_; subst ec_; clear en_; have p177 : 0 ≤ (x3_1 : Int) := dt_; have q177 : x3_1 < (l0.length : Int) := dt_; obtain ⟨ad177, A177_1, c177_1, e177, hx177_0, hx177_1, hl177_1, hi177_1⟩ := at_T113 HR0.out x3_1 p177 q177; obtain rfl : ad174 = ad177 := (by injection e177); have HR177_1 := Q_ hi177_1; have HC177_1 := Q_ hl177_1; clear hi177_1 hl177_1; replace p177 := eq_true p177; replace q177 := eq_true q177; have ea_ := Option.some.inj (hx174_1.symm.trans hx177_1); injection ea_ with ea_ en_ ec_; subst ea_; subst ec_; clear en_) | (go_at_call 93; (with_reducible refine (spec_l9Byte.calls k1 _ _ ((rd_T113 l0 x3_1).f1) false _ ?side1 ?side2 A7.out).mono ?_); (case side1 => exact pc_ HR177_1.out); (case side2 => exact HC177_1.out); rintro e w' ⟨rfl, ⟨nd, rfl⟩⟩))
  go_ret
  exact ⟨by first | rfl | (simp; done) | (simp [*]; done), by repeat (first | exact Drawn0.refl _ | apply Drawn0.step)⟩
 subst c8
 rw [if_pos rfl] at H
 replace H := Option.bind_eq_some_iff.mp H
 obtain ⟨t180, A90, H⟩ := H
 (try dsimp only at H)
 have A9 := Q_ A90
 clear A90
 have HS_ := Q_ H
 clear H
 have p174 : 0 ≤ (x3_1 : Int) := dt_
 have q174 : x3_1 < (l0.length : Int) := dt_
 obtain ⟨ad174, A174_1, c174_1, e174, hx174_0, hx174_1, hl174_1, hi174_1⟩ := at_T113 HR0.out x3_1 p174 q174
 cases e174
 have HR174_1 := Q_ hi174_1
 have HC174_1 := Q_ hl174_1
 clear hi174_1 hl174_1
 replace p174 := eq_true p174
 replace q174 := eq_true q174
 go_upto_if 45 with (first | ((with_reducible refine gate_callee (f := 72) rfl ?_); refine gl_ (some 15) Try.func72 #[.int .i64 ((rd_T113 l0 x3_1).f0), .int .i64 0, .int .i64 255] ?_; (with_reducible refine (spec_l1In.calls ((rd_T113 l0 x3_1).f0) 0 255 true _ A4.out).mono ?_); rintro e w' ⟨rfl, ⟨nd, rfl⟩⟩; refine ⟨_, rfl, ?_⟩; have p176 : 0 ≤ (x3_1 : Int) := dt_; have q176 : x3_1 < (l0.length : Int) := dt_; obtain ⟨ad176, A176_1, c176_1, e176, hx176_0, hx176_1, hl176_1, hi176_1⟩ := at_T113 HR0.out x3_1 p176 q176; obtain rfl : ad174 = ad176 := (by injection e176); have HR176_1 := Q_ hi176_1; have HC176_1 := Q_ hl176_1; clear hi176_1 hl176_1; replace p176 := eq_true p176; replace q176 := eq_true q176; have ea_ := Option.some.inj (hx174_1.symm.trans hx176_1); injection ea_ with ea_ en_ ec_; subst ea_; subst ec_; clear en_; have p177 : 0 ≤ (x3_1 : Int) := dt_; have q177 : x3_1 < (l0.length : Int) := dt_; obtain ⟨ad177, A177_1, c177_1, e177, hx177_0, hx177_1, hl177_1, hi177_1⟩ := at_T113 HR0.out x3_1 p177 q177; obtain rfl : ad174 = ad177 := (by injection e177); have HR177_1 := Q_ hi177_1; have HC177_1 := Q_ hl177_1; clear hi177_1 hl177_1; replace p177 := eq_true p177; replace q177 := eq_true q177; have ea_ := Option.some.inj (hx174_1.symm.trans hx177_1); injection ea_ with ea_ en_ ec_; subst ea_; subst ec_; clear en_) | (go_at_call 93; (with_reducible refine (spec_l9Byte.calls k1 _ _ ((rd_T113 l0 x3_1).f1) true _ ?side1 ?side2 A7.out).mono ?_); (case side1 => exact pc_ HR177_1.out); (case side2 => exact HC177_1.out); rintro e w' ⟨rfl, ⟨nd, rfl⟩⟩; have p179 : 0 ≤ (x3_1 : Int) := dt_; have q179 : x3_1 < (l0.length : Int) := dt_; obtain ⟨ad179, A179_1, c179_1, e179, hx179_0, hx179_1, hl179_1, hi179_1⟩ := at_T113 HR0.out x3_1 p179 q179; obtain rfl : ad174 = ad179 := (by injection e179); have HR179_1 := Q_ hi179_1; have HC179_1 := Q_ hl179_1; clear hi179_1 hl179_1; replace p179 := eq_true p179; replace q179 := eq_true q179; have ea_ := Option.some.inj (hx174_1.symm.trans hx179_1); injection ea_ with ea_ en_ ec_; subst ea_; subst ec_; clear en_) | (go_at_call 71; (with_reducible refine (spec_ExtOf.calls k1 _ _ l0 ((rd_T113 l0 x3_1).f0) t180 _ ?side1 ?side2 A9.out).mono ?_); (case side1 => exact pc_ HR0.out); (case side2 => exact HC0.out); rintro e w' ⟨rfl, ⟨nd, rfl⟩⟩))
 (try simp only [Act.put, List.setIfInBounds_toArray, List.set_cons_zero, List.set_cons_succ])
 have H := HS_.out
 clear HS_
 by_cases c10 : t180 < x3_1
 rotate_left
 ·rw [if_neg c10] at H
  have c10b0 : decide (t180 < x3_1) = false := decide_eq_false c10
  clear c10
  (first | rw [c10b0] | (simp only [i64_w, i32_w]; rw [c10b0]) | skip)
  have H' := Q_ H
  clear H
  go_wp2
  go_roundg k1
  case measure => have := HK1.out; omega
  case rel => exact ⟨(wrap64 (x3_1 + 1)), el_, H', ⟨by have := HK1.out; omega⟩, by repeat (first | exact Drawn0.refl _ | apply Drawn0.step)⟩
 rw [if_pos c10] at H
 have c10b0 : decide (t180 < x3_1) = true := decide_eq_true c10
 clear c10
 (first | rw [c10b0] | (simp only [i64_w, i32_w]; rw [c10b0]) | skip)
 obtain rfl := Option.some.inj H
 go_wp2
 go_ret
 exact ⟨by first | rfl | (simp; done) | (simp [*]; done), by repeat (first | exact Drawn0.refl _ | apply Drawn0.step)⟩

/-! ### spec_IsHello: function 59 -/
def spec_IsHello.f (k : Nat) (l0_0 : List Int) (l0_1 : List (S113)) : Option (Bool) := (spec_AreVersions.f k l0_0).bind fun t182 => (if t182 = true then ((spec_AreExts.f k l0_1).bind fun t183 => (some t183)) else (some false))
theorem spec_IsHello.mono : ∀ a0 a1 k, LeO (spec_IsHello.f k a0 a1) (spec_IsHello.f (k + 1) a0 a1) := by
 intro a0 a1 k
 unfold spec_IsHello.f
 exact mo2_ spec_AreExts.mono spec_AreVersions.mono
theorem spec_IsHello.calls (k : Nat) (A0_0 : Option Addr) (c0_0 : Nat) (l0_0 : List Int) (A0_1 : Option Addr) (c0_1 : Nat) (l0_1 : List (S113)) (r : Bool) (w : World) (hr0_0 : Kd.C (Kd.int .i64) w A0_0 l0_0.length l0_0) (hc0_0 : l0_0.length ≤ c0_0) (hr0_1 : Kd.C k113 w A0_1 l0_1.length l0_1) (hc0_1 : l0_1.length ≤ c0_1) (h : spec_IsHello.f k l0_0 l0_1 = some r) :
  Calls Try.prog 59 #[.agg #[.slice A0_0 l0_0.length c0_0, .slice A0_1 l0_1.length c0_1]] w fun e w' => e = .returned (.bool r) ∧ Below w.heap.size w w' := by
 have hu71 := Try.underlying71
 have HR0_0 := Q_ hr0_0
 have HC0_0 := Q_ hc0_0
 clear hr0_0 hc0_0
 have HR0_1 := Q_ hr0_1
 have HC0_1 := Q_ hc0_1
 clear hr0_1 hc0_1
 have HB := Q_ (Below.refl w.heap.size w)
 have H : ((spec_AreVersions.f k l0_0).bind fun t182 => (if t182 = true then ((spec_AreExts.f k l0_1).bind fun t183 => (some t183)) else (some false))) = some r := h
 clear h
 have HS_ := Q_ H
 clear H
 go_enter Try.func59, Try.ntmps59
 go_upto_region 1 with (first | ((with_reducible refine gate_dst (N := 1) rfl ?_); refine box_event ?hg (N := 1) ?hd (cs := #[.slice A0_0 l0_0.length c0_0, .slice A0_1 l0_1.length c0_1]) (t := 71) ?hr ?_; (case hd => rfl); (case hg => rfl); (case hr => first | (go_simp; done) | (go_simp; rfl)); intro gb181 hg w2 hbox hb; have _ := Q_ (below_step (pb_ HB.out) hb); have BK181 := Q_ (hbox); have GW181 := Q_ ((by rw [hg]; exact (below_size (pb_ HB.out)) : w.heap.size ≤ gb181)); have GE181 := GW181; clear HB; rename_i HB; clear hb hbox hg))
 (try simp only [Act.put, List.setIfInBounds_toArray, List.set_cons_zero, List.set_cons_succ])
 have H := HS_.out
 clear HS_
 replace H := Option.bind_eq_some_iff.mp H
 obtain ⟨t182, A30, H⟩ := H
 (try dsimp only at H)
 have A3 := Q_ A30
 clear A30
 by_cases c4 : t182 = true
 rotate_left
 ·replace c4 := bf_ c4
  subst c4
  rw [if_neg ff_] at H
  obtain rfl := Option.some.inj H
  have hcz5 := bc2_ BK181.out
  go_wp2_with (first | ((with_reducible refine gate_callee (f := 76) rfl ?_); refine gl_ (some 5) Try.func76 #[.slice A0_0 l0_0.length c0_0] ?_; (with_reducible refine (spec_AreVersions.calls k _ _ l0_0 false _ ?side1 ?side2 A3.out).mono ?_); (case side1 => exact cb_ HR0_0 HB); (case side2 => exact HC0_0.out); rintro e w' ⟨rfl, ⟨nd, rfl⟩⟩; refine ⟨_, rfl, ?_⟩))
  go_ret
  exact ⟨er_, pb1_ HB.out GE181.out⟩
 subst c4
 rw [if_pos rfl] at H
 replace H := Option.bind_eq_some_iff.mp H
 obtain ⟨t183, A60, H⟩ := H
 replace H : (some t183) = some r := H
 have A6 := Q_ A60
 clear A60
 obtain rfl := Option.some.inj H
 have hcz7 := bc2_ BK181.out
 go_wp2_with (first | ((with_reducible refine gate_callee (f := 76) rfl ?_); refine gl_ (some 5) Try.func76 #[.slice A0_0 l0_0.length c0_0] ?_; (with_reducible refine (spec_AreVersions.calls k _ _ l0_0 true _ ?side1 ?side2 A3.out).mono ?_); (case side1 => exact cb_ HR0_0 HB); (case side2 => exact HC0_0.out); rintro e w' ⟨rfl, ⟨nd, rfl⟩⟩; refine ⟨_, rfl, ?_⟩) | (go_at_call 77; (with_reducible refine (spec_AreExts.calls k _ _ l0_1 t183 _ ?side1 ?side2 A6.out).mono ?_); (case side1 => exact pc_ (Kd.C_below HR0_1.out (pb1_ HB.out GE181.out))); (case side2 => exact HC0_1.out); rintro e w' ⟨rfl, ⟨nd, rfl⟩⟩))
 go_ret
 exact ⟨er_, pb1_ HB.out GE181.out⟩

/-! ### spec_TagsOf: function 69 -/
def spec_TagsOf.l0 : Nat → List (S113) → List Int → Int → Option (List Int)
 | 0, _, _, _ => none
 | k + 1, x0, x3, x4 => if x4 < (x0.length : Int) then (if 0 ≤ x4 then (if x3.length < 17592186044416 then (spec_TagsOf.l0 k x0 (x3 ++ [(rd_T113 x0 x4).f0]) (wrap64 (x4 + 1))) else (none)) else (none)) else (some x3)
def spec_TagsOf.f (k : Nat) (l0 : List (S113)) : Option (List Int) := spec_TagsOf.l0 k l0 (([] : List Int)) 0
theorem spec_TagsOf.mono_l : ∀ k, (∀ y0 y1 y2, LeO (spec_TagsOf.l0 k y0 y1 y2) (spec_TagsOf.l0 (k + 1) y0 y1 y2))
 | 0 => fun _ _ _ r h => by simp [spec_TagsOf.l0] at h
 | k + 1 => by
  have ih0 := spec_TagsOf.mono_l k
  ·intro y0 y1 y2
   unfold spec_TagsOf.l0
   exact mo1_ ih0
theorem spec_TagsOf.mono : ∀ a0 k, LeO (spec_TagsOf.f k a0) (spec_TagsOf.f (k + 1) a0) := by
 intro a0 k
 have ih0 := spec_TagsOf.mono_l k
 unfold spec_TagsOf.f
 exact mo1_ ih0
theorem spec_TagsOf.calls (k : Nat) (A0 : Option Addr) (c0 : Nat) (l0 : List (S113)) (r : List Int) (w : World) (hr0 : Kd.C k113 w A0 l0.length l0) (hc0 : l0.length ≤ c0) (h : spec_TagsOf.f k l0 = some r) :
  Calls Try.prog 69 #[.slice A0 l0.length c0] w fun e w' => ∃ v0_ : Value, e = .returned (v0_) ∧ Kd.R (Kd.int .i64) 3 w' w.heap.size (fun _ => True) v0_ r ∧ Below w.heap.size w w' := by
 have HR0 := Q_ hr0
 have HC0 := Q_ hc0
 clear hr0 hc0
 have HB := Q_ (Below.refl w.heap.size w)
 have H : (spec_TagsOf.l0 k l0 (([] : List Int)) 0) = some r := h
 clear h
 obtain ⟨y184, hy184⟩ : ∃ y_ : List Int, y_ = (([] : List Int)) := ⟨_, rfl⟩
 replace H : (spec_TagsOf.l0 k l0 y184 0) = some r := hb_ hy184 H
 have Ny184 := Q_ hy184
 clear hy184
 have H' := Q_ H
 clear H
 go_enter Try.func69, Try.ntmps69
 go_wp2_with (first | ((with_reducible refine gate_dst (N := 5) rfl ?_); refine Kd.R_lit (Kd.int .i64) _ 3 ?hg (N := 5) ?hd (xs := ([] : List Int)) (inner := []) (ok := fun _ => True) (okp := fun _ => True) ?hr ?hp (fun _ hk => hk) trivial (Below.refl _ _) (Nat.le_refl _) (by simp) ?_; (case hd => rfl); (case hg => rfl); (case hr => first | (go_simp; done) | (go_simp; rfl)); (case hp => exact (Reps.none _ _)); intro v185 w2 ho3 hb hg_ hnew_; clear hg_ hnew_; (first | rw [← Ny184.out] at ho3 | (simp only [Int.reduceToNat] at ho3; rw [← Ny184.out] at ho3)); have _ := Q_ (Kd.R_lower ho3 (below_size (pb_ HB.out))); have _ := Q_ (below_step (pb_ HB.out) hb); clear HB; rename_i HO186 HB; clear hb ho3))
 (try simp only [Act.put, List.setIfInBounds_toArray, List.set_cons_zero, List.set_cons_succ])
 go_loopg [3, 4] k (fun kq v3 v4 w' => ∃ (x3_1 : List Int) (x4_1 : Int), v4 = .int .i64 x4_1 ∧ Aside0 (spec_TagsOf.l0 kq l0 x3_1 x4_1 = some r) ∧ Aside0 (kq ≤ k) ∧ Aside0 (Kd.R (Kd.int .i64) 3 w' w.heap.size (fun _ => True) v3 x3_1) ∧ Aside0 (Below w.heap.size w w'))
 case atStart => exact ⟨(y184), (0), el_, H', ⟨Nat.le_refl _⟩, ⟨pr_ HO186.out⟩, ⟨pb_ HB.out⟩⟩
 clear H'
 try clear p2
 obtain ⟨x3_1, x4_1, rfl, HA, HK1, HO_3, HB⟩ := hrel
 rcases gk with _ | k1
 ·exact absurd HA.out (by simp [spec_TagsOf.l0])
 have H := HA.out
 clear HA
 simp only [spec_TagsOf.l0] at H
 by_cases c4 : x4_1 < (l0.length : Int)
 rotate_left
 ·rw [if_neg c4] at H
  have c4b0 : decide (x4_1 < (l0.length : Int)) = false := decide_eq_false c4
  clear c4
  obtain rfl := Option.some.inj H
  go_wp2
  go_ret
  exact ⟨_, er_, pr_ HO_3.out, pb_ HB.out⟩
 rw [if_pos c4] at H
 have c4b0 : decide (x4_1 < (l0.length : Int)) = true := decide_eq_true c4
 clear c4
 by_cases c5 : 0 ≤ x4_1
 rotate_left
 ·rw [if_neg c5] at H
  exact absurd H (by simp)
 rw [if_pos c5] at H
 have c5b0 : decide (0 ≤ x4_1) = true := decide_eq_true c5
 clear c5
 by_cases c6 : x3_1.length < 17592186044416
 rotate_left
 ·rw [if_neg c6] at H
  exact absurd H (by simp)
 rw [if_pos c6] at H
 have LMc6 := Q_ c6
 clear c6
 obtain ⟨y188, hy188⟩ : ∃ y_ : List Int, y_ = (x3_1 ++ [(rd_T113 l0 x4_1).f0]) := ⟨_, rfl⟩
 replace H : (spec_TagsOf.l0 k1 l0 y188 (wrap64 (x4_1 + 1))) = some r := hb_ hy188 H
 have Ny188 := Q_ hy188
 clear hy188
 have H' := Q_ H
 clear H
 have p187 : 0 ≤ (x4_1 : Int) := dt_
 have q187 : x4_1 < (l0.length : Int) := dt_
 obtain ⟨ad187, A187_1, c187_1, e187, hx187_0, hx187_1, hl187_1, hi187_1⟩ := at_T113 HR0.out x4_1 p187 q187
 cases e187
 replace hx187_0 := bt_ HB hx187_0
 replace hx187_1 := bt_ HB hx187_1
 have HR187_1 := Q_ hi187_1
 have HC187_1 := Q_ hl187_1
 clear hi187_1 hl187_1
 replace p187 := eq_true p187
 replace q187 := eq_true q187
 go_wp2_with (first | ((with_reducible refine gate_builtin (b := .append) (xs := #[.tmp 12, .tmp 18]) rfl ?_); at_builtin; refine Kd.R_append (Kd.int .i64) (w0 := w) w.heap.size rfl (.tmp 12) (.tmp 18) 25 3 (.int .i64 0) 8 rfl Try.underlying25 info3 rfl (by decide) (by omega) u3 x3_1 ((rd_T113 l0 x4_1).f0) [.int .i64 ((rd_T113 l0 x4_1).f0)] (fun _ => True) (fun _ => False) rfl rfl ?aP (fun _ hk => hk.elim) ?aF ?aO ?aB ?aS ?aL ?_; (case aP => exact rfl); (case aB => exact (pb_ HB.out)); (case aF => exact (fun _ _ => trivial)); (case aO => exact (pr_ HO_3.out)); (case aS => exact (below_size (pb_ HB.out))); (case aL => have := LMc6.out; omega); intro v189 w7 ho hb hg hat; rw [← Ny188.out] at ho; have _ := Q_ (hb); have _ := Q_ (ho); clear HB HO_3; rename_i HB HO190; clear ho hb hg hat))
 go_roundg k1
 case measure => have := HK1.out; omega
 case rel => exact ⟨(y188), (wrap64 (x4_1 + 1)), el_, H', ⟨by have := HK1.out; omega⟩, ⟨pr_ HO190.out⟩, ⟨pb_ HB.out⟩⟩

/-! ### spec_l9Has: function 74 -/
def spec_l9Has.l0 : Nat → List Int → Int → Int → Option (Bool)
 | 0, _, _, _ => none
 | k + 1, x0, x1, x5 => if x5 < (x0.length : Int) then (if 0 ≤ x5 then (if (rd x0 x5) = x1 then (some true) else (spec_l9Has.l0 k x0 x1 (wrap64 (x5 + 1)))) else (none)) else (some false)
def spec_l9Has.f (k : Nat) (l0 : List Int) (a1 : Int) : Option (Bool) := spec_l9Has.l0 k l0 a1 0
theorem spec_l9Has.mono_l : ∀ k, (∀ y0 y1 y2, LeO (spec_l9Has.l0 k y0 y1 y2) (spec_l9Has.l0 (k + 1) y0 y1 y2))
 | 0 => fun _ _ _ r h => by simp [spec_l9Has.l0] at h
 | k + 1 => by
  have ih0 := spec_l9Has.mono_l k
  ·intro y0 y1 y2
   unfold spec_l9Has.l0
   exact mo1_ ih0
theorem spec_l9Has.mono : ∀ a0 a1 k, LeO (spec_l9Has.f k a0 a1) (spec_l9Has.f (k + 1) a0 a1) := by
 intro a0 a1 k
 have ih0 := spec_l9Has.mono_l k
 unfold spec_l9Has.f
 exact mo1_ ih0
theorem spec_l9Has.calls (k : Nat) (A0 : Option Addr) (c0 : Nat) (l0 : List Int) (a1 : Int) (r : Bool) (w : World) (hr0 : Kd.C (Kd.int .i64) w A0 l0.length l0) (hc0 : l0.length ≤ c0) (h : spec_l9Has.f k l0 a1 = some r) :
  Calls Try.prog 74 #[.slice A0 l0.length c0, .int .i64 a1] w fun e w' => e = .returned (.bool r) ∧ Drawn0 w w' := by
 have HR0 := Q_ hr0
 have HC0 := Q_ hc0
 clear hr0 hc0
 have H : (spec_l9Has.l0 k l0 a1 0) = some r := h
 clear h
 have H' := Q_ H
 clear H
 go_enter Try.func74, Try.ntmps74
 go_wp2
 go_loopg [5] k (fun kq v5 w' => ∃ (x5_1 : Int), v5 = .int .i64 x5_1 ∧ Aside0 (spec_l9Has.l0 kq l0 a1 x5_1 = some r) ∧ Aside0 (kq ≤ k) ∧ Drawn0 w w')
 case atStart => exact ⟨(0), el_, H', ⟨Nat.le_refl _⟩, by repeat (first | exact Drawn0.refl _ | apply Drawn0.step)⟩
 clear H'
 try clear p2
 obtain ⟨x5_1, rfl, HA, HK1, ⟨m1, rfl⟩⟩ := hrel
 rcases gk with _ | k1
 ·exact absurd HA.out (by simp [spec_l9Has.l0])
 have H := HA.out
 clear HA
 simp only [spec_l9Has.l0] at H
 by_cases c3 : x5_1 < (l0.length : Int)
 rotate_left
 ·rw [if_neg c3] at H
  have c3b0 : decide (x5_1 < (l0.length : Int)) = false := decide_eq_false c3
  clear c3
  obtain rfl := Option.some.inj H
  go_wp2
  go_ret
  exact ⟨by first | rfl | (simp; done) | (simp [*]; done), by repeat (first | exact Drawn0.refl _ | apply Drawn0.step)⟩
 rw [if_pos c3] at H
 have c3b0 : decide (x5_1 < (l0.length : Int)) = true := decide_eq_true c3
 clear c3
 by_cases c4 : 0 ≤ x5_1
 rotate_left
 ·rw [if_neg c4] at H
  exact absurd H (by simp)
 rw [if_pos c4] at H
 have c4b0 : decide (0 ≤ x5_1) = true := decide_eq_true c4
 clear c4
 by_cases c5 : (rd l0 x5_1) = a1
 rotate_left
 ·rw [if_neg c5] at H
  have c5b0 : ((rd l0 x5_1) == a1) = false := beq_eq_false_iff_ne.mpr c5
  have c5b1 : ((rd l0 x5_1) != a1) = true := bne_iff_ne.mpr c5
  have H' := Q_ H
  clear H
  have p191 : 0 ≤ (x5_1 : Int) := dt_
  have q191 : x5_1 < (l0.length : Int) := dt_
  obtain ⟨ad191, e191, hx191_0⟩ := Kd.at_int HR0.out x5_1 p191 q191
  cases e191
  replace p191 := eq_true p191
  replace q191 := eq_true q191
  go_wp2
  go_roundg k1
  case measure => have := HK1.out; omega
  case rel => exact ⟨(wrap64 (x5_1 + 1)), el_, H', ⟨by have := HK1.out; omega⟩, by repeat (first | exact Drawn0.refl _ | apply Drawn0.step)⟩
 rw [if_pos c5] at H
 have c5b0 : ((rd l0 x5_1) == a1) = true := beq_iff_eq.mpr c5
 have c5b1 : ((rd l0 x5_1) != a1) = false := bne_eq_false_iff_eq.mpr c5
 clear c5
 obtain rfl := Option.some.inj H
 have p191 : 0 ≤ (x5_1 : Int) := dt_
 have q191 : x5_1 < (l0.length : Int) := dt_
 obtain ⟨ad191, e191, hx191_0⟩ := Kd.at_int HR0.out x5_1 p191 q191
 cases e191
 replace p191 := eq_true p191
 replace q191 := eq_true q191
 go_wp2
 go_ret
 exact ⟨by first | rfl | (simp; done) | (simp [*]; done), by repeat (first | exact Drawn0.refl _ | apply Drawn0.step)⟩

/-! ### spec_KnownOf: function 85 -/
def spec_KnownOf.l0 : Nat → List (S113) → List Int → List (S113) → Int → Option ((List (S113)))
 | 0, _, _, _, _ => none
 | k + 1, x0, x1, x5, x6 => if x6 < (x0.length : Int) then (if 0 ≤ x6 then ((spec_l9Has.f k x1 ((rd_T113 x0 x6).f0)).bind fun t196 => (if t196 = true then ((some (([] : List Int) : List Int)).bind fun y198 => (if y198.length + ((rd_T113 x0 x6).f1).length < 17592186044416 then (if x5.length < 4398046511104 then (spec_KnownOf.l0 k x0 x1 (x5 ++ [(⟨(rd_T113 x0 x6).f0, (y198 ++ ((rd_T113 x0 x6).f1))⟩ : S113)]) (wrap64 (x6 + 1))) else (none)) else (none))) else (spec_KnownOf.l0 k x0 x1 x5 (wrap64 (x6 + 1))))) else (none)) else (some x5)
def spec_KnownOf.f (k : Nat) (l0 : List (S113)) (l1 : List Int) : Option ((List (S113))) := spec_KnownOf.l0 k l0 l1 (([] : List (S113))) 0
theorem spec_KnownOf.mono_l : ∀ k, (∀ y0 y1 y2 y3, LeO (spec_KnownOf.l0 k y0 y1 y2 y3) (spec_KnownOf.l0 (k + 1) y0 y1 y2 y3))
 | 0 => fun _ _ _ _ r h => by simp [spec_KnownOf.l0] at h
 | k + 1 => by
  have ih0 := spec_KnownOf.mono_l k
  ·intro y0 y1 y2 y3
   unfold spec_KnownOf.l0
   exact mo2_ ih0 spec_l9Has.mono
theorem spec_KnownOf.mono : ∀ a0 a1 k, LeO (spec_KnownOf.f k a0 a1) (spec_KnownOf.f (k + 1) a0 a1) := by
 intro a0 a1 k
 have ih0 := spec_KnownOf.mono_l k
 unfold spec_KnownOf.f
 exact mo2_ ih0 spec_l9Has.mono
def spec_KnownOf.T6 : Bool × List (List Nat × List Nat) := (true, [([], []), ([], []), ([], []), ([1, 2], [1, 2]), ([3], [3]), ([4], [4]), ([], []), ([], []), ([], []), ([7, 8], [7, 8]), ([9], [9]), ([10], [10]), ([6, 11], [6, 11]), ([5, 12], [5, 12]), ([13], [13]), ([0, 14, 12], [0, 14]), ([15, 15, 0, 1, 2, 3, 4, 5, 6, 7, 8, 9, 10, 11, 12, 13, 14, 15], [0, 15])])
def spec_KnownOf.B6 : List Nat := [0, 0, 0, 6, 14, 30, 0, 0, 0, 384, 896, 1920, 4032, 8190, 16382, 32767, 65535]
theorem spec_KnownOf.tab6 : rtab .any (opsOf Try.f85 6) = spec_KnownOf.T6 := by kernel_rfl
theorem spec_KnownOf.bits6 : waitsOk spec_KnownOf.T6.2 spec_KnownOf.B6 = true := by kernel_rfl
theorem spec_KnownOf.calls (k : Nat) (A0 : Option Addr) (c0 : Nat) (l0 : List (S113)) (A1 : Option Addr) (c1 : Nat) (l1 : List Int) (r : List (S113)) (w : World) (hr0 : Kd.C k113 w A0 l0.length l0) (hc0 : l0.length ≤ c0) (hr1 : Kd.C (Kd.int .i64) w A1 l1.length l1) (hc1 : l1.length ≤ c1) (h : spec_KnownOf.f k l0 l1 = some r) :
  Calls Try.prog 85 #[.slice A0 l0.length c0, .slice A1 l1.length c1] w fun e w' => ∃ v0_ : Value, e = .returned (v0_) ∧ Kd.S k113 113 w' w.heap.size (fun _ => True) v0_ r ∧ Below w.heap.size w w' := by
 have hu113 := Try.underlying113
 have HR0 := Q_ hr0
 have HC0 := Q_ hc0
 clear hr0 hc0
 have HR1 := Q_ hr1
 have HC1 := Q_ hc1
 clear hr1 hc1
 have HB := Q_ (Below.refl w.heap.size w)
 have H : (spec_KnownOf.l0 k l0 l1 (([] : List (S113))) 0) = some r := h
 clear h
 obtain ⟨y192, hy192⟩ : ∃ y_ : List (S113), y_ = (([] : List (S113))) := ⟨_, rfl⟩
 replace H : (spec_KnownOf.l0 k l0 l1 y192 0) = some r := hb_ hy192 H
 have Ny192 := Q_ hy192
 clear hy192
 have H' := Q_ H
 clear H
 go_enter Try.func85, Try.ntmps85
 go_wp2_with (first | ((with_reducible refine gate_dst (N := 7) rfl ?_); refine Kd.S_lit k113 _ 113 ?hg (N := 7) ?hd (xs := ([] : List (S113))) (inner := []) (ok := fun _ => True) (okp := fun _ => True) ?hr ?hp (fun _ hk => hk) trivial (Below.refl _ _) (Nat.le_refl _) (by simp) ?_; (case hd => rfl); (case hg => rfl); (case hr => first | (go_simp; done) | (go_simp; rfl)); (case hp => exact (Reps.none _ _)); intro v193 w3 ho4 hb hg_ hnew_; clear hg_ hnew_; (first | rw [← Ny192.out] at ho4 | (simp only [Int.reduceToNat] at ho4; rw [← Ny192.out] at ho4)); have _ := Q_ (Kd.S_lower ho4 (below_size (pb_ HB.out))); have _ := Q_ (below_step (pb_ HB.out) hb); clear HB; rename_i HO194 HB; clear hb ho4))
 (try simp only [Act.put, List.setIfInBounds_toArray, List.set_cons_zero, List.set_cons_succ])
 go_loopg [5, 6] k (fun kq v5 v6 w' => ∃ (x5_1 : List (S113)) (x6_1 : Int), v6 = .int .i64 x6_1 ∧ Aside0 (spec_KnownOf.l0 kq l0 l1 x5_1 x6_1 = some r) ∧ Aside0 (kq ≤ k) ∧ Aside0 (Kd.S k113 113 w' w.heap.size (fun _ => True) v5 x5_1) ∧ Aside0 (Below w.heap.size w w'))
 case atStart => exact ⟨(y192), (0), el_, H', ⟨Nat.le_refl _⟩, ⟨ps_ HO194.out⟩, ⟨pb_ HB.out⟩⟩
 clear H'
 try clear c1
 try clear p2
 obtain ⟨x5_1, x6_1, rfl, HA, HK1, HO_5, HB⟩ := hrel
 rcases gk with _ | k1
 ·exact absurd HA.out (by simp [spec_KnownOf.l0])
 have H := HA.out
 clear HA
 simp only [spec_KnownOf.l0] at H
 by_cases c5 : x6_1 < (l0.length : Int)
 rotate_left
 ·rw [if_neg c5] at H
  have c5b0 : decide (x6_1 < (l0.length : Int)) = false := decide_eq_false c5
  clear c5
  obtain rfl := Option.some.inj H
  go_wp2
  go_ret
  exact ⟨_, er_, ps_ HO_5.out, pb_ HB.out⟩
 rw [if_pos c5] at H
 have c5b0 : decide (x6_1 < (l0.length : Int)) = true := decide_eq_true c5
 clear c5
 by_cases c6 : 0 ≤ x6_1
 rotate_left
 ·rw [if_neg c6] at H
  exact absurd H (by simp)
 rw [if_pos c6] at H
 have c6b0 : decide (0 ≤ x6_1) = true := decide_eq_true c6
 clear c6
 replace H := Option.bind_eq_some_iff.mp H
 obtain ⟨t196, A70, H⟩ := H
 (try dsimp only at H)
 have A7 := Q_ A70
 clear A70
 have HS_ := Q_ H
 clear H
 have p195 : 0 ≤ (x6_1 : Int) := dt_
 have q195 : x6_1 < (l0.length : Int) := dt_
 obtain ⟨ad195, A195_1, c195_1, e195, hx195_0, hx195_1, hl195_1, hi195_1⟩ := at_T113 HR0.out x6_1 p195 q195
 cases e195
 replace hx195_0 := bt_ HB hx195_0
 replace hx195_1 := bt_ HB hx195_1
 have HR195_1 := Q_ hi195_1
 have HC195_1 := Q_ hl195_1
 clear hi195_1 hl195_1
 replace p195 := eq_true p195
 replace q195 := eq_true q195
 go_upto_if 20 with (first | ((with_reducible refine gate_callee (f := 74) rfl ?_); refine gl_ (some 20) Try.func74 #[.slice A1 l1.length c1, .int .i64 ((rd_T113 l0 x6_1).f0)] ?_; (with_reducible refine (spec_l9Has.calls k1 _ _ l1 ((rd_T113 l0 x6_1).f0) t196 _ ?side1 ?side2 A7.out).mono ?_); (case side1 => exact cb_ HR1 HB); (case side2 => exact HC1.out); rintro e w' ⟨rfl, ⟨nd, rfl⟩⟩; refine ⟨_, rfl, ?_⟩))
 (try simp only [Act.put, List.setIfInBounds_toArray, List.set_cons_zero, List.set_cons_succ])
 have H := HS_.out
 clear HS_
 by_cases c8 : t196 = true
 rotate_left
 ·replace c8 := bf_ c8
  subst c8
  rw [if_neg ff_] at H
  have H' := Q_ H
  clear H
  go_wp2
  go_roundg k1
  case measure => have := HK1.out; omega
  case rel => exact ⟨(x5_1), (wrap64 (x6_1 + 1)), el_, H', ⟨by have := HK1.out; omega⟩, ⟨ps_ HO_5.out⟩, ⟨pb_ HB.out⟩⟩
 subst c8
 rw [if_pos rfl] at H
 obtain ⟨y198, hy198⟩ : ∃ y_ : List Int, y_ = (([] : List Int)) := ⟨_, rfl⟩
 replace H : (if y198.length + ((rd_T113 l0 x6_1).f1).length < 17592186044416 then (if x5_1.length < 4398046511104 then (spec_KnownOf.l0 k1 l0 l1 (x5_1 ++ [(⟨(rd_T113 l0 x6_1).f0, (y198 ++ ((rd_T113 l0 x6_1).f1))⟩ : S113)]) (wrap64 (x6_1 + 1))) else (none)) else (none)) = some r := hb_ hy198 H
 have Ny198 := Q_ hy198
 clear hy198
 by_cases c9 : y198.length + ((rd_T113 l0 x6_1).f1).length < 17592186044416
 rotate_left
 ·rw [if_neg c9] at H
  exact absurd H (by simp)
 rw [if_pos c9] at H
 have LMc9 := Q_ c9
 clear c9
 obtain ⟨y202, hy202⟩ : ∃ y_ : List Int, y_ = (y198 ++ ((rd_T113 l0 x6_1).f1)) := ⟨_, rfl⟩
 replace H : (if x5_1.length < 4398046511104 then (spec_KnownOf.l0 k1 l0 l1 (x5_1 ++ [(⟨(rd_T113 l0 x6_1).f0, y202⟩ : S113)]) (wrap64 (x6_1 + 1))) else (none)) = some r := hb_ hy202 H
 have Ny202 := Q_ hy202
 clear hy202
 by_cases c10 : x5_1.length < 4398046511104
 rotate_left
 ·rw [if_neg c10] at H
  exact absurd H (by simp)
 rw [if_pos c10] at H
 have LMc10 := Q_ c10
 clear c10
 obtain ⟨y205, hy205⟩ : ∃ y_ : List (S113), y_ = (x5_1 ++ [(⟨(rd_T113 l0 x6_1).f0, y202⟩ : S113)]) := ⟨_, rfl⟩
 replace H : (spec_KnownOf.l0 k1 l0 l1 y205 (wrap64 (x6_1 + 1))) = some r := hb_ hy205 H
 have Ny205 := Q_ hy205
 clear hy205
 have H' := Q_ H
 clear H
 try go_wp2
 (try (rw [drewN_self wr]; generalize hq_ : World.drewN wr _ = wr; have n0_ : Aside0 (Kd.S k113 113 wr w.heap.size (fun _ => True) u5 x5_1) := ⟨by rw [← hq_]; exact (ps_ HO_5.out)⟩; have n1_ : Aside0 (Below w.heap.size w wr) := ⟨by rw [← hq_]; exact (pb_ HB.out)⟩; clear HO_5 HB hq_; have HO_5 := n0_; have HB := n1_; clear n0_ n1_))
 have _ := Q_ (Kd.S_drew HO_5.out)
 have _ := Q_ (below_drew1 HB.out)
 clear HO_5 HB
 rename_i HO_5 HB
 have p197 : 0 ≤ (x6_1 : Int) := dt_
 have q197 : x6_1 < (l0.length : Int) := dt_
 obtain ⟨ad197, A197_1, c197_1, e197, hx197_0, hx197_1, hl197_1, hi197_1⟩ := at_T113 HR0.out x6_1 p197 q197
 have hw197_1 := hx197_1
 have hw197_0 := hx197_0
 obtain rfl : ad195 = ad197 := (by injection e197)
 replace hx197_0 := bt_ HB hx197_0
 replace hx197_1 := bt_ HB hx197_1
 have HR197_1 := Q_ hi197_1
 have HC197_1 := Q_ hl197_1
 clear hi197_1 hl197_1
 replace p197 := eq_true p197
 replace q197 := eq_true q197
 have p201 : 0 ≤ (x6_1 : Int) := dt_
 have q201 : x6_1 < (l0.length : Int) := dt_
 obtain ⟨ad201, A201_1, c201_1, e201, hx201_0, hx201_1, hl201_1, hi201_1⟩ := at_T113 HR0.out x6_1 p201 q201
 have hw201_1 := hx201_1
 have hw201_0 := hx201_0
 obtain rfl : ad195 = ad201 := (by injection e201)
 replace hx201_0 := bt_ HB hx201_0
 replace hx201_1 := bt_ HB hx201_1
 have HR201_1 := Q_ hi201_1
 have HC201_1 := Q_ hl201_1
 clear hi201_1 hl201_1
 replace p201 := eq_true p201
 replace q201 := eq_true q201
 have ea_ := Option.some.inj (hx197_1.symm.trans hx201_1)
 injection ea_ with ea_ en_ ec_
 subst ea_
 subst ec_
 clear en_
 refine start_ (n := 17) (S := fun w' => w'.cell? (ad195.add ((x6_1).toNat * 2)) = some (.int .i64 ((rd_T113 l0 x6_1).f0)) ∧ w'.cell? ⟨(ad195.add ((x6_1).toNat * 2)).block, (ad195.add ((x6_1).toNat * 2)).off + 1, none⟩ = some (.slice A197_1 ((rd_T113 l0 x6_1).f1).length c197_1) ∧ w'.cell? (ad195.add ((x6_1).toNat * 2)) = some (.int .i64 ((rd_T113 l0 x6_1).f0)) ∧ w'.cell? ⟨(ad195.add ((x6_1).toNat * 2)).block, (ad195.add ((x6_1).toNat * 2)).off + 1, none⟩ = some (.slice A197_1 ((rd_T113 l0 x6_1).f1).length c197_1)) (ds := []) (tf_ 0 17) (by kernel_rfl) rfl rfl ⟨(bt_ HB hw197_0), (bt_ HB hw197_1), (bt_ HB hw201_0), (bt_ HB hw201_1)⟩ (fun hHeld => ?_); refine with_tabW spec_KnownOf.tab6 spec_KnownOf.bits6 (fun HT_ HW_ => ?_)
 generalize wr.drew = w11 at HO_5 HB HR197_1 HR201_1 hx197_0 hx197_1 hx201_0 hx201_1 hHeld ⊢
 refine pu_ 0 (some 21) (tf_ 1 17) HT_ ?_
 refine pu_ 1 (some 22) (tf_ 2 17) HT_ ?_
 refine pu_ 2 (some 23) (tf_ 3 17) HT_ ?_
 refine pu_ 3 (some 24) (tf_ 4 17) HT_ ?_
 refine pu_ 4 (some 25) (tf_ 5 17) HT_ ?_
 refine pu_ 7 (some 28) (tm_ 17 159) HT_ ?_
 refine pu_ 8 (some 29) (tm_ 17 415) HT_ ?_
 refine pu_ 9 (some 30) (tm_ 17 927) HT_ ?_
 refine pu_ 10 (some 31) (tm_ 17 1951) HT_ ?_
 refine ta_ 5 (some 26) (tm_ 17 1983) HT_ HW_ hHeld ?_
 refine ta_ 11 (some 32) (tm_ 17 4031) HT_ HW_ hHeld ?_
 refine on_ 6 (some 27) (tf_ 12 17) HT_ (fun K hK => ?_)
 refine Kd.R_lit_step (Kd.int .i64) _ 3 ?hg (N := 27) ?hd (xs := ([] : List Int)) (inner := []) (ok := fun _ => True) (okp := fun _ => True) ?hr ?hp (fun _ hk => hk) trivial (Below.refl _ _) (Nat.le_refl _) (by simp) ?_; (case hd => rfl); (case hg => rfl); (case hr => first | (go_simp; done) | (go_simp; rfl)); (case hp => exact (Reps.none _ _))
 intro v199 w12 ho13 hb hg_ hnew_
 clear hg_ hnew_
 (first | rw [← Ny198.out] at ho13 | (simp only [Int.reduceToNat] at ho13; rw [← Ny198.out] at ho13))
 have _ := Q_ (Kd.S_elder' (ps_ HO_5.out) (Kd.R_base ho13) hb)
 have _ := Q_ (Kd.R_lower ho13 (below_size (pb_ HB.out)))
 have _ := Q_ (below_step (pb_ HB.out) hb)
 clear HO_5 HB
 rename_i HO_5 HO200 HB
 clear hb ho13
 refine hK.out _ _ ⟨(bt_ HB hw197_0), (bt_ HB hw197_1), (bt_ HB hw201_0), (bt_ HB hw201_1)⟩ (fun hHeld => ?_)
 clear hK K
 refine no_ (some 27) ?_
 refine on_ 12 (some 33) (tf_ 13 17) HT_ (fun K hK => ?_)
 refine Kd.R_append_rows_step (Kd.int .i64) (w0 := w) w.heap.size (by rfl) (.tmp 27) (.tmp 32) 25 3 (.int .i64 0) 8 rfl Try.underlying25 info3 rfl (by decide) (by omega) v199 y198 ((rd_T113 l0 x6_1).f1) _ _ _ (fun _ => True) (fun _ => False) rfl rfl ?aO ?aR (fun _ _ h => h) (fun _ h => h.elim) ?aF ?aB ?aS ?aL ?_
 (case aR => exact cb_ HR201_1 HB)
 (case aB => exact (pb_ HB.out))
 (case aF => exact (fun _ _ => trivial))
 (case aO => exact (pr_ HO200.out))
 (case aS => exact (below_size (pb_ HB.out)))
 (case aL => have := LMc9.out; omega)
 intro v203 w14 ho hb hg hat
 rw [← Ny202.out] at ho
 have _ := Q_ (Kd.S_after (ok := (fun _ => True)) (ps_ HO_5.out) hg hat)
 have _ := Q_ (hb)
 have _ := Q_ (ho)
 clear HO_5 HB HO200
 rename_i HO_5 HB HO204
 clear ho hb hg hat
 obtain ⟨Ao15, co15, eo15⟩ := Kd.R_slice HO204.out
 (first | subst eo15 | (injection eo15 with f1_ f2_ f3_; have f4_ := f1_.symm; have f5_ := f3_.symm; clear f1_ f2_ f3_; subst f4_; subst f5_))
 refine hK.out _ _ ⟨(bt_ HB hw197_0), (bt_ HB hw197_1), (bt_ HB hw201_0), (bt_ HB hw201_1)⟩ (fun hHeld => ?_)
 clear hK K
 refine no_ (some 33) ?_
 refine pu_ 13 (some 34) (tf_ 14 17) HT_ ?_
 refine on_ 14 (some 35) (tf_ 15 17) HT_ (fun K hK => ?_)
 refine value_ (w1 := ?_) (v := ?_) (by rfl) rfl ?_ ?_
 rotate_left 2
 ·go_simp
  constructor
  ·rfl
  ·rfl
 refine hK.out _ _ ⟨(World.cell?_alloc_lt _ _ _ (World.block_lt_of_cell? _ _ ((bt_ HB hw197_0)))).trans ((bt_ HB hw197_0)), (World.cell?_alloc_lt _ _ _ (World.block_lt_of_cell? _ _ ((bt_ HB hw197_1)))).trans ((bt_ HB hw197_1)), (World.cell?_alloc_lt _ _ _ (World.block_lt_of_cell? _ _ ((bt_ HB hw201_0)))).trans ((bt_ HB hw201_0)), (World.cell?_alloc_lt _ _ _ (World.block_lt_of_cell? _ _ ((bt_ HB hw201_1)))).trans ((bt_ HB hw201_1))⟩ (fun hHeld => ?_)
 clear hK K
 refine no_ (some 35) ?_
 refine on_ 15 (some 36) (tf_ 16 17) HT_ (fun K hK => ?_)
 refine Kd.S_append_step k113 (w0 := w) w.heap.size (by rfl) (.tmp 21) (.tmp 35) 69 113 (.agg #[(.int .i64 0), (.slice none 0 0)]) 32 rfl Try.underlying69 info113 rfl (by decide) (by omega) u5 x5_1 (⟨(rd_T113 l0 x6_1).f0, y202⟩ : S113) [.int .i64 ((rd_T113 l0 x6_1).f0), .slice Ao15 y202.length co15] (fun _ => True) (fun k_ => some k_ = (.slice Ao15 y202.length co15 : Value).ownBlock) rfl rfl ?aP (fun k_ hk_ => ((Kd.R_mono (ok' := fun k_ => ((fun _ => True)) k_ ∧ some k_ ≠ (u5 : Value).ownBlock) (Kd.R_apart' (HO204.out) (Kd.S_typed HO_5.out) (by decide)) (fun k_ hk => ⟨trivial, hk.2⟩))).1 k_ hk_.symm) ?aF ?aO ?aB ?aS ?aL ?_
 (case aP => exact k113_mkM _ _ _ (⟨(rd_T113 l0 x6_1).f0, y202⟩ : S113) (Kd.R_mono (Kd.R_tight rfl (Kd.R_mono (ok' := fun k_ => ((fun _ => True)) k_ ∧ some k_ ≠ (u5 : Value).ownBlock) (Kd.R_apart' (HO204.out) (Kd.S_typed HO_5.out) (by decide)) (fun k_ hk => ⟨trivial, hk.2⟩))) (fun _ h_ => h_)))
 (case aB => exact (pb_ HB.out))
 (case aF => exact (fun _ _ => trivial))
 (case aO => exact (by (with_reducible repeat (first | apply Kd.S_alloc | apply Kd.S_drewN | apply Kd.S_drew)); exact Kd.S_mono HO_5.out (fun k_ hk => ⟨trivial, fun e_ => hk.2 e_⟩)))
 (case aS => exact (below_size (pb_ HB.out)))
 (case aL => have := LMc10.out; omega)
 intro v206 w16 ho hb hg hat
 rw [← Ny205.out] at ho
 have _ := Q_ (hb)
 have _ := Q_ (ho)
 clear HB HO_5 HO204
 rename_i HB HO207
 clear ho hb hg hat
 refine hK.out _ _ ⟨(bt_ HB hw197_0), (bt_ HB hw197_1), (bt_ HB hw201_0), (bt_ HB hw201_1)⟩ (fun hHeld => ?_)
 clear hK K
 refine no_ (some 36) ?_
 refine pu_ 16 (some 5) (tf_ 17 17) HT_ ?_
 refine done_ (done_of HT_.out (by kernel_rfl)) ?_
 try go_wp2
 go_roundg k1
 case measure => have := HK1.out; omega
 case rel => exact ⟨(y205), (wrap64 (x6_1 + 1)), el_, H', ⟨by have := HK1.out; omega⟩, ⟨ps_ HO207.out⟩, ⟨pb_ HB.out⟩⟩

/-! ### spec_l11Copy: function 79 -/
def spec_l11Copy.f (k : Nat) (l0 : List (S113)) : Option ((List (S113))) := (spec_TagsOf.f k l0).bind fun t208 => ((spec_KnownOf.f k l0 t208).bind fun t211 => (some t211))
theorem spec_l11Copy.mono : ∀ a0 k, LeO (spec_l11Copy.f k a0) (spec_l11Copy.f (k + 1) a0) := by
 intro a0 k
 unfold spec_l11Copy.f
 exact mo2_ spec_KnownOf.mono spec_TagsOf.mono
theorem spec_l11Copy.calls (k : Nat) (A0 : Option Addr) (c0 : Nat) (l0 : List (S113)) (r : List (S113)) (w : World) (hr0 : Kd.C k113 w A0 l0.length l0) (hc0 : l0.length ≤ c0) (h : spec_l11Copy.f k l0 = some r) :
  Calls Try.prog 79 #[.slice A0 l0.length c0] w fun e w' => ∃ v0_ : Value, e = .returned (v0_) ∧ Kd.S k113 113 w' w.heap.size (fun _ => True) v0_ r ∧ Below w.heap.size w w' := by
 have HR0 := Q_ hr0
 have HC0 := Q_ hc0
 clear hr0 hc0
 have HB := Q_ (Below.refl w.heap.size w)
 have H : ((spec_TagsOf.f k l0).bind fun t208 => ((spec_KnownOf.f k l0 t208).bind fun t211 => (some t211))) = some r := h
 clear h
 replace H := Option.bind_eq_some_iff.mp H
 obtain ⟨t208, A20, H⟩ := H
 replace H : ((spec_KnownOf.f k l0 t208).bind fun t211 => (some t211)) = some r := H
 have A2 := Q_ A20
 clear A20
 replace H := Option.bind_eq_some_iff.mp H
 obtain ⟨t211, A30, H⟩ := H
 replace H : (some t211) = some r := H
 have A3 := Q_ A30
 clear A30
 obtain rfl := Option.some.inj H
 go_enter Try.func79, Try.ntmps79
 go_wp2_with (first | ((with_reducible refine gate_callee (f := 69) rfl ?_); refine gl_ (some 5) Try.func69 #[.slice A0 l0.length c0] ?_; (with_reducible refine (spec_TagsOf.calls k _ _ l0 t208 _ ?side1 ?side2 A2.out).mono ?_); (case side1 => exact pc_ HR0.out); (case side2 => exact HC0.out); rintro e w4 ⟨v209, rfl, ho0, hb⟩; refine ⟨_, rfl, ?_⟩; have _ := Q_ (Kd.R_lower ho0 (below_size (pb_ HB.out))); have _ := Q_ (below_step (pb_ HB.out) hb); clear HB; rename_i HO210 HB; (try clear hb); (try clear hb2); (try clear hk); (try clear hi); (try clear ho0); obtain ⟨Ao5, co5, eo5⟩ := Kd.R_slice HO210.out; subst eo5) | ((with_reducible refine gate_callee (f := 85) rfl ?_); refine gl_ (some 6) Try.func85 #[.slice A0 l0.length c0, .slice Ao5 t208.length co5] ?_; (with_reducible refine (spec_KnownOf.calls k _ _ l0 _ _ t208 t211 _ ?side1 ?side2 ?side3 ?side4 A3.out).mono ?_); (case side1 => exact cb_ HR0 HB); (case side2 => exact HC0.out); (case side3 => exact pc_ ((Kd.R_reads' HO210.out).2.2)); (case side4 => exact (Kd.R_reads' HO210.out).2.1); rintro e w6 ⟨v212, rfl, ho0, hb⟩; refine ⟨_, rfl, ?_⟩; have _ := Q_ (Kd.R_below (pr_ HO210.out) hb); have _ := Q_ (Kd.S_lower (Kd.S_new' ho0 (Kd.R_lt (pr_ HO210.out))) (below_size (pb_ HB.out))); have _ := Q_ (below_step (pb_ HB.out) hb); clear HO210 HB; rename_i HO210 HO213 HB; (try clear hb); (try clear hb2); (try clear hk); (try clear hi); (try clear ho0)))
 go_ret
 exact ⟨_, er_, ps_ (Kd.S_mono HO213.out (fun _ hk => trivial)), pb_ HB.out⟩

end Go.Proofs.Ytlcpaebidnaolaa.Print
