-- Written by a program of this session (printx.py) out of the translation; Lean checks it.
import Derived.Test.YtldcchjbaglppaaPrint0
import Derived.Test.YtldcchjbaglppaaPrint10
import Derived.Test.YtldcchjbaglppaaPrint11
namespace Go.Proofs.Ytldcchjbaglppaa.Print
open Go.RowKit Go.Proofs.YtldcchjbaglppaaW.PrintWords Go.Proofs.YtldcchjbaglppaaW.PrintLast Go.Proofs.YtldcchjbaglppaaW.PrintMore Go.Proofs.Ytldcchjbaglppaa.Short
attribute [local go_sem] max2_int min2_int max_two min_two max_three min_three max_four min_four   -- for this text's walks alone
set_option linter.unusedVariables false
set_option linter.unusedSimpArgs false

/-! ### spec_l9Has: function 90 -/
def spec_l9Has.l0 : Nat → List Int → Int → Int → Option (Bool)
  | 0, _, _, _ => none
  | k + 1, x0, x1, x5 => if x5 < (x0.length : Int) then (if 0 ≤ x5 then (if (rd x0 x5) = x1 then (some true) else (spec_l9Has.l0 k x0 x1 (wrap64 (x5 + 1)))) else (none)) else (some false)
def spec_l9Has.f (k : Nat) (l0 : List Int) (a1 : Int) : Option (Bool) := spec_l9Has.l0 k l0 a1 0
theorem spec_l9Has.mono_l : ∀ k, (∀ y0 y1 y2, LeO (spec_l9Has.l0 k y0 y1 y2) (spec_l9Has.l0 (k + 1) y0 y1 y2))
  | 0 => fun _ _ _ r h => by simp [spec_l9Has.l0] at h
  | k + 1 => by
    have ih0 := spec_l9Has.mono_l k
    · intro y0 y1 y2
      unfold spec_l9Has.l0
      repeat' first
      | (with_reducible exact ih0 _ _ _)
      | (with_reducible exact LeO.refl _)
      | (with_reducible exact LeO.none _)
      | (with_reducible refine LeO.ite ?_ ?_)
      | (with_reducible refine LeO.bind ?_ (fun _ => ?_))
      | exact ih0 _ _ _
      | exact LeO.none _
      | refine LeO.ite ?_ ?_
      | refine LeO.bind ?_ (fun _ => ?_)
theorem spec_l9Has.mono : ∀ a0 a1 k, LeO (spec_l9Has.f k a0 a1) (spec_l9Has.f (k + 1) a0 a1) := by
  intro a0 a1 k
  have ih0 := spec_l9Has.mono_l k
  unfold spec_l9Has.f
  repeat' first
      | (with_reducible exact ih0 _ _ _)
      | (with_reducible exact LeO.refl _)
      | (with_reducible exact LeO.none _)
      | (with_reducible refine LeO.ite ?_ ?_)
      | (with_reducible refine LeO.bind ?_ (fun _ => ?_))
      | exact ih0 _ _ _
      | exact LeO.none _
      | refine LeO.ite ?_ ?_
      | refine LeO.bind ?_ (fun _ => ?_)
set_option maxHeartbeats 8000000 in
set_option maxRecDepth 100000 in
theorem spec_l9Has.calls (k : Nat) (A0 : Option Addr) (c0 : Nat) (l0 : List Int) (a1 : Int) (r : Bool) (w : World) (hr0 : Kd.C (Kd.int .i64) w A0 l0.length l0) (hc0 : l0.length ≤ c0) (h : spec_l9Has.f k l0 a1 = some r) :
    Calls Try.prog 90 #[.slice A0 l0.length c0, .int .i64 a1] w fun e w' => e = .returned (.bool r) ∧ Drawn0 w w' := by
  have HR0 := Aside0.mk hr0
  have HC0 := Aside0.mk hc0
  clear hr0 hc0
  have H : (spec_l9Has.l0 k l0 a1 0) = some r := h
  clear h
  have H' := Aside0.mk H
  clear H
  go_enter Try.func90, Try.ntmps90
  go_wp2
  go_loopg [5] k (fun kq v5 w' => ∃ (x5_1 : Int), v5 = .int .i64 x5_1 ∧ Aside0 (spec_l9Has.l0 kq l0 a1 x5_1 = some r) ∧ Aside0 (kq ≤ k) ∧ Drawn0 w w')
  case atStart => exact ⟨(0), el_, H', ⟨Nat.le_refl _⟩, by repeat (first | exact Drawn0.refl _ | apply Drawn0.step)⟩
  clear H'
  try clear p2
  obtain ⟨x5_1, rfl, HA, HK1, ⟨m1, rfl⟩⟩ := hrel
  rcases gk with _ | k1
  · exact absurd HA.out (by simp [spec_l9Has.l0])
  have H := HA.out
  clear HA
  simp only [spec_l9Has.l0] at H
  by_cases c3 : x5_1 < (l0.length : Int)
  rotate_left
  · rw [if_neg c3] at H
    have c3b0 : decide (x5_1 < (l0.length : Int)) = false := decide_eq_false c3
    clear c3
    obtain rfl := Option.some.inj H
    go_wp2
    go_ret
    exact ⟨by first | rfl | (simp; done) | (simp [*]; done), by repeat (first | exact Drawn0.refl _ | apply Drawn0.step)⟩
  rw [if_pos c3] at H
  have c3b0 : decide (x5_1 < (l0.length : Int)) = true := decide_eq_true c3
  clear c3
  by_cases c4 : 0 ≤ x5_1
  rotate_left
  · rw [if_neg c4] at H
    exact absurd H (by simp)
  rw [if_pos c4] at H
  have c4b0 : decide (0 ≤ x5_1) = true := decide_eq_true c4
  clear c4
  by_cases c5 : (rd l0 x5_1) = a1
  rotate_left
  · rw [if_neg c5] at H
    have c5b0 : ((rd l0 x5_1) == a1) = false := beq_eq_false_iff_ne.mpr c5
    have c5b1 : ((rd l0 x5_1) != a1) = true := bne_iff_ne.mpr c5
    have H' := Aside0.mk H
    clear H
    have p396 : 0 ≤ (x5_1 : Int) := dt_
    have q396 : x5_1 < (l0.length : Int) := dt_
    obtain ⟨ad396, e396, hx396_0⟩ := Kd.at_int HR0.out x5_1 p396 q396
    cases e396
    replace p396 := eq_true p396
    replace q396 := eq_true q396
    go_wp2
    go_roundg k1
    case measure => have := HK1.out; omega
    case rel => exact ⟨(wrap64 (x5_1 + 1)), el_, H', ⟨by have := HK1.out; omega⟩, by repeat (first | exact Drawn0.refl _ | apply Drawn0.step)⟩
  rw [if_pos c5] at H
  have c5b0 : ((rd l0 x5_1) == a1) = true := beq_iff_eq.mpr c5
  have c5b1 : ((rd l0 x5_1) != a1) = false := bne_eq_false_iff_eq.mpr c5
  clear c5
  obtain rfl := Option.some.inj H
  have p396 : 0 ≤ (x5_1 : Int) := dt_
  have q396 : x5_1 < (l0.length : Int) := dt_
  obtain ⟨ad396, e396, hx396_0⟩ := Kd.at_int HR0.out x5_1 p396 q396
  cases e396
  replace p396 := eq_true p396
  replace q396 := eq_true q396
  go_wp2
  go_ret
  exact ⟨by first | rfl | (simp; done) | (simp [*]; done), by repeat (first | exact Drawn0.refl _ | apply Drawn0.step)⟩

/-! ### spec_l15Within: function 76 -/
def spec_l15Within.l0 : Nat → List Int → List Int → Int → Option (Bool)
  | 0, _, _, _ => none
  | k + 1, x0, x1, x5 => if x5 < (x0.length : Int) then (if 0 ≤ x5 then ((spec_l9Has.f k x1 (rd x0 x5)).bind fun t398 => (if t398 = true then (spec_l15Within.l0 k x0 x1 (wrap64 (x5 + 1))) else (some false))) else (none)) else (some true)
def spec_l15Within.f (k : Nat) (l0 : List Int) (l1 : List Int) : Option (Bool) := spec_l15Within.l0 k l0 l1 0
theorem spec_l15Within.mono_l : ∀ k, (∀ y0 y1 y2, LeO (spec_l15Within.l0 k y0 y1 y2) (spec_l15Within.l0 (k + 1) y0 y1 y2))
  | 0 => fun _ _ _ r h => by simp [spec_l15Within.l0] at h
  | k + 1 => by
    have ih0 := spec_l15Within.mono_l k
    · intro y0 y1 y2
      unfold spec_l15Within.l0
      repeat' first
      | (with_reducible exact ih0 _ _ _)
      | (with_reducible exact spec_l9Has.mono _ _ _)
      | (with_reducible exact LeO.refl _)
      | (with_reducible exact LeO.none _)
      | (with_reducible refine LeO.ite ?_ ?_)
      | (with_reducible refine LeO.bind ?_ (fun _ => ?_))
      | exact ih0 _ _ _
      | exact spec_l9Has.mono _ _ _
      | exact LeO.none _
      | refine LeO.ite ?_ ?_
      | refine LeO.bind ?_ (fun _ => ?_)
theorem spec_l15Within.mono : ∀ a0 a1 k, LeO (spec_l15Within.f k a0 a1) (spec_l15Within.f (k + 1) a0 a1) := by
  intro a0 a1 k
  have ih0 := spec_l15Within.mono_l k
  unfold spec_l15Within.f
  repeat' first
      | (with_reducible exact ih0 _ _ _)
      | (with_reducible exact spec_l9Has.mono _ _ _)
      | (with_reducible exact LeO.refl _)
      | (with_reducible exact LeO.none _)
      | (with_reducible refine LeO.ite ?_ ?_)
      | (with_reducible refine LeO.bind ?_ (fun _ => ?_))
      | exact ih0 _ _ _
      | exact spec_l9Has.mono _ _ _
      | exact LeO.none _
      | refine LeO.ite ?_ ?_
      | refine LeO.bind ?_ (fun _ => ?_)
set_option maxHeartbeats 8000000 in
set_option maxRecDepth 100000 in
theorem spec_l15Within.calls (k : Nat) (A0 : Option Addr) (c0 : Nat) (l0 : List Int) (A1 : Option Addr) (c1 : Nat) (l1 : List Int) (r : Bool) (w : World) (hr0 : Kd.C (Kd.int .i64) w A0 l0.length l0) (hc0 : l0.length ≤ c0) (hr1 : Kd.C (Kd.int .i64) w A1 l1.length l1) (hc1 : l1.length ≤ c1) (h : spec_l15Within.f k l0 l1 = some r) :
    Calls Try.prog 76 #[.slice A0 l0.length c0, .slice A1 l1.length c1] w fun e w' => e = .returned (.bool r) ∧ Drawn0 w w' := by
  have HR0 := Aside0.mk hr0
  have HC0 := Aside0.mk hc0
  clear hr0 hc0
  have HR1 := Aside0.mk hr1
  have HC1 := Aside0.mk hc1
  clear hr1 hc1
  have H : (spec_l15Within.l0 k l0 l1 0) = some r := h
  clear h
  have H' := Aside0.mk H
  clear H
  go_enter Try.func76, Try.ntmps76
  go_wp2
  go_loopg [5] k (fun kq v5 w' => ∃ (x5_1 : Int), v5 = .int .i64 x5_1 ∧ Aside0 (spec_l15Within.l0 kq l0 l1 x5_1 = some r) ∧ Aside0 (kq ≤ k) ∧ Drawn0 w w')
  case atStart => exact ⟨(0), el_, H', ⟨Nat.le_refl _⟩, by repeat (first | exact Drawn0.refl _ | apply Drawn0.step)⟩
  clear H'
  try clear c1
  try clear p2
  obtain ⟨x5_1, rfl, HA, HK1, ⟨m1, rfl⟩⟩ := hrel
  rcases gk with _ | k1
  · exact absurd HA.out (by simp [spec_l15Within.l0])
  have H := HA.out
  clear HA
  simp only [spec_l15Within.l0] at H
  by_cases c3 : x5_1 < (l0.length : Int)
  rotate_left
  · rw [if_neg c3] at H
    have c3b0 : decide (x5_1 < (l0.length : Int)) = false := decide_eq_false c3
    clear c3
    obtain rfl := Option.some.inj H
    go_wp2
    go_ret
    exact ⟨by first | rfl | (simp; done) | (simp [*]; done), by repeat (first | exact Drawn0.refl _ | apply Drawn0.step)⟩
  rw [if_pos c3] at H
  have c3b0 : decide (x5_1 < (l0.length : Int)) = true := decide_eq_true c3
  clear c3
  by_cases c4 : 0 ≤ x5_1
  rotate_left
  · rw [if_neg c4] at H
    exact absurd H (by simp)
  rw [if_pos c4] at H
  have c4b0 : decide (0 ≤ x5_1) = true := decide_eq_true c4
  clear c4
  replace H := Option.bind_eq_some_iff.mp H
  obtain ⟨t398, A50, H⟩ := H
  (try dsimp only at H)
  have A5 := Aside0.mk A50
  clear A50
  have HS_ := Aside0.mk H
  clear H
  have p397 : 0 ≤ (x5_1 : Int) := dt_
  have q397 : x5_1 < (l0.length : Int) := dt_
  obtain ⟨ad397, e397, hx397_0⟩ := Kd.at_int HR0.out x5_1 p397 q397
  cases e397
  replace p397 := eq_true p397
  replace q397 := eq_true q397
  go_upto_if 18 with (first | ((with_reducible refine gate_callee (f := 90) rfl ?_); refine gl_ (some 17) Try.func90 #[.slice A1 l1.length c1, .int .i64 (rd l0 x5_1)] ?_; (with_reducible refine (spec_l9Has.calls k1 _ _ l1 (rd l0 x5_1) t398 _ ?side1 ?side2 A5.out).mono ?_); (case side1 => exact pc_ HR1.out); (case side2 => exact HC1.out); rintro e w' ⟨rfl, ⟨nd, rfl⟩⟩; refine ⟨_, rfl, ?_⟩))
  (try simp only [Act.put, List.setIfInBounds_toArray, List.set_cons_zero, List.set_cons_succ])
  have H := HS_.out
  clear HS_
  by_cases c6 : t398 = true
  rotate_left
  · replace c6 := Bool.eq_false_iff.mpr c6
    subst c6
    rw [if_neg (show ¬ (false = true) by decide)] at H
    obtain rfl := Option.some.inj H
    go_wp2
    go_ret
    exact ⟨by first | rfl | (simp; done) | (simp [*]; done), by repeat (first | exact Drawn0.refl _ | apply Drawn0.step)⟩
  subst c6
  rw [if_pos rfl] at H
  have H' := Aside0.mk H
  clear H
  go_wp2
  go_roundg k1
  case measure => have := HK1.out; omega
  case rel => exact ⟨(wrap64 (x5_1 + 1)), el_, H', ⟨by have := HK1.out; omega⟩, by repeat (first | exact Drawn0.refl _ | apply Drawn0.step)⟩

/-! ### spec_l14End: function 77 -/
def spec_l14End.f (a0_0 : Int) (l0_1 : List Bool) (l0_2 : List (S78)) (a1 : Int) : Option (Bool) := (spec_l1In.f a1 0 (wrap64 ((l0_1.length : Int) - 1))).bind fun t400 => (if t400 = true then (if 0 ≤ a1 then (if a1 < (l0_1.length : Int) then (some (rdOf false l0_1 a1)) else (none)) else (none)) else (some false))
set_option maxHeartbeats 8000000 in
set_option maxRecDepth 100000 in
theorem spec_l14End.calls (a0_0 : Int) (A0_1 : Option Addr) (c0_1 : Nat) (l0_1 : List Bool) (A0_2 : Option Addr) (c0_2 : Nat) (l0_2 : List (S78)) (a1 : Int) (r : Bool) (w : World) (hr0_1 : Kd.C Kd.bool w A0_1 l0_1.length l0_1) (hc0_1 : l0_1.length ≤ c0_1) (hr0_2 : Kd.C k78 w A0_2 l0_2.length l0_2) (hc0_2 : l0_2.length ≤ c0_2) (h : spec_l14End.f a0_0 l0_1 l0_2 a1 = some r) :
    Calls Try.prog 77 #[.agg #[.int .i64 a0_0, .slice A0_1 l0_1.length c0_1, .slice A0_2 l0_2.length c0_2], .int .i64 a1] w fun e w' => e = .returned (.bool r) ∧ Below w.heap.size w w' := by
  have hu34 := Try.underlying34
  have HR0_1 := Aside0.mk hr0_1
  have HC0_1 := Aside0.mk hc0_1
  clear hr0_1 hc0_1
  have HR0_2 := Aside0.mk hr0_2
  have HC0_2 := Aside0.mk hc0_2
  clear hr0_2 hc0_2
  have HB := Aside0.mk (Below.refl w.heap.size w)
  have H : ((spec_l1In.f a1 0 (wrap64 ((l0_1.length : Int) - 1))).bind fun t400 => (if t400 = true then (if 0 ≤ a1 then (if a1 < (l0_1.length : Int) then (some (rdOf false l0_1 a1)) else (none)) else (none)) else (some false))) = some r := h
  clear h
  have HS_ := Aside0.mk H
  clear H
  go_enter Try.func77, Try.ntmps77
  go_upto_region 1 with (first | ((with_reducible refine gate_dst (N := 2) rfl ?_); refine box_event ?hg (N := 2) ?hd (cs := #[.int .i64 a0_0, .slice A0_1 l0_1.length c0_1, .slice A0_2 l0_2.length c0_2]) (t := 34) ?hr ?_; (case hd => rfl); (case hg => rfl); (case hr => first | (go_simp; done) | (go_simp; rfl)); intro gb399 hg w3 hbox hb; have n0_ := Aside0.mk (below_step (pb_ HB.out) hb); have n1_ := Aside0.mk (hbox); have n2_ := Aside0.mk ((by rw [hg]; exact (below_size (pb_ HB.out)) : w.heap.size ≤ gb399)); have n3_ := Aside0.mk ((by rw [hg]; exact (below_size (pb_ HB.out)) : w.heap.size ≤ gb399)); clear HB; have HB := n0_; have BK399 := n1_; have GW399 := n2_; have GE399 := n3_; clear n0_ n1_ n2_ n3_; clear hb hbox hg))
  (try simp only [Act.put, List.setIfInBounds_toArray, List.set_cons_zero, List.set_cons_succ])
  have H := HS_.out
  clear HS_
  replace H := Option.bind_eq_some_iff.mp H
  obtain ⟨t400, A40, H⟩ := H
  (try dsimp only at H)
  have A4 := Aside0.mk A40
  clear A40
  by_cases c5 : t400 = true
  rotate_left
  · replace c5 := Bool.eq_false_iff.mpr c5
    subst c5
    rw [if_neg (show ¬ (false = true) by decide)] at H
    obtain rfl := Option.some.inj H
    obtain ⟨hcz6_0, hcz6_1, hcz6_2, hfz6_0, hfz6_1, hfz6_2⟩ := bc3_ BK399.out
    go_wp2_with (first | ((with_reducible refine gate_callee (f := 45) rfl ?_); refine gl_ (some 10) Try.func45 #[.int .i64 a1, .int .i64 0, .int .i64 (wrap64 ((l0_1.length : Int) - 1))] ?_; (with_reducible refine (spec_l1In.calls a1 0 (wrap64 ((l0_1.length : Int) - 1)) false _ A4.out).mono ?_); rintro e w' ⟨rfl, ⟨nd, rfl⟩⟩; refine ⟨_, rfl, ?_⟩))
    go_ret
    exact ⟨er_, pb1_ HB.out GE399.out⟩
  subst c5
  rw [if_pos rfl] at H
  by_cases c7 : 0 ≤ a1
  rotate_left
  · rw [if_neg c7] at H
    exact absurd H (by simp)
  rw [if_pos c7] at H
  have c7b0 : decide (0 ≤ a1) = true := decide_eq_true c7
  clear c7
  (first | rw [c7b0] | (simp only [i64_w, i32_w]; rw [c7b0]) | skip)
  by_cases c8 : a1 < (l0_1.length : Int)
  rotate_left
  · rw [if_neg c8] at H
    exact absurd H (by simp)
  rw [if_pos c8] at H
  have c8b0 : decide (a1 < (l0_1.length : Int)) = true := decide_eq_true c8
  clear c8
  obtain rfl := Option.some.inj H
  obtain ⟨hcz9_0, hcz9_1, hcz9_2, hfz9_0, hfz9_1, hfz9_2⟩ := bc3_ BK399.out
  go_wp2_with (first | ((with_reducible refine gate_callee (f := 45) rfl ?_); refine gl_ (some 10) Try.func45 #[.int .i64 a1, .int .i64 0, .int .i64 (wrap64 ((l0_1.length : Int) - 1))] ?_; (with_reducible refine (spec_l1In.calls a1 0 (wrap64 ((l0_1.length : Int) - 1)) true _ A4.out).mono ?_); rintro e w' ⟨rfl, ⟨nd, rfl⟩⟩; refine ⟨_, rfl, ?_⟩; have p401 : 0 ≤ (a1 : Int) := dt_; have q401 : a1 < (l0_1.length : Int) := dt_; obtain ⟨ad401, e401, hx401_0⟩ := Kd.at_bool HR0_1.out a1 p401 q401; cases e401; replace hx401_0 := bt_ HB hx401_0; replace p401 := eq_true p401; replace q401 := eq_true q401))
  go_ret
  exact ⟨er_, pb1_ HB.out GE399.out⟩

/-! ### spec_FollowsAt: function 63 -/
def spec_FollowsAt.j0 : Nat → Int → Int → Bool → Int → List Bool → List (S78) → Int → List Bool → List (S78) → Option (Bool)
  | 0, _, _, _, _, _, _, _, _, _ => none
  | k + 1, x2, x3, x53, x403000, x403001, x403002, x404000, x404001, x404002 => if x53 = true then (some false) else ((spec_l14End.f x404000 x404001 x404002 x3).bind fun t418 => (if t418 = true then ((spec_l14End.f x403000 x403001 x403002 x2).bind fun t419 => (some t419)) else (some true)))
def spec_FollowsAt.f (k : Nat) (a0_0 : Int) (l0_1 : List Bool) (l0_2 : List (S78)) (a1_0 : Int) (l1_1 : List Bool) (l1_2 : List (S78)) (a2 : Int) (a3 : Int) : Option (Bool) := (spec_MovesFrom.f k a0_0 l0_1 l0_2 a2 true).bind fun t404 => ((spec_MovesFrom.f k a1_0 l1_1 l1_2 a3 true).bind fun t407 => ((spec_MovesFrom.f k a0_0 l0_1 l0_2 a2 false).bind fun t410 => ((spec_MovesFrom.f k a1_0 l1_1 l1_2 a3 false).bind fun t413 => ((spec_l15Within.f k t413 t410).bind fun t416 => (if t416 = true then ((spec_l15Within.f k t404 t407).bind fun t417 => (if t417 = true then (if (t407.length : Int) > 0 then (if (t404.length : Int) > 0 then (if (t413.length : Int) = 0 then (spec_FollowsAt.j0 k a2 a3 (decide ((t410.length : Int) > 0)) a0_0 l0_1 l0_2 a1_0 l1_1 l1_2) else (spec_FollowsAt.j0 k a2 a3 false a0_0 l0_1 l0_2 a1_0 l1_1 l1_2)) else (spec_FollowsAt.j0 k a2 a3 true a0_0 l0_1 l0_2 a1_0 l1_1 l1_2)) else (if (t404.length : Int) > 0 then (spec_FollowsAt.j0 k a2 a3 true a0_0 l0_1 l0_2 a1_0 l1_1 l1_2) else (if (t413.length : Int) = 0 then (spec_FollowsAt.j0 k a2 a3 (decide ((t410.length : Int) > 0)) a0_0 l0_1 l0_2 a1_0 l1_1 l1_2) else (spec_FollowsAt.j0 k a2 a3 false a0_0 l0_1 l0_2 a1_0 l1_1 l1_2)))) else (spec_FollowsAt.j0 k a2 a3 true a0_0 l0_1 l0_2 a1_0 l1_1 l1_2))) else (spec_FollowsAt.j0 k a2 a3 true a0_0 l0_1 l0_2 a1_0 l1_1 l1_2))))))
theorem spec_FollowsAt.mono_l : ∀ k, (∀ y0 y1 y2 y3 y4 y5 y6 y7 y8, LeO (spec_FollowsAt.j0 k y0 y1 y2 y3 y4 y5 y6 y7 y8) (spec_FollowsAt.j0 (k + 1) y0 y1 y2 y3 y4 y5 y6 y7 y8))
  | 0 => fun _ _ _ _ _ _ _ _ _ r h => by simp [spec_FollowsAt.j0] at h
  | k + 1 => by
    have ih0 := spec_FollowsAt.mono_l k
    · intro y0 y1 y2 y3 y4 y5 y6 y7 y8
      unfold spec_FollowsAt.j0
      repeat' first
      | (with_reducible exact ih0 _ _ _ _ _ _ _ _ _)
      | (with_reducible exact spec_MovesFrom.mono _ _ _ _ _ _)
      | (with_reducible exact spec_l15Within.mono _ _ _)
      | (with_reducible exact LeO.refl _)
      | (with_reducible exact LeO.none _)
      | (with_reducible refine LeO.ite ?_ ?_)
      | (with_reducible refine LeO.bind ?_ (fun _ => ?_))
      | exact ih0 _ _ _ _ _ _ _ _ _
      | exact spec_MovesFrom.mono _ _ _ _ _ _
      | exact spec_l15Within.mono _ _ _
      | exact LeO.none _
      | refine LeO.ite ?_ ?_
      | refine LeO.bind ?_ (fun _ => ?_)
theorem spec_FollowsAt.mono : ∀ a0 a1 a2 a3 a4 a5 a6 a7 k, LeO (spec_FollowsAt.f k a0 a1 a2 a3 a4 a5 a6 a7) (spec_FollowsAt.f (k + 1) a0 a1 a2 a3 a4 a5 a6 a7) := by
  intro a0 a1 a2 a3 a4 a5 a6 a7 k
  have ih0 := spec_FollowsAt.mono_l k
  unfold spec_FollowsAt.f
  repeat' first
      | (with_reducible exact ih0 _ _ _ _ _ _ _ _ _)
      | (with_reducible exact spec_MovesFrom.mono _ _ _ _ _ _)
      | (with_reducible exact spec_l15Within.mono _ _ _)
      | (with_reducible exact LeO.refl _)
      | (with_reducible exact LeO.none _)
      | (with_reducible refine LeO.ite ?_ ?_)
      | (with_reducible refine LeO.bind ?_ (fun _ => ?_))
      | exact ih0 _ _ _ _ _ _ _ _ _
      | exact spec_MovesFrom.mono _ _ _ _ _ _
      | exact spec_l15Within.mono _ _ _
      | exact LeO.none _
      | refine LeO.ite ?_ ?_
      | refine LeO.bind ?_ (fun _ => ?_)
set_option maxHeartbeats 8000000 in
set_option maxRecDepth 100000 in
theorem spec_FollowsAt.calls (k : Nat) (a0_0 : Int) (A0_1 : Option Addr) (c0_1 : Nat) (l0_1 : List Bool) (A0_2 : Option Addr) (c0_2 : Nat) (l0_2 : List (S78)) (a1_0 : Int) (A1_1 : Option Addr) (c1_1 : Nat) (l1_1 : List Bool) (A1_2 : Option Addr) (c1_2 : Nat) (l1_2 : List (S78)) (a2 : Int) (a3 : Int) (r : Bool) (w : World) (hr0_1 : Kd.C Kd.bool w A0_1 l0_1.length l0_1) (hc0_1 : l0_1.length ≤ c0_1) (hr0_2 : Kd.C k78 w A0_2 l0_2.length l0_2) (hc0_2 : l0_2.length ≤ c0_2) (hr1_1 : Kd.C Kd.bool w A1_1 l1_1.length l1_1) (hc1_1 : l1_1.length ≤ c1_1) (hr1_2 : Kd.C k78 w A1_2 l1_2.length l1_2) (hc1_2 : l1_2.length ≤ c1_2) (h : spec_FollowsAt.f k a0_0 l0_1 l0_2 a1_0 l1_1 l1_2 a2 a3 = some r) :
    Calls Try.prog 63 #[.agg #[.int .i64 a0_0, .slice A0_1 l0_1.length c0_1, .slice A0_2 l0_2.length c0_2], .agg #[.int .i64 a1_0, .slice A1_1 l1_1.length c1_1, .slice A1_2 l1_2.length c1_2], .int .i64 a2, .int .i64 a3] w fun e w' => e = .returned (.bool r) ∧ Below w.heap.size w w' := by
  have hu34 := Try.underlying34
  have HR0_1 := Aside0.mk hr0_1
  have HC0_1 := Aside0.mk hc0_1
  clear hr0_1 hc0_1
  have HR0_2 := Aside0.mk hr0_2
  have HC0_2 := Aside0.mk hc0_2
  clear hr0_2 hc0_2
  have HR1_1 := Aside0.mk hr1_1
  have HC1_1 := Aside0.mk hc1_1
  clear hr1_1 hc1_1
  have HR1_2 := Aside0.mk hr1_2
  have HC1_2 := Aside0.mk hc1_2
  clear hr1_2 hc1_2
  have HB := Aside0.mk (Below.refl w.heap.size w)
  have H : ((spec_MovesFrom.f k a0_0 l0_1 l0_2 a2 true).bind fun t404 => ((spec_MovesFrom.f k a1_0 l1_1 l1_2 a3 true).bind fun t407 => ((spec_MovesFrom.f k a0_0 l0_1 l0_2 a2 false).bind fun t410 => ((spec_MovesFrom.f k a1_0 l1_1 l1_2 a3 false).bind fun t413 => ((spec_l15Within.f k t413 t410).bind fun t416 => (if t416 = true then ((spec_l15Within.f k t404 t407).bind fun t417 => (if t417 = true then (if (t407.length : Int) > 0 then (if (t404.length : Int) > 0 then (if (t413.length : Int) = 0 then (spec_FollowsAt.j0 k a2 a3 (decide ((t410.length : Int) > 0)) a0_0 l0_1 l0_2 a1_0 l1_1 l1_2) else (spec_FollowsAt.j0 k a2 a3 false a0_0 l0_1 l0_2 a1_0 l1_1 l1_2)) else (spec_FollowsAt.j0 k a2 a3 true a0_0 l0_1 l0_2 a1_0 l1_1 l1_2)) else (if (t404.length : Int) > 0 then (spec_FollowsAt.j0 k a2 a3 true a0_0 l0_1 l0_2 a1_0 l1_1 l1_2) else (if (t413.length : Int) = 0 then (spec_FollowsAt.j0 k a2 a3 (decide ((t410.length : Int) > 0)) a0_0 l0_1 l0_2 a1_0 l1_1 l1_2) else (spec_FollowsAt.j0 k a2 a3 false a0_0 l0_1 l0_2 a1_0 l1_1 l1_2)))) else (spec_FollowsAt.j0 k a2 a3 true a0_0 l0_1 l0_2 a1_0 l1_1 l1_2))) else (spec_FollowsAt.j0 k a2 a3 true a0_0 l0_1 l0_2 a1_0 l1_1 l1_2))))))) = some r := h
  clear h
  replace H := Option.bind_eq_some_iff.mp H
  obtain ⟨t404, A50, H⟩ := H
  (try dsimp only at H)
  have A5 := Aside0.mk A50
  clear A50
  replace H := Option.bind_eq_some_iff.mp H
  obtain ⟨t407, A60, H⟩ := H
  (try dsimp only at H)
  have A6 := Aside0.mk A60
  clear A60
  replace H := Option.bind_eq_some_iff.mp H
  obtain ⟨t410, A70, H⟩ := H
  (try dsimp only at H)
  have A7 := Aside0.mk A70
  clear A70
  replace H := Option.bind_eq_some_iff.mp H
  obtain ⟨t413, A80, H⟩ := H
  (try dsimp only at H)
  have A8 := Aside0.mk A80
  clear A80
  have HC9 := Aside0.mk H
  clear H
  go_enter Try.func63, Try.ntmps63
  go_upto_region 5 with (first | ((with_reducible refine gate_dst (N := 4) rfl ?_); (try (refine gate_guard (by rfl) ?_; dsimp only)); refine box_event ?hg (N := 4) ?hd (cs := #[.int .i64 a0_0, .slice A0_1 l0_1.length c0_1, .slice A0_2 l0_2.length c0_2]) (t := 34) ?hr ?_; (case hd => rfl); (case hg => rfl); (case hr => first | (go_simp; done) | (go_simp; rfl)); intro gb402 hg w10 hbox hb; have n0_ := Aside0.mk (below_step (pb_ HB.out) hb); have n1_ := Aside0.mk (hbox); have n2_ := Aside0.mk ((by rw [hg]; exact (below_size (pb_ HB.out)) : w.heap.size ≤ gb402)); have n3_ := Aside0.mk ((by rw [hg]; exact (below_size (pb_ HB.out)) : w.heap.size ≤ gb402)); clear HB; have HB := n0_; have BK402 := n1_; have GW402 := n2_; have GE402 := n3_; clear n0_ n1_ n2_ n3_; clear hb hbox hg) | ((with_reducible refine gate_dst (N := 5) rfl ?_); (try (refine gate_guard (by rfl) ?_; dsimp only)); refine box_event ?hg (N := 5) ?hd (cs := #[.int .i64 a1_0, .slice A1_1 l1_1.length c1_1, .slice A1_2 l1_2.length c1_2]) (t := 34) ?hr ?_; (case hd => rfl); (case hg => rfl); (case hr => first | (go_simp; done) | (go_simp; rfl)); intro gb403 hg w11 hbox hb; have n0_ := Aside0.mk (bb_ BK402.out hb); have n1_ := Aside0.mk (below_step (pb1_ HB.out GE402.out) hb); have n2_ := Aside0.mk (hbox); have n3_ := Aside0.mk ((by rw [hg]; exact (below_size (pb1_ HB.out GE402.out)) : w.heap.size ≤ gb403)); have n4_ := Aside0.mk ((by rw [hg]; exact (below_size (pb1_ HB.out GE402.out)) : w.heap.size ≤ gb403)); have n5_ := Aside0.mk ((by rw [hg]; exact Nat.ne_of_lt (blk_lt (pk_ BK402.out)) : gb402 ≠ gb403)); have n6_ := Aside0.mk ((by rw [hg]; exact Nat.ne_of_gt (blk_lt (pk_ BK402.out)) : gb403 ≠ gb402)); clear BK402; clear HB; have BK402 := n0_; have HB := n1_; have BK403 := n2_; have GW403 := n3_; have GE403 := n4_; have NB402_403 := n5_; have NB403_402 := n6_; clear n0_ n1_ n2_ n3_ n4_ n5_ n6_; clear hb hbox hg; have hnb12 := NB402_403.out; have hnc12 := NB403_402.out; obtain ⟨hcz13_0, hcz13_1, hcz13_2, hfz13_0, hfz13_1, hfz13_2⟩ := bc3_ BK402.out) | ((with_reducible refine gate_callee (f := 70) rfl ?_); refine gl_ (some 15) Try.func70 #[.agg #[.int .i64 a0_0, .slice A0_1 l0_1.length c0_1, .slice A0_2 l0_2.length c0_2], .int .i64 a2, .bool true] ?_; (with_reducible refine (spec_MovesFrom.calls k a0_0 _ _ l0_1 _ _ l0_2 a2 true t404 _ ?side1 ?side2 ?side3 ?side4 A5.out).mono ?_); (case side1 => exact cb_ HR0_1 HB); (case side2 => exact HC0_1.out); (case side3 => exact cb_ HR0_2 HB); (case side4 => exact HC0_2.out); rintro e w14 ⟨v405, rfl, ho0, hb⟩; refine ⟨_, rfl, ?_⟩; have _ := Aside0.mk (Kd.R_lower ho0 (below_size (pb2_ HB.out GE402.out GE403.out))); have _ := Aside0.mk (bb_ BK402.out hb); have _ := Aside0.mk (bb_ BK403.out hb); have _ := Aside0.mk (below_step (pb2_ HB.out GE402.out GE403.out) hb); clear BK402 BK403 HB; rename_i HO406 BK402 BK403 HB; (try clear hb); (try clear hb2); (try clear hk); (try clear hi); (try clear ho0); obtain ⟨hcz15_0, hcz15_1, hcz15_2, hfz15_0, hfz15_1, hfz15_2⟩ := bc3_ BK403.out) | ((with_reducible refine gate_callee (f := 70) rfl ?_); refine gl_ (some 18) Try.func70 #[.agg #[.int .i64 a1_0, .slice A1_1 l1_1.length c1_1, .slice A1_2 l1_2.length c1_2], .int .i64 a3, .bool true] ?_; (with_reducible refine (spec_MovesFrom.calls k a1_0 _ _ l1_1 _ _ l1_2 a3 true t407 _ ?side1 ?side2 ?side3 ?side4 A6.out).mono ?_); (case side1 => exact cb_ HR1_1 HB); (case side2 => exact HC1_1.out); (case side3 => exact cb_ HR1_2 HB); (case side4 => exact HC1_2.out); rintro e w16 ⟨v408, rfl, ho0, hb⟩; refine ⟨_, rfl, ?_⟩; have _ := Aside0.mk (Kd.R_elder' (pr_ HO406.out) (Kd.R_base ho0) hb); have _ := Aside0.mk (Kd.R_lower (Kd.R_new' ho0 (Kd.R_lt (pr_ HO406.out))) (below_size (pb2_ HB.out GE402.out GE403.out))); have _ := Aside0.mk (bb_ BK402.out hb); have _ := Aside0.mk (bb_ BK403.out hb); have _ := Aside0.mk (below_step (pb2_ HB.out GE402.out GE403.out) hb); clear HO406 BK402 BK403 HB; rename_i HO406 HO409 BK402 BK403 HB; (try clear hb); (try clear hb2); (try clear hk); (try clear hi); (try clear ho0); obtain ⟨hcz17_0, hcz17_1, hcz17_2, hfz17_0, hfz17_1, hfz17_2⟩ := bc3_ BK402.out) | ((with_reducible refine gate_callee (f := 70) rfl ?_); refine gl_ (some 21) Try.func70 #[.agg #[.int .i64 a0_0, .slice A0_1 l0_1.length c0_1, .slice A0_2 l0_2.length c0_2], .int .i64 a2, .bool false] ?_; (with_reducible refine (spec_MovesFrom.calls k a0_0 _ _ l0_1 _ _ l0_2 a2 false t410 _ ?side1 ?side2 ?side3 ?side4 A7.out).mono ?_); (case side1 => exact cb_ HR0_1 HB); (case side2 => exact HC0_1.out); (case side3 => exact cb_ HR0_2 HB); (case side4 => exact HC0_2.out); rintro e w18 ⟨v411, rfl, ho0, hb⟩; refine ⟨_, rfl, ?_⟩; have _ := Aside0.mk (Kd.R_elder' (pr_ HO406.out) (Kd.R_base ho0) hb); have _ := Aside0.mk (Kd.R_elder' (pr_ HO409.out) (Kd.R_base ho0) hb); have _ := Aside0.mk (Kd.R_lower (Kd.R_new' (Kd.R_new' ho0 (Kd.R_lt (pr_ HO406.out))) (Kd.R_lt (pr_ HO409.out))) (below_size (pb2_ HB.out GE402.out GE403.out))); have _ := Aside0.mk (bb_ BK402.out hb); have _ := Aside0.mk (bb_ BK403.out hb); have _ := Aside0.mk (below_step (pb2_ HB.out GE402.out GE403.out) hb); clear HO406 HO409 BK402 BK403 HB; rename_i HO406 HO409 HO412 BK402 BK403 HB; (try clear hb); (try clear hb2); (try clear hk); (try clear hi); (try clear ho0); obtain ⟨hcz19_0, hcz19_1, hcz19_2, hfz19_0, hfz19_1, hfz19_2⟩ := bc3_ BK403.out) | ((with_reducible refine gate_callee (f := 70) rfl ?_); refine gl_ (some 24) Try.func70 #[.agg #[.int .i64 a1_0, .slice A1_1 l1_1.length c1_1, .slice A1_2 l1_2.length c1_2], .int .i64 a3, .bool false] ?_; (with_reducible refine (spec_MovesFrom.calls k a1_0 _ _ l1_1 _ _ l1_2 a3 false t413 _ ?side1 ?side2 ?side3 ?side4 A8.out).mono ?_); (case side1 => exact cb_ HR1_1 HB); (case side2 => exact HC1_1.out); (case side3 => exact cb_ HR1_2 HB); (case side4 => exact HC1_2.out); rintro e w20 ⟨v414, rfl, ho0, hb⟩; refine ⟨_, rfl, ?_⟩; have _ := Aside0.mk (Kd.R_elder' (pr_ HO406.out) (Kd.R_base ho0) hb); have _ := Aside0.mk (Kd.R_elder' (pr_ HO409.out) (Kd.R_base ho0) hb); have _ := Aside0.mk (Kd.R_elder' (pr_ HO412.out) (Kd.R_base ho0) hb); have _ := Aside0.mk (Kd.R_lower (Kd.R_new' (Kd.R_new' (Kd.R_new' ho0 (Kd.R_lt (pr_ HO406.out))) (Kd.R_lt (pr_ HO409.out))) (Kd.R_lt (pr_ HO412.out))) (below_size (pb2_ HB.out GE402.out GE403.out))); have _ := Aside0.mk (bb_ BK402.out hb); have _ := Aside0.mk (bb_ BK403.out hb); have _ := Aside0.mk (below_step (pb2_ HB.out GE402.out GE403.out) hb); clear HO406 HO409 HO412 BK402 BK403 HB; rename_i HO406 HO409 HO412 HO415 BK402 BK403 HB; (try clear hb); (try clear hb2); (try clear hk); (try clear hi); (try clear ho0)))
  (try simp only [Act.put, List.setIfInBounds_toArray, List.set_cons_zero, List.set_cons_succ])
  go_cut [53] (fun v53 wc => ∃ (kq : Nat) (x53_8 : Bool), v53 = .bool x53_8 ∧ Aside0 (spec_FollowsAt.j0 kq a2 a3 x53_8 a0_0 l0_1 l0_2 a1_0 l1_1 l1_2 = some r) ∧ Aside0 (kq ≤ k) ∧ Aside0 (wc.heap[gb402]? = some (.cells #[.int .i64 a0_0, (.slice A0_1 l0_1.length c0_1), (.slice A0_2 l0_2.length c0_2)] 34 (0, 0))) ∧ Aside0 (wc.heap[gb403]? = some (.cells #[.int .i64 a1_0, (.slice A1_1 l1_1.length c1_1), (.slice A1_2 l1_2.length c1_2)] 34 (0, 0))) ∧ Aside0 (Below w.heap.size w wc))
  case first =>
    have H := HC9.out
    clear HC9
    replace H := Option.bind_eq_some_iff.mp H
    obtain ⟨t416, A210, H⟩ := H
    (try dsimp only at H)
    have A21 := Aside0.mk A210
    clear A210
    by_cases c22 : t416 = true
    rotate_left
    · replace c22 := Bool.eq_false_iff.mpr c22
      subst c22
      rw [if_neg (show ¬ (false = true) by decide)] at H
      have H' := Aside0.mk H
      clear H
      obtain ⟨Ao23, co23, eo23⟩ := Kd.R_slice HO415.out
      subst eo23
      obtain ⟨Ao24, co24, eo24⟩ := Kd.R_slice HO412.out
      subst eo24
      go_wp2_with (first | ((with_reducible refine gate_callee (f := 76) rfl ?_); refine gl_ (some 27) Try.func76 #[.slice Ao23 t413.length co23, .slice Ao24 t410.length co24] ?_; (with_reducible refine (spec_l15Within.calls k _ _ t413 _ _ t410 false _ ?side1 ?side2 ?side3 ?side4 A21.out).mono ?_); (case side1 => exact pc_ ((Kd.R_reads' HO415.out).2.2)); (case side2 => exact (Kd.R_reads' HO415.out).2.1); (case side3 => exact pc_ ((Kd.R_reads' HO412.out).2.2)); (case side4 => exact (Kd.R_reads' HO412.out).2.1); rintro e w' ⟨rfl, ⟨nd, rfl⟩⟩; refine ⟨_, rfl, ?_⟩))
      go_meet
      case rel => exact ⟨_, (true), el_, H', ⟨by first | omega | exact Nat.le_refl _⟩, ⟨pk_ BK402.out⟩, ⟨pk_ BK403.out⟩, ⟨pb2_ HB.out GE402.out GE403.out⟩⟩
    subst c22
    rw [if_pos rfl] at H
    replace H := Option.bind_eq_some_iff.mp H
    obtain ⟨t417, A250, H⟩ := H
    (try dsimp only at H)
    have A25 := Aside0.mk A250
    clear A250
    by_cases c26 : t417 = true
    rotate_left
    · replace c26 := Bool.eq_false_iff.mpr c26
      subst c26
      rw [if_neg (show ¬ (false = true) by decide)] at H
      have H' := Aside0.mk H
      clear H
      obtain ⟨Ao27, co27, eo27⟩ := Kd.R_slice HO415.out
      subst eo27
      obtain ⟨Ao28, co28, eo28⟩ := Kd.R_slice HO412.out
      subst eo28
      go_wp2_with (first | ((with_reducible refine gate_callee (f := 76) rfl ?_); refine gl_ (some 27) Try.func76 #[.slice Ao27 t413.length co27, .slice Ao28 t410.length co28] ?_; (with_reducible refine (spec_l15Within.calls k _ _ t413 _ _ t410 true _ ?side1 ?side2 ?side3 ?side4 A21.out).mono ?_); (case side1 => exact pc_ ((Kd.R_reads' HO415.out).2.2)); (case side2 => exact (Kd.R_reads' HO415.out).2.1); (case side3 => exact pc_ ((Kd.R_reads' HO412.out).2.2)); (case side4 => exact (Kd.R_reads' HO412.out).2.1); rintro e w' ⟨rfl, ⟨nd, rfl⟩⟩; refine ⟨_, rfl, ?_⟩; obtain ⟨Ao29, co29, eo29⟩ := Kd.R_slice HO406.out; subst eo29; obtain ⟨Ao30, co30, eo30⟩ := Kd.R_slice HO409.out; subst eo30) | (go_at_call 76; (with_reducible refine (spec_l15Within.calls k _ _ t404 _ _ t407 false _ ?side1 ?side2 ?side3 ?side4 A25.out).mono ?_); (case side1 => exact pc_ ((Kd.R_reads' HO406.out).2.2)); (case side2 => exact (Kd.R_reads' HO406.out).2.1); (case side3 => exact pc_ ((Kd.R_reads' HO409.out).2.2)); (case side4 => exact (Kd.R_reads' HO409.out).2.1); rintro e w' ⟨rfl, ⟨nd, rfl⟩⟩))
      go_meet
      case rel => exact ⟨_, (true), el_, H', ⟨by first | omega | exact Nat.le_refl _⟩, ⟨pk_ BK402.out⟩, ⟨pk_ BK403.out⟩, ⟨pb2_ HB.out GE402.out GE403.out⟩⟩
    subst c26
    rw [if_pos rfl] at H
    by_cases c31 : (t407.length : Int) > 0
    rotate_left
    · rw [if_neg c31] at H
      have c31b0 : decide (0 < (t407.length : Int)) = false := decide_eq_false c31
      have c31b1 : decide (0 < t407.length) = false := decide_eq_false (by omega)
      clear c31
      (first | rw [c31b0] | (simp only [i64_w, i32_w]; rw [c31b0]) | rw [c31b1] | skip)
      by_cases c32 : (t404.length : Int) > 0
      · rw [if_pos c32] at H
        have c32b0 : decide (0 < (t404.length : Int)) = true := decide_eq_true c32
        have c32b1 : decide (0 < t404.length) = true := decide_eq_true (by omega)
        clear c32
        have H' := Aside0.mk H
        clear H
        obtain ⟨Ao33, co33, eo33⟩ := Kd.R_slice HO415.out
        subst eo33
        obtain ⟨Ao34, co34, eo34⟩ := Kd.R_slice HO412.out
        subst eo34
        go_wp2_with (first | ((with_reducible refine gate_callee (f := 76) rfl ?_); refine gl_ (some 27) Try.func76 #[.slice Ao33 t413.length co33, .slice Ao34 t410.length co34] ?_; (with_reducible refine (spec_l15Within.calls k _ _ t413 _ _ t410 true _ ?side1 ?side2 ?side3 ?side4 A21.out).mono ?_); (case side1 => exact pc_ ((Kd.R_reads' HO415.out).2.2)); (case side2 => exact (Kd.R_reads' HO415.out).2.1); (case side3 => exact pc_ ((Kd.R_reads' HO412.out).2.2)); (case side4 => exact (Kd.R_reads' HO412.out).2.1); rintro e w' ⟨rfl, ⟨nd, rfl⟩⟩; refine ⟨_, rfl, ?_⟩; obtain ⟨Ao35, co35, eo35⟩ := Kd.R_slice HO406.out; subst eo35; obtain ⟨Ao36, co36, eo36⟩ := Kd.R_slice HO409.out; subst eo36) | (go_at_call 76; (with_reducible refine (spec_l15Within.calls k _ _ t404 _ _ t407 true _ ?side1 ?side2 ?side3 ?side4 A25.out).mono ?_); (case side1 => exact pc_ ((Kd.R_reads' HO406.out).2.2)); (case side2 => exact (Kd.R_reads' HO406.out).2.1); (case side3 => exact pc_ ((Kd.R_reads' HO409.out).2.2)); (case side4 => exact (Kd.R_reads' HO409.out).2.1); rintro e w' ⟨rfl, ⟨nd, rfl⟩⟩))
        go_meet
        case rel => exact ⟨_, (true), el_, H', ⟨by first | omega | exact Nat.le_refl _⟩, ⟨pk_ BK402.out⟩, ⟨pk_ BK403.out⟩, ⟨pb2_ HB.out GE402.out GE403.out⟩⟩
      rw [if_neg c32] at H
      have c32b0 : decide (0 < (t404.length : Int)) = false := decide_eq_false c32
      have c32b1 : decide (0 < t404.length) = false := decide_eq_false (by omega)
      clear c32
      by_cases c37 : (t413.length : Int) = 0
      rotate_left
      · rw [if_neg c37] at H
        have c37b0 : ((t413.length : Int) == 0) = false := beq_eq_false_iff_ne.mpr c37
        have c37b1 : ((t413.length : Int) != 0) = true := bne_iff_ne.mpr c37
        have c37b2 : ¬ (t413 = []) := fun h_ => c37 (by rw [h_]; rfl)
        have H' := Aside0.mk H
        clear H
        obtain ⟨Ao38, co38, eo38⟩ := Kd.R_slice HO415.out
        subst eo38
        obtain ⟨Ao39, co39, eo39⟩ := Kd.R_slice HO412.out
        subst eo39
        go_wp2_with (first | ((with_reducible refine gate_callee (f := 76) rfl ?_); refine gl_ (some 27) Try.func76 #[.slice Ao38 t413.length co38, .slice Ao39 t410.length co39] ?_; (with_reducible refine (spec_l15Within.calls k _ _ t413 _ _ t410 true _ ?side1 ?side2 ?side3 ?side4 A21.out).mono ?_); (case side1 => exact pc_ ((Kd.R_reads' HO415.out).2.2)); (case side2 => exact (Kd.R_reads' HO415.out).2.1); (case side3 => exact pc_ ((Kd.R_reads' HO412.out).2.2)); (case side4 => exact (Kd.R_reads' HO412.out).2.1); rintro e w' ⟨rfl, ⟨nd, rfl⟩⟩; refine ⟨_, rfl, ?_⟩; obtain ⟨Ao40, co40, eo40⟩ := Kd.R_slice HO406.out; subst eo40; obtain ⟨Ao41, co41, eo41⟩ := Kd.R_slice HO409.out; subst eo41) | (go_at_call 76; (with_reducible refine (spec_l15Within.calls k _ _ t404 _ _ t407 true _ ?side1 ?side2 ?side3 ?side4 A25.out).mono ?_); (case side1 => exact pc_ ((Kd.R_reads' HO406.out).2.2)); (case side2 => exact (Kd.R_reads' HO406.out).2.1); (case side3 => exact pc_ ((Kd.R_reads' HO409.out).2.2)); (case side4 => exact (Kd.R_reads' HO409.out).2.1); rintro e w' ⟨rfl, ⟨nd, rfl⟩⟩))
        go_meet
        case rel => exact ⟨_, (false), el_, H', ⟨by first | omega | exact Nat.le_refl _⟩, ⟨pk_ BK402.out⟩, ⟨pk_ BK403.out⟩, ⟨pb2_ HB.out GE402.out GE403.out⟩⟩
      rw [if_pos c37] at H
      have c37b0 : ((t413.length : Int) == 0) = true := beq_iff_eq.mpr c37
      have c37b1 : ((t413.length : Int) != 0) = false := bne_eq_false_iff_eq.mpr c37
      clear c37
      have H' := Aside0.mk H
      clear H
      obtain ⟨Ao42, co42, eo42⟩ := Kd.R_slice HO415.out
      subst eo42
      obtain ⟨Ao43, co43, eo43⟩ := Kd.R_slice HO412.out
      subst eo43
      go_wp2_with (first | ((with_reducible refine gate_callee (f := 76) rfl ?_); refine gl_ (some 27) Try.func76 #[.slice Ao42 t413.length co42, .slice Ao43 t410.length co43] ?_; (with_reducible refine (spec_l15Within.calls k _ _ t413 _ _ t410 true _ ?side1 ?side2 ?side3 ?side4 A21.out).mono ?_); (case side1 => exact pc_ ((Kd.R_reads' HO415.out).2.2)); (case side2 => exact (Kd.R_reads' HO415.out).2.1); (case side3 => exact pc_ ((Kd.R_reads' HO412.out).2.2)); (case side4 => exact (Kd.R_reads' HO412.out).2.1); rintro e w' ⟨rfl, ⟨nd, rfl⟩⟩; refine ⟨_, rfl, ?_⟩; obtain ⟨Ao44, co44, eo44⟩ := Kd.R_slice HO406.out; subst eo44; obtain ⟨Ao45, co45, eo45⟩ := Kd.R_slice HO409.out; subst eo45) | (go_at_call 76; (with_reducible refine (spec_l15Within.calls k _ _ t404 _ _ t407 true _ ?side1 ?side2 ?side3 ?side4 A25.out).mono ?_); (case side1 => exact pc_ ((Kd.R_reads' HO406.out).2.2)); (case side2 => exact (Kd.R_reads' HO406.out).2.1); (case side3 => exact pc_ ((Kd.R_reads' HO409.out).2.2)); (case side4 => exact (Kd.R_reads' HO409.out).2.1); rintro e w' ⟨rfl, ⟨nd, rfl⟩⟩))
      go_meet
      case rel => exact ⟨_, (decide ((t410.length : Int) > 0)), el_, H', ⟨by first | omega | exact Nat.le_refl _⟩, ⟨pk_ BK402.out⟩, ⟨pk_ BK403.out⟩, ⟨pb2_ HB.out GE402.out GE403.out⟩⟩
    rw [if_pos c31] at H
    have c31b0 : decide (0 < (t407.length : Int)) = true := decide_eq_true c31
    have c31b1 : decide (0 < t407.length) = true := decide_eq_true (by omega)
    clear c31
    (first | rw [c31b0] | (simp only [i64_w, i32_w]; rw [c31b0]) | rw [c31b1] | skip)
    by_cases c46 : (t404.length : Int) > 0
    rotate_left
    · rw [if_neg c46] at H
      have c46b0 : decide (0 < (t404.length : Int)) = false := decide_eq_false c46
      have c46b1 : decide (0 < t404.length) = false := decide_eq_false (by omega)
      clear c46
      have H' := Aside0.mk H
      clear H
      obtain ⟨Ao47, co47, eo47⟩ := Kd.R_slice HO415.out
      subst eo47
      obtain ⟨Ao48, co48, eo48⟩ := Kd.R_slice HO412.out
      subst eo48
      go_wp2_with (first | ((with_reducible refine gate_callee (f := 76) rfl ?_); refine gl_ (some 27) Try.func76 #[.slice Ao47 t413.length co47, .slice Ao48 t410.length co48] ?_; (with_reducible refine (spec_l15Within.calls k _ _ t413 _ _ t410 true _ ?side1 ?side2 ?side3 ?side4 A21.out).mono ?_); (case side1 => exact pc_ ((Kd.R_reads' HO415.out).2.2)); (case side2 => exact (Kd.R_reads' HO415.out).2.1); (case side3 => exact pc_ ((Kd.R_reads' HO412.out).2.2)); (case side4 => exact (Kd.R_reads' HO412.out).2.1); rintro e w' ⟨rfl, ⟨nd, rfl⟩⟩; refine ⟨_, rfl, ?_⟩; obtain ⟨Ao49, co49, eo49⟩ := Kd.R_slice HO406.out; subst eo49; obtain ⟨Ao50, co50, eo50⟩ := Kd.R_slice HO409.out; subst eo50) | (go_at_call 76; (with_reducible refine (spec_l15Within.calls k _ _ t404 _ _ t407 true _ ?side1 ?side2 ?side3 ?side4 A25.out).mono ?_); (case side1 => exact pc_ ((Kd.R_reads' HO406.out).2.2)); (case side2 => exact (Kd.R_reads' HO406.out).2.1); (case side3 => exact pc_ ((Kd.R_reads' HO409.out).2.2)); (case side4 => exact (Kd.R_reads' HO409.out).2.1); rintro e w' ⟨rfl, ⟨nd, rfl⟩⟩))
      go_meet
      case rel => exact ⟨_, (true), el_, H', ⟨by first | omega | exact Nat.le_refl _⟩, ⟨pk_ BK402.out⟩, ⟨pk_ BK403.out⟩, ⟨pb2_ HB.out GE402.out GE403.out⟩⟩
    rw [if_pos c46] at H
    have c46b0 : decide (0 < (t404.length : Int)) = true := decide_eq_true c46
    have c46b1 : decide (0 < t404.length) = true := decide_eq_true (by omega)
    clear c46
    by_cases c51 : (t413.length : Int) = 0
    rotate_left
    · rw [if_neg c51] at H
      have c51b0 : ((t413.length : Int) == 0) = false := beq_eq_false_iff_ne.mpr c51
      have c51b1 : ((t413.length : Int) != 0) = true := bne_iff_ne.mpr c51
      have c51b2 : ¬ (t413 = []) := fun h_ => c51 (by rw [h_]; rfl)
      have H' := Aside0.mk H
      clear H
      obtain ⟨Ao52, co52, eo52⟩ := Kd.R_slice HO415.out
      subst eo52
      obtain ⟨Ao53, co53, eo53⟩ := Kd.R_slice HO412.out
      subst eo53
      go_wp2_with (first | ((with_reducible refine gate_callee (f := 76) rfl ?_); refine gl_ (some 27) Try.func76 #[.slice Ao52 t413.length co52, .slice Ao53 t410.length co53] ?_; (with_reducible refine (spec_l15Within.calls k _ _ t413 _ _ t410 true _ ?side1 ?side2 ?side3 ?side4 A21.out).mono ?_); (case side1 => exact pc_ ((Kd.R_reads' HO415.out).2.2)); (case side2 => exact (Kd.R_reads' HO415.out).2.1); (case side3 => exact pc_ ((Kd.R_reads' HO412.out).2.2)); (case side4 => exact (Kd.R_reads' HO412.out).2.1); rintro e w' ⟨rfl, ⟨nd, rfl⟩⟩; refine ⟨_, rfl, ?_⟩; obtain ⟨Ao54, co54, eo54⟩ := Kd.R_slice HO406.out; subst eo54; obtain ⟨Ao55, co55, eo55⟩ := Kd.R_slice HO409.out; subst eo55) | (go_at_call 76; (with_reducible refine (spec_l15Within.calls k _ _ t404 _ _ t407 true _ ?side1 ?side2 ?side3 ?side4 A25.out).mono ?_); (case side1 => exact pc_ ((Kd.R_reads' HO406.out).2.2)); (case side2 => exact (Kd.R_reads' HO406.out).2.1); (case side3 => exact pc_ ((Kd.R_reads' HO409.out).2.2)); (case side4 => exact (Kd.R_reads' HO409.out).2.1); rintro e w' ⟨rfl, ⟨nd, rfl⟩⟩))
      go_meet
      case rel => exact ⟨_, (false), el_, H', ⟨by first | omega | exact Nat.le_refl _⟩, ⟨pk_ BK402.out⟩, ⟨pk_ BK403.out⟩, ⟨pb2_ HB.out GE402.out GE403.out⟩⟩
    rw [if_pos c51] at H
    have c51b0 : ((t413.length : Int) == 0) = true := beq_iff_eq.mpr c51
    have c51b1 : ((t413.length : Int) != 0) = false := bne_eq_false_iff_eq.mpr c51
    clear c51
    have H' := Aside0.mk H
    clear H
    obtain ⟨Ao56, co56, eo56⟩ := Kd.R_slice HO415.out
    subst eo56
    obtain ⟨Ao57, co57, eo57⟩ := Kd.R_slice HO412.out
    subst eo57
    go_wp2_with (first | ((with_reducible refine gate_callee (f := 76) rfl ?_); refine gl_ (some 27) Try.func76 #[.slice Ao56 t413.length co56, .slice Ao57 t410.length co57] ?_; (with_reducible refine (spec_l15Within.calls k _ _ t413 _ _ t410 true _ ?side1 ?side2 ?side3 ?side4 A21.out).mono ?_); (case side1 => exact pc_ ((Kd.R_reads' HO415.out).2.2)); (case side2 => exact (Kd.R_reads' HO415.out).2.1); (case side3 => exact pc_ ((Kd.R_reads' HO412.out).2.2)); (case side4 => exact (Kd.R_reads' HO412.out).2.1); rintro e w' ⟨rfl, ⟨nd, rfl⟩⟩; refine ⟨_, rfl, ?_⟩; obtain ⟨Ao58, co58, eo58⟩ := Kd.R_slice HO406.out; subst eo58; obtain ⟨Ao59, co59, eo59⟩ := Kd.R_slice HO409.out; subst eo59) | (go_at_call 76; (with_reducible refine (spec_l15Within.calls k _ _ t404 _ _ t407 true _ ?side1 ?side2 ?side3 ?side4 A25.out).mono ?_); (case side1 => exact pc_ ((Kd.R_reads' HO406.out).2.2)); (case side2 => exact (Kd.R_reads' HO406.out).2.1); (case side3 => exact pc_ ((Kd.R_reads' HO409.out).2.2)); (case side4 => exact (Kd.R_reads' HO409.out).2.1); rintro e w' ⟨rfl, ⟨nd, rfl⟩⟩))
    go_meet
    case rel => exact ⟨_, (decide ((t410.length : Int) > 0)), el_, H', ⟨by first | omega | exact Nat.le_refl _⟩, ⟨pk_ BK402.out⟩, ⟨pk_ BK403.out⟩, ⟨pb2_ HB.out GE402.out GE403.out⟩⟩
  clear HC9
  try clear c1
  try clear c2
  try clear p2
  try clear c3
  try clear c4
  try clear c5
  try clear c6
  try clear c7
  try clear c12
  try clear c22
  try clear c26
  try clear c31
  try clear c31b0
  try clear c31b1
  try clear c32
  try clear c32b0
  try clear c32b1
  try clear c37
  try clear c37b0
  try clear c37b1
  try clear c37b2
  try clear c46
  try clear c46b0
  try clear c46b1
  try clear c51
  try clear c51b0
  try clear c51b1
  try clear c51b2
  try clear hcz13_0
  try clear hcz13_1
  try clear hcz13_2
  try clear hcz15_0
  try clear hcz15_1
  try clear hcz15_2
  try clear hcz17_0
  try clear hcz17_1
  try clear hcz17_2
  try clear hcz19_0
  try clear hcz19_1
  try clear hcz19_2
  try clear hfz13_0
  try clear hfz13_1
  try clear hfz13_2
  try clear hfz15_0
  try clear hfz15_1
  try clear hfz15_2
  try clear hfz17_0
  try clear hfz17_1
  try clear hfz17_2
  try clear hfz19_0
  try clear hfz19_1
  try clear hfz19_2
  obtain ⟨kq, x53_8, rfl, HA, HJ8, BK402, BK403, HB⟩ := hcut
  rcases kq with _ | kj8
  · exact absurd HA.out (by simp [spec_FollowsAt.j0])
  have H := HA.out
  clear HA
  simp only [spec_FollowsAt.j0] at H
  by_cases c60 : x53_8 = true
  · subst c60
    rw [if_pos rfl] at H
    obtain rfl := Option.some.inj H
    go_wp2
    go_ret
    exact ⟨er_, pb2_ HB.out GE402.out GE403.out⟩
  replace c60 := Bool.eq_false_iff.mpr c60
  subst c60
  rw [if_neg (show ¬ (false = true) by decide)] at H
  replace H := Option.bind_eq_some_iff.mp H
  obtain ⟨t418, A610, H⟩ := H
  (try dsimp only at H)
  have A61 := Aside0.mk A610
  clear A610
  by_cases c62 : t418 = true
  rotate_left
  · replace c62 := Bool.eq_false_iff.mpr c62
    subst c62
    rw [if_neg (show ¬ (false = true) by decide)] at H
    obtain rfl := Option.some.inj H
    have hnb63 := NB403_402.out
    have hnc63 := NB402_403.out
    obtain ⟨hcz64_0, hcz64_1, hcz64_2, hfz64_0, hfz64_1, hfz64_2⟩ := bc3_ BK403.out
    go_wp2_with (first | ((with_reducible refine gate_callee (f := 77) rfl ?_); refine gl_ (some 56) Try.func77 #[.agg #[.int .i64 a1_0, .slice A1_1 l1_1.length c1_1, .slice A1_2 l1_2.length c1_2], .int .i64 a3] ?_; (with_reducible refine (spec_l14End.calls a1_0 _ _ l1_1 _ _ l1_2 a3 false _ ?side1 ?side2 ?side3 ?side4 A61.out).mono ?_); (case side1 => exact cb_ HR1_1 HB); (case side2 => exact HC1_1.out); (case side3 => exact cb_ HR1_2 HB); (case side4 => exact HC1_2.out); rintro e w65 ⟨rfl, hb⟩; refine ⟨_, rfl, ?_⟩; have _ := Aside0.mk (bb_ BK402.out hb); have _ := Aside0.mk (bb_ BK403.out hb); have _ := Aside0.mk (below_step (pb2_ HB.out GE402.out GE403.out) hb); clear BK402 BK403 HB; rename_i BK402 BK403 HB; (try clear hb); (try clear hb2); (try clear hk); (try clear hi)))
    go_ret
    exact ⟨er_, pb2_ HB.out GE402.out GE403.out⟩
  subst c62
  rw [if_pos rfl] at H
  replace H := Option.bind_eq_some_iff.mp H
  obtain ⟨t419, A660, H⟩ := H
  replace H : (some t419) = some r := H
  have A66 := Aside0.mk A660
  clear A660
  obtain rfl := Option.some.inj H
  have hnb67 := NB403_402.out
  have hnc67 := NB402_403.out
  obtain ⟨hcz68_0, hcz68_1, hcz68_2, hfz68_0, hfz68_1, hfz68_2⟩ := bc3_ BK403.out
  go_wp2_with (first | ((with_reducible refine gate_callee (f := 77) rfl ?_); refine gl_ (some 56) Try.func77 #[.agg #[.int .i64 a1_0, .slice A1_1 l1_1.length c1_1, .slice A1_2 l1_2.length c1_2], .int .i64 a3] ?_; (with_reducible refine (spec_l14End.calls a1_0 _ _ l1_1 _ _ l1_2 a3 true _ ?side1 ?side2 ?side3 ?side4 A61.out).mono ?_); (case side1 => exact cb_ HR1_1 HB); (case side2 => exact HC1_1.out); (case side3 => exact cb_ HR1_2 HB); (case side4 => exact HC1_2.out); rintro e w69 ⟨rfl, hb⟩; refine ⟨_, rfl, ?_⟩; have _ := Aside0.mk (bb_ BK402.out hb); have _ := Aside0.mk (bb_ BK403.out hb); have _ := Aside0.mk (below_step (pb2_ HB.out GE402.out GE403.out) hb); clear BK402 BK403 HB; rename_i BK402 BK403 HB; (try clear hb); (try clear hb2); (try clear hk); (try clear hi); obtain ⟨hcz70_0, hcz70_1, hcz70_2, hfz70_0, hfz70_1, hfz70_2⟩ := bc3_ BK402.out) | (go_at_call 77; (with_reducible refine (spec_l14End.calls a0_0 _ _ l0_1 _ _ l0_2 a2 t419 _ ?side1 ?side2 ?side3 ?side4 A66.out).mono ?_); (case side1 => exact cb_ HR0_1 HB); (case side2 => exact HC0_1.out); (case side3 => exact cb_ HR0_2 HB); (case side4 => exact HC0_2.out); rintro e w71 ⟨rfl, hb⟩; have _ := Aside0.mk (bb_ BK402.out hb); have _ := Aside0.mk (bb_ BK403.out hb); have _ := Aside0.mk (below_step (pb2_ HB.out GE402.out GE403.out) hb); clear BK402 BK403 HB; rename_i BK402 BK403 HB; (try clear hb); (try clear hb2); (try clear hk); (try clear hi)))
  go_ret
  exact ⟨er_, pb2_ HB.out GE402.out GE403.out⟩

end Go.Proofs.Ytldcchjbaglppaa.Print
