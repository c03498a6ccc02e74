-- Written by a program of this session (printx.py) out of the translation; Lean checks it.
import Derived.Test.YtldcchjbaglppaaPrint0
import Derived.Test.YtldcchjbaglppaaPrint3
import Derived.Test.YtldcchjbaglppaaPrint10
import Derived.Test.YtldcchjbaglppaaPrint15
namespace Go.Proofs.Ytldcchjbaglppaa.Print
open Go.RowKit Go.Proofs.YtldcchjbaglppaaW.PrintWords Go.Proofs.YtldcchjbaglppaaW.PrintLast Go.Proofs.YtldcchjbaglppaaW.PrintMore Go.Proofs.Ytldcchjbaglppaa.Short
attribute [local go_sem] max2_int min2_int max_two min_two max_three min_three max_four min_four   -- for this text's walks alone
set_option linter.unusedVariables false
set_option linter.unusedSimpArgs false

/-! ### spec_FarFollows: function 24 -/
def spec_FarFollows.f (k : Nat) (l0 : List (S34)) (a1 : Int) (a2 : Int) : Option (Bool) := (spec_l1In.f a1 0 (wrap64 ((l0.length : Int) - 1))).bind fun t448 => (if t448 = true then ((spec_l1In.f a2 a1 (wrap64 ((l0.length : Int) - 1))).bind fun t449 => (if t449 = true then (if 0 ≤ a2 then (if a2 < (l0.length : Int) then (if 0 ≤ a1 then (if a1 < (l0.length : Int) then ((spec_Follows.f k ((rd_T34 l0 a2).f0) ((rd_T34 l0 a2).f1) ((rd_T34 l0 a2).f2) ((rd_T34 l0 a1).f0) ((rd_T34 l0 a1).f1) ((rd_T34 l0 a1).f2)).bind fun t452 => (some t452)) else (none)) else (none)) else (none)) else (none)) else (some false))) else (some false))
theorem spec_FarFollows.mono : ∀ a0 a1 a2 k, LeO (spec_FarFollows.f k a0 a1 a2) (spec_FarFollows.f (k + 1) a0 a1 a2) := by
  intro a0 a1 a2 k
  unfold spec_FarFollows.f
  repeat' first
      | (with_reducible exact spec_Follows.mono _ _ _ _ _ _ _)
      | (with_reducible exact LeO.refl _)
      | (with_reducible exact LeO.none _)
      | (with_reducible refine LeO.ite ?_ ?_)
      | (with_reducible refine LeO.bind ?_ (fun _ => ?_))
      | exact spec_Follows.mono _ _ _ _ _ _ _
      | exact LeO.none _
      | refine LeO.ite ?_ ?_
      | refine LeO.bind ?_ (fun _ => ?_)
def spec_FarFollows.T1 : Bool × List (List Nat × List Nat) := (true, [([], []), ([], []), ([1], [1]), ([2], [2]), ([0, 3], [0, 3]), ([4, 4], [4]), ([5], [5]), ([5], [5]), ([5], [5]), ([8, 5], [5, 8]), ([9, 5], [5, 9]), ([6, 7, 10, 5, 5], [5, 6, 7, 10]), ([5, 11], [5, 11]), ([12, 11], [12]), ([13], [13]), ([13], [13]), ([14, 15, 13], [13, 14, 15]), ([16, 13], [13, 16]), ([13], [13]), ([13], [13]), ([18, 19, 13], [13, 18, 19]), ([20, 13], [13, 20]), ([17, 21, 13, 13], [13, 17, 21]), ([13, 22], [13, 22]), ([23, 22, 0, 1, 2, 3, 4, 5, 6, 7, 8, 9, 10, 11, 12, 13, 14, 15, 16, 17, 18, 19, 20, 21, 22, 23], [23])])
def spec_FarFollows.B1 : List Nat := [0, 0, 2, 6, 15, 31, 63, 63, 63, 319, 831, 2047, 4095, 8191, 16383, 16383, 65535, 131071, 16383, 16383, 802815, 1851391, 4194303, 8388607, 16777215]
theorem spec_FarFollows.tab1 : rtab .any (opsOf Try.f24 1) = spec_FarFollows.T1 := by kernel_rfl
theorem spec_FarFollows.bits1 : waitsOk spec_FarFollows.T1.2 spec_FarFollows.B1 = true := by kernel_rfl
set_option maxHeartbeats 8000000 in
set_option maxRecDepth 100000 in
theorem spec_FarFollows.calls (k : Nat) (A0 : Option Addr) (c0 : Nat) (l0 : List (S34)) (a1 : Int) (a2 : Int) (r : Bool) (w : World) (hr0 : Kd.C k34 w A0 l0.length l0) (hc0 : l0.length ≤ c0) (h : spec_FarFollows.f k l0 a1 a2 = some r) :
    Calls Try.prog 24 #[.slice A0 l0.length c0, .int .i64 a1, .int .i64 a2] w fun e w' => e = .returned (.bool r) ∧ Below w.heap.size w w' := by
  have hu34 := Try.underlying34
  have HR0 := Aside0.mk hr0
  have HC0 := Aside0.mk hc0
  clear hr0 hc0
  have HB := Aside0.mk (Below.refl w.heap.size w)
  have H : ((spec_l1In.f a1 0 (wrap64 ((l0.length : Int) - 1))).bind fun t448 => (if t448 = true then ((spec_l1In.f a2 a1 (wrap64 ((l0.length : Int) - 1))).bind fun t449 => (if t449 = true then (if 0 ≤ a2 then (if a2 < (l0.length : Int) then (if 0 ≤ a1 then (if a1 < (l0.length : Int) then ((spec_Follows.f k ((rd_T34 l0 a2).f0) ((rd_T34 l0 a2).f1) ((rd_T34 l0 a2).f2) ((rd_T34 l0 a1).f0) ((rd_T34 l0 a1).f1) ((rd_T34 l0 a1).f2)).bind fun t452 => (some t452)) else (none)) else (none)) else (none)) else (none)) else (some false))) else (some false))) = some r := h
  clear h
  replace H := Option.bind_eq_some_iff.mp H
  obtain ⟨t448, A40, H⟩ := H
  (try dsimp only at H)
  have A4 := Aside0.mk A40
  clear A40
  by_cases c5 : t448 = true
  rotate_left
  · replace c5 := Bool.eq_false_iff.mpr c5
    subst c5
    rw [if_neg (show ¬ (false = true) by decide)] at H
    obtain rfl := Option.some.inj H
    go_enter Try.func24, Try.ntmps24
    try go_wp2
    have _ := Aside0.mk (below_drew1 HB.out)
    clear HB
    rename_i HB
    refine start_ (n := 25) (S := fun w' => True) (ds := []) (tf_ 0 25) (by kernel_rfl) rfl rfl trivial (fun hHeld => ?_); refine with_tabW spec_FarFollows.tab1 spec_FarFollows.bits1 (fun HT_ HW_ => ?_)
    generalize w.drew = w6 at HB hHeld ⊢
    refine pu_ 0 (some 7) (tf_ 1 25) HT_ ?_
    refine pu_ 1 (some 8) (tf_ 2 25) HT_ ?_
    refine pu_ 2 (some 9) (tf_ 3 25) HT_ ?_
    refine pu_ 3 (some 10) (tf_ 4 25) HT_ ?_
    refine on_ 4 (some 11) (tf_ 5 25) HT_ (fun K hK => ?_)
    refine goes_ Try.func45 (by kernel_rfl) rfl #[.int .i64 a1, .int .i64 0, .int .i64 (wrap64 ((l0.length : Int) - 1))] (by rfl) rfl rfl mp_ ?_
    with_reducible refine (spec_l1In.calls a1 0 (wrap64 ((l0.length : Int) - 1)) false _ A4.out).mono ?_
    rintro e w' ⟨rfl, ⟨nd, rfl⟩⟩
    refine ⟨_, rfl, ?_⟩
    refine hK.out _ _ trivial (fun hHeld => ?_)
    clear hK K
    refine no_ (some 11) ?_
    refine pu_ 5 (some 12) (tf_ 6 25) HT_ ?_
    refine pn_ 6 (some 13) (tf_ 7 25) HT_ ?_
    refine pn_ 7 (some 14) (tf_ 8 25) HT_ ?_
    refine pn_ 8 (some 15) (tf_ 9 25) HT_ ?_
    refine pn_ 9 (some 16) (tf_ 10 25) HT_ ?_
    refine pn_ 10 (some 17) (tf_ 11 25) HT_ ?_
    refine pn_ 11 (some 18) (tf_ 12 25) HT_ ?_
    refine pu_ 12 (some 19) (tf_ 13 25) HT_ ?_
    refine pu_ 13 (some 20) (tf_ 14 25) HT_ ?_
    refine pn_ 14 (some 21) (tf_ 15 25) HT_ ?_
    refine pn_ 15 (some 22) (tf_ 16 25) HT_ ?_
    refine pn_ 16 (some 23) (tf_ 17 25) HT_ ?_
    refine pn_ 17 (some 24) (tf_ 18 25) HT_ ?_
    refine pn_ 18 (some 25) (tf_ 19 25) HT_ ?_
    refine pn_ 19 (some 26) (tf_ 20 25) HT_ ?_
    refine pn_ 20 (some 27) (tf_ 21 25) HT_ ?_
    refine pn_ 21 (some 28) (tf_ 22 25) HT_ ?_
    refine pn_ 22 (some 29) (tf_ 23 25) HT_ ?_
    refine pu_ 23 (some 30) (tf_ 24 25) HT_ ?_
    refine pu_ 24 (some 6) (tf_ 25 25) HT_ ?_
    refine done_ (done_of HT_.out (by kernel_rfl)) ?_
    try go_wp2
    go_ret
    exact ⟨er_, pb_ HB.out⟩
  subst c5
  rw [if_pos rfl] at H
  replace H := Option.bind_eq_some_iff.mp H
  obtain ⟨t449, A70, H⟩ := H
  (try dsimp only at H)
  have A7 := Aside0.mk A70
  clear A70
  by_cases c8 : t449 = true
  rotate_left
  · replace c8 := Bool.eq_false_iff.mpr c8
    subst c8
    rw [if_neg (show ¬ (false = true) by decide)] at H
    obtain rfl := Option.some.inj H
    go_enter Try.func24, Try.ntmps24
    try go_wp2
    have _ := Aside0.mk (below_drew1 HB.out)
    clear HB
    rename_i HB
    refine start_ (n := 25) (S := fun w' => True) (ds := []) (tf_ 0 25) (by kernel_rfl) rfl rfl trivial (fun hHeld => ?_); refine with_tabW spec_FarFollows.tab1 spec_FarFollows.bits1 (fun HT_ HW_ => ?_)
    generalize w.drew = w9 at HB hHeld ⊢
    refine pu_ 0 (some 7) (tf_ 1 25) HT_ ?_
    refine pu_ 1 (some 8) (tf_ 2 25) HT_ ?_
    refine pu_ 2 (some 9) (tf_ 3 25) HT_ ?_
    refine pu_ 3 (some 10) (tf_ 4 25) HT_ ?_
    refine on_ 4 (some 11) (tf_ 5 25) HT_ (fun K hK => ?_)
    refine goes_ Try.func45 (by kernel_rfl) rfl #[.int .i64 a1, .int .i64 0, .int .i64 (wrap64 ((l0.length : Int) - 1))] (by rfl) rfl rfl mp_ ?_
    with_reducible refine (spec_l1In.calls a1 0 (wrap64 ((l0.length : Int) - 1)) true _ A4.out).mono ?_
    rintro e w' ⟨rfl, ⟨nd, rfl⟩⟩
    refine ⟨_, rfl, ?_⟩
    refine hK.out _ _ trivial (fun hHeld => ?_)
    clear hK K
    refine no_ (some 11) ?_
    refine pu_ 5 (some 12) (tf_ 6 25) HT_ ?_
    refine pu_ 6 (some 13) (tf_ 7 25) HT_ ?_
    refine pu_ 7 (some 14) (tf_ 8 25) HT_ ?_
    refine pu_ 8 (some 15) (tf_ 9 25) HT_ ?_
    refine pu_ 9 (some 16) (tf_ 10 25) HT_ ?_
    refine pu_ 10 (some 17) (tf_ 11 25) HT_ ?_
    refine on_ 11 (some 18) (tf_ 12 25) HT_ (fun K hK => ?_)
    refine goes_ Try.func45 (by kernel_rfl) rfl #[.int .i64 a2, .int .i64 a1, .int .i64 (wrap64 ((l0.length : Int) - 1))] (by rfl) rfl rfl mp_ ?_
    with_reducible refine (spec_l1In.calls a2 a1 (wrap64 ((l0.length : Int) - 1)) false _ A7.out).mono ?_
    rintro e w' ⟨rfl, ⟨nd, rfl⟩⟩
    refine ⟨_, rfl, ?_⟩
    refine hK.out _ _ trivial (fun hHeld => ?_)
    clear hK K
    refine no_ (some 18) ?_
    refine pu_ 12 (some 19) (tf_ 13 25) HT_ ?_
    refine pu_ 13 (some 20) (tf_ 14 25) HT_ ?_
    refine pn_ 14 (some 21) (tf_ 15 25) HT_ ?_
    refine pn_ 15 (some 22) (tf_ 16 25) HT_ ?_
    refine pn_ 16 (some 23) (tf_ 17 25) HT_ ?_
    refine pn_ 17 (some 24) (tf_ 18 25) HT_ ?_
    refine pn_ 18 (some 25) (tf_ 19 25) HT_ ?_
    refine pn_ 19 (some 26) (tf_ 20 25) HT_ ?_
    refine pn_ 20 (some 27) (tf_ 21 25) HT_ ?_
    refine pn_ 21 (some 28) (tf_ 22 25) HT_ ?_
    refine pn_ 22 (some 29) (tf_ 23 25) HT_ ?_
    refine pu_ 23 (some 30) (tf_ 24 25) HT_ ?_
    refine pu_ 24 (some 6) (tf_ 25 25) HT_ ?_
    refine done_ (done_of HT_.out (by kernel_rfl)) ?_
    try go_wp2
    go_ret
    exact ⟨er_, pb_ HB.out⟩
  subst c8
  rw [if_pos rfl] at H
  by_cases c10 : 0 ≤ a2
  rotate_left
  · rw [if_neg c10] at H
    exact absurd H (by simp)
  rw [if_pos c10] at H
  have c10b0 : decide (0 ≤ a2) = true := decide_eq_true c10
  clear c10
  by_cases c11 : a2 < (l0.length : Int)
  rotate_left
  · rw [if_neg c11] at H
    exact absurd H (by simp)
  rw [if_pos c11] at H
  have c11b0 : decide (a2 < (l0.length : Int)) = true := decide_eq_true c11
  clear c11
  by_cases c12 : 0 ≤ a1
  rotate_left
  · rw [if_neg c12] at H
    exact absurd H (by simp)
  rw [if_pos c12] at H
  have c12b0 : decide (0 ≤ a1) = true := decide_eq_true c12
  clear c12
  by_cases c13 : a1 < (l0.length : Int)
  rotate_left
  · rw [if_neg c13] at H
    exact absurd H (by simp)
  rw [if_pos c13] at H
  have c13b0 : decide (a1 < (l0.length : Int)) = true := decide_eq_true c13
  clear c13
  replace H := Option.bind_eq_some_iff.mp H
  obtain ⟨t452, A140, H⟩ := H
  replace H : (some t452) = some r := H
  have A14 := Aside0.mk A140
  clear A140
  obtain rfl := Option.some.inj H
  go_enter Try.func24, Try.ntmps24
  try go_wp2
  have _ := Aside0.mk (below_drew1 HB.out)
  clear HB
  rename_i HB
  have p450 : 0 ≤ (a2 : Int) := dt_
  have q450 : a2 < (l0.length : Int) := dt_
  obtain ⟨ad450, A450_1, c450_1, A450_2, c450_2, e450, hx450_0, hx450_1, hx450_2, hl450_1, hi450_1, hl450_2, hi450_2⟩ := at_T34 HR0.out a2 p450 q450
  have hw450_2 := hx450_2
  have hw450_1 := hx450_1
  have hw450_0 := hx450_0
  cases e450
  replace hx450_0 := bt_ HB hx450_0
  replace hx450_1 := bt_ HB hx450_1
  replace hx450_2 := bt_ HB hx450_2
  have HR450_1 := Aside0.mk hi450_1
  have HC450_1 := Aside0.mk hl450_1
  clear hi450_1 hl450_1
  have HR450_2 := Aside0.mk hi450_2
  have HC450_2 := Aside0.mk hl450_2
  clear hi450_2 hl450_2
  replace p450 := eq_true p450
  replace q450 := eq_true q450
  have p451 : 0 ≤ (a1 : Int) := dt_
  have q451 : a1 < (l0.length : Int) := dt_
  obtain ⟨ad451, A451_1, c451_1, A451_2, c451_2, e451, hx451_0, hx451_1, hx451_2, hl451_1, hi451_1, hl451_2, hi451_2⟩ := at_T34 HR0.out a1 p451 q451
  have hw451_2 := hx451_2
  have hw451_1 := hx451_1
  have hw451_0 := hx451_0
  obtain rfl : ad450 = ad451 := (by injection e451)
  replace hx451_0 := bt_ HB hx451_0
  replace hx451_1 := bt_ HB hx451_1
  replace hx451_2 := bt_ HB hx451_2
  have HR451_1 := Aside0.mk hi451_1
  have HC451_1 := Aside0.mk hl451_1
  clear hi451_1 hl451_1
  have HR451_2 := Aside0.mk hi451_2
  have HC451_2 := Aside0.mk hl451_2
  clear hi451_2 hl451_2
  replace p451 := eq_true p451
  replace q451 := eq_true q451
  refine start_ (n := 25) (S := fun w' => w'.cell? (ad450.add ((a2).toNat * 3)) = some (.int .i64 ((rd_T34 l0 a2).f0)) ∧ w'.cell? ⟨(ad450.add ((a2).toNat * 3)).block, (ad450.add ((a2).toNat * 3)).off + 1, none⟩ = some (.slice A450_1 ((rd_T34 l0 a2).f1).length c450_1) ∧ w'.cell? ⟨(ad450.add ((a2).toNat * 3)).block, (ad450.add ((a2).toNat * 3)).off + 2, none⟩ = some (.slice A450_2 ((rd_T34 l0 a2).f2).length c450_2) ∧ w'.cell? (ad450.add ((a1).toNat * 3)) = some (.int .i64 ((rd_T34 l0 a1).f0)) ∧ w'.cell? ⟨(ad450.add ((a1).toNat * 3)).block, (ad450.add ((a1).toNat * 3)).off + 1, none⟩ = some (.slice A451_1 ((rd_T34 l0 a1).f1).length c451_1) ∧ w'.cell? ⟨(ad450.add ((a1).toNat * 3)).block, (ad450.add ((a1).toNat * 3)).off + 2, none⟩ = some (.slice A451_2 ((rd_T34 l0 a1).f2).length c451_2)) (ds := []) (tf_ 0 25) (by kernel_rfl) rfl rfl ⟨(bt_ HB hw450_0), (bt_ HB hw450_1), (bt_ HB hw450_2), (bt_ HB hw451_0), (bt_ HB hw451_1), (bt_ HB hw451_2)⟩ (fun hHeld => ?_); refine with_tabW spec_FarFollows.tab1 spec_FarFollows.bits1 (fun HT_ HW_ => ?_)
  generalize w.drew = w15 at HB HR450_1 HR450_2 HR451_1 HR451_2 hx450_0 hx450_1 hx450_2 hx451_0 hx451_1 hx451_2 hHeld ⊢
  refine pu_ 0 (some 7) (tf_ 1 25) HT_ ?_
  refine pu_ 1 (some 8) (tf_ 2 25) HT_ ?_
  refine pu_ 2 (some 9) (tf_ 3 25) HT_ ?_
  refine pu_ 3 (some 10) (tf_ 4 25) HT_ ?_
  refine on_ 4 (some 11) (tf_ 5 25) HT_ (fun K hK => ?_)
  refine goes_ Try.func45 (by kernel_rfl) rfl #[.int .i64 a1, .int .i64 0, .int .i64 (wrap64 ((l0.length : Int) - 1))] (by rfl) rfl rfl mp_ ?_
  with_reducible refine (spec_l1In.calls a1 0 (wrap64 ((l0.length : Int) - 1)) true _ A4.out).mono ?_
  rintro e w' ⟨rfl, ⟨nd, rfl⟩⟩
  refine ⟨_, rfl, ?_⟩
  refine hK.out _ _ ⟨(bt_ HB hw450_0), (bt_ HB hw450_1), (bt_ HB hw450_2), (bt_ HB hw451_0), (bt_ HB hw451_1), (bt_ HB hw451_2)⟩ (fun hHeld => ?_)
  clear hK K
  refine no_ (some 11) ?_
  refine pu_ 5 (some 12) (tf_ 6 25) HT_ ?_
  refine pu_ 6 (some 13) (tf_ 7 25) HT_ ?_
  refine pu_ 7 (some 14) (tf_ 8 25) HT_ ?_
  refine pu_ 8 (some 15) (tf_ 9 25) HT_ ?_
  refine pu_ 9 (some 16) (tf_ 10 25) HT_ ?_
  refine pu_ 10 (some 17) (tf_ 11 25) HT_ ?_
  refine on_ 11 (some 18) (tf_ 12 25) HT_ (fun K hK => ?_)
  refine goes_ Try.func45 (by kernel_rfl) rfl #[.int .i64 a2, .int .i64 a1, .int .i64 (wrap64 ((l0.length : Int) - 1))] (by rfl) rfl rfl mp_ ?_
  with_reducible refine (spec_l1In.calls a2 a1 (wrap64 ((l0.length : Int) - 1)) true _ A7.out).mono ?_
  rintro e w' ⟨rfl, ⟨nd, rfl⟩⟩
  refine ⟨_, rfl, ?_⟩
  refine hK.out _ _ ⟨(bt_ HB hw450_0), (bt_ HB hw450_1), (bt_ HB hw450_2), (bt_ HB hw451_0), (bt_ HB hw451_1), (bt_ HB hw451_2)⟩ (fun hHeld => ?_)
  clear hK K
  refine no_ (some 18) ?_
  refine pu_ 12 (some 19) (tf_ 13 25) HT_ ?_
  refine pu_ 13 (some 20) (tf_ 14 25) HT_ ?_
  refine pu_ 14 (some 21) (tf_ 15 25) HT_ ?_
  refine pu_ 15 (some 22) (tf_ 16 25) HT_ ?_
  refine pu_ 16 (some 23) (tf_ 17 25) HT_ ?_
  refine pu_ 18 (some 25) (tm_ 25 393215) HT_ ?_
  refine pu_ 19 (some 26) (tm_ 25 917503) HT_ ?_
  refine pu_ 20 (some 27) (tm_ 25 1966079) HT_ ?_
  refine ta_ 17 (some 24) (tf_ 21 25) HT_ HW_ hHeld ?_
  refine ta_ 21 (some 28) (tf_ 22 25) HT_ HW_ hHeld ?_
  refine on_ 22 (some 29) (tf_ 23 25) HT_ (fun K hK => ?_)
  refine goes_ Try.func46 (by kernel_rfl) rfl #[.agg #[.int .i64 ((rd_T34 l0 a2).f0), .slice A450_1 ((rd_T34 l0 a2).f1).length c450_1, .slice A450_2 ((rd_T34 l0 a2).f2).length c450_2], .agg #[.int .i64 ((rd_T34 l0 a1).f0), .slice A451_1 ((rd_T34 l0 a1).f1).length c451_1, .slice A451_2 ((rd_T34 l0 a1).f2).length c451_2]] (by rfl) rfl rfl mp_ ?_
  with_reducible refine (spec_Follows.calls k ((rd_T34 l0 a2).f0) _ _ ((rd_T34 l0 a2).f1) _ _ ((rd_T34 l0 a2).f2) ((rd_T34 l0 a1).f0) _ _ ((rd_T34 l0 a1).f1) _ _ ((rd_T34 l0 a1).f2) t452 _ ?side1 ?side2 ?side3 ?side4 ?side5 ?side6 ?side7 ?side8 A14.out).mono ?_
  (case side1 => exact pc_ (Kd.C_below HR450_1.out (pb_ HB.out)))
  (case side2 => exact HC450_1.out)
  (case side3 => exact pc_ (Kd.C_below HR450_2.out (pb_ HB.out)))
  (case side4 => exact HC450_2.out)
  (case side5 => exact pc_ (Kd.C_below HR451_1.out (pb_ HB.out)))
  (case side6 => exact HC451_1.out)
  (case side7 => exact pc_ (Kd.C_below HR451_2.out (pb_ HB.out)))
  (case side8 => exact HC451_2.out)
  rintro e w16 ⟨rfl, hb⟩
  refine ⟨_, rfl, ?_⟩
  have _ := Aside0.mk (below_step (pb_ HB.out) hb)
  clear HB
  rename_i HB
  (try clear hb)
  (try clear hb2)
  (try clear hk)
  (try clear hi)
  refine hK.out _ _ ⟨(bt_ HB hw450_0), (bt_ HB hw450_1), (bt_ HB hw450_2), (bt_ HB hw451_0), (bt_ HB hw451_1), (bt_ HB hw451_2)⟩ (fun hHeld => ?_)
  clear hK K
  refine no_ (some 29) ?_
  refine pu_ 23 (some 30) (tf_ 24 25) HT_ ?_
  refine pu_ 24 (some 6) (tf_ 25 25) HT_ ?_
  refine done_ (done_of HT_.out (by kernel_rfl)) ?_
  try go_wp2
  go_ret
  exact ⟨er_, pb_ HB.out⟩

/-! ### impl_FarFollows: function 25 -/
def impl_FarFollows.f (k : Nat) (l0 : List (S34)) (a1 : Int) (a2 : Int) : Option (Bool) := (impl_InRange.f a1 0 a2).bind fun t453 => (if t453 = true then (if a2 < (l0.length : Int) then (if 0 ≤ a2 then (if 0 ≤ a1 then (if a1 < (l0.length : Int) then ((impl_Follows.f k ((rd_T34 l0 a2).f0) ((rd_T34 l0 a2).f1) ((rd_T34 l0 a2).f2) ((rd_T34 l0 a1).f0) ((rd_T34 l0 a1).f1) ((rd_T34 l0 a1).f2)).bind fun t456 => (some t456)) else (none)) else (none)) else (none)) else (some false)) else (some false))
theorem impl_FarFollows.mono : ∀ a0 a1 a2 k, LeO (impl_FarFollows.f k a0 a1 a2) (impl_FarFollows.f (k + 1) a0 a1 a2) := by
  intro a0 a1 a2 k
  unfold impl_FarFollows.f
  repeat' first
      | (with_reducible exact impl_Follows.mono _ _ _ _ _ _ _)
      | (with_reducible exact LeO.refl _)
      | (with_reducible exact LeO.none _)
      | (with_reducible refine LeO.ite ?_ ?_)
      | (with_reducible refine LeO.bind ?_ (fun _ => ?_))
      | exact impl_Follows.mono _ _ _ _ _ _ _
      | exact LeO.none _
      | refine LeO.ite ?_ ?_
      | refine LeO.bind ?_ (fun _ => ?_)
def impl_FarFollows.T1 : Bool × List (List Nat × List Nat) := (true, [([], []), ([], []), ([0, 1], [0, 1]), ([2, 2], [2]), ([3], [3]), ([3], [3]), ([5, 3], [3, 5]), ([4, 6, 3], [3, 4, 6]), ([3, 7], [3, 7]), ([8, 3], [8]), ([9], [9]), ([9], [9]), ([10, 11, 9], [9, 10, 11]), ([12, 9], [9, 12]), ([9], [9]), ([9], [9]), ([14, 15, 9], [9, 14, 15]), ([16, 9], [9, 16]), ([13, 17, 9, 9], [9, 13, 17]), ([9, 18], [9, 18]), ([19, 18, 0, 1, 2, 3, 4, 5, 6, 7, 8, 9, 10, 11, 12, 13, 14, 15, 16, 17, 18, 19], [19])])
def impl_FarFollows.B1 : List Nat := [0, 0, 3, 7, 15, 15, 47, 127, 255, 511, 1023, 1023, 4095, 8191, 1023, 1023, 50175, 115711, 262143, 524287, 1048575]
theorem impl_FarFollows.tab1 : rtab .any (opsOf Try.f25 1) = impl_FarFollows.T1 := by kernel_rfl
theorem impl_FarFollows.bits1 : waitsOk impl_FarFollows.T1.2 impl_FarFollows.B1 = true := by kernel_rfl
set_option maxHeartbeats 8000000 in
set_option maxRecDepth 100000 in
theorem impl_FarFollows.calls (k : Nat) (A0 : Option Addr) (c0 : Nat) (l0 : List (S34)) (a1 : Int) (a2 : Int) (r : Bool) (w : World) (hr0 : Kd.C k34 w A0 l0.length l0) (hc0 : l0.length ≤ c0) (h : impl_FarFollows.f k l0 a1 a2 = some r) :
    Calls Try.prog 25 #[.slice A0 l0.length c0, .int .i64 a1, .int .i64 a2] w fun e w' => e = .returned (.bool r) ∧ Below w.heap.size w w' := by
  have hu34 := Try.underlying34
  have HR0 := Aside0.mk hr0
  have HC0 := Aside0.mk hc0
  clear hr0 hc0
  have HB := Aside0.mk (Below.refl w.heap.size w)
  have H : ((impl_InRange.f a1 0 a2).bind fun t453 => (if t453 = true then (if a2 < (l0.length : Int) then (if 0 ≤ a2 then (if 0 ≤ a1 then (if a1 < (l0.length : Int) then ((impl_Follows.f k ((rd_T34 l0 a2).f0) ((rd_T34 l0 a2).f1) ((rd_T34 l0 a2).f2) ((rd_T34 l0 a1).f0) ((rd_T34 l0 a1).f1) ((rd_T34 l0 a1).f2)).bind fun t456 => (some t456)) else (none)) else (none)) else (none)) else (some false)) else (some false))) = some r := h
  clear h
  replace H := Option.bind_eq_some_iff.mp H
  obtain ⟨t453, A40, H⟩ := H
  (try dsimp only at H)
  have A4 := Aside0.mk A40
  clear A40
  by_cases c5 : t453 = true
  rotate_left
  · replace c5 := Bool.eq_false_iff.mpr c5
    subst c5
    rw [if_neg (show ¬ (false = true) by decide)] at H
    obtain rfl := Option.some.inj H
    go_enter Try.func25, Try.ntmps25
    try go_wp2
    have _ := Aside0.mk (below_drew1 HB.out)
    clear HB
    rename_i HB
    refine start_ (n := 21) (S := fun w' => True) (ds := []) (tf_ 0 21) (by kernel_rfl) rfl rfl trivial (fun hHeld => ?_); refine with_tabW impl_FarFollows.tab1 impl_FarFollows.bits1 (fun HT_ HW_ => ?_)
    generalize w.drew = w6 at HB hHeld ⊢
    refine pu_ 0 (some 7) (tf_ 1 21) HT_ ?_
    refine pu_ 1 (some 8) (tf_ 2 21) HT_ ?_
    refine on_ 2 (some 9) (tf_ 3 21) HT_ (fun K hK => ?_)
    refine goes_ Try.func47 (by kernel_rfl) rfl #[.int .i64 a1, .int .i64 0, .int .i64 a2] (by rfl) rfl rfl mp_ ?_
    with_reducible refine (impl_InRange.calls a1 0 a2 false _ A4.out).mono ?_
    rintro e w' ⟨rfl, ⟨nd, rfl⟩⟩
    refine ⟨_, rfl, ?_⟩
    refine hK.out _ _ trivial (fun hHeld => ?_)
    clear hK K
    refine no_ (some 9) ?_
    refine pu_ 3 (some 10) (tf_ 4 21) HT_ ?_
    refine pn_ 4 (some 11) (tf_ 5 21) HT_ ?_
    refine pn_ 5 (some 12) (tf_ 6 21) HT_ ?_
    refine pn_ 6 (some 13) (tf_ 7 21) HT_ ?_
    refine pn_ 7 (some 14) (tf_ 8 21) HT_ ?_
    refine pu_ 8 (some 15) (tf_ 9 21) HT_ ?_
    refine pu_ 9 (some 16) (tf_ 10 21) HT_ ?_
    refine pn_ 10 (some 17) (tf_ 11 21) HT_ ?_
    refine pn_ 11 (some 18) (tf_ 12 21) HT_ ?_
    refine pn_ 12 (some 19) (tf_ 13 21) HT_ ?_
    refine pn_ 13 (some 20) (tf_ 14 21) HT_ ?_
    refine pn_ 14 (some 21) (tf_ 15 21) HT_ ?_
    refine pn_ 15 (some 22) (tf_ 16 21) HT_ ?_
    refine pn_ 16 (some 23) (tf_ 17 21) HT_ ?_
    refine pn_ 17 (some 24) (tf_ 18 21) HT_ ?_
    refine pn_ 18 (some 25) (tf_ 19 21) HT_ ?_
    refine pu_ 19 (some 26) (tf_ 20 21) HT_ ?_
    refine pu_ 20 (some 6) (tf_ 21 21) HT_ ?_
    refine done_ (done_of HT_.out (by kernel_rfl)) ?_
    try go_wp2
    go_ret
    exact ⟨er_, pb_ HB.out⟩
  subst c5
  rw [if_pos rfl] at H
  by_cases c7 : a2 < (l0.length : Int)
  rotate_left
  · rw [if_neg c7] at H
    have c7b0 : decide (a2 < (l0.length : Int)) = false := decide_eq_false c7
    clear c7
    obtain rfl := Option.some.inj H
    go_enter Try.func25, Try.ntmps25
    try go_wp2
    have _ := Aside0.mk (below_drew1 HB.out)
    clear HB
    rename_i HB
    refine start_ (n := 21) (S := fun w' => True) (ds := []) (tf_ 0 21) (by kernel_rfl) rfl rfl trivial (fun hHeld => ?_); refine with_tabW impl_FarFollows.tab1 impl_FarFollows.bits1 (fun HT_ HW_ => ?_)
    generalize w.drew = w8 at HB hHeld ⊢
    refine pu_ 0 (some 7) (tf_ 1 21) HT_ ?_
    refine pu_ 1 (some 8) (tf_ 2 21) HT_ ?_
    refine on_ 2 (some 9) (tf_ 3 21) HT_ (fun K hK => ?_)
    refine goes_ Try.func47 (by kernel_rfl) rfl #[.int .i64 a1, .int .i64 0, .int .i64 a2] (by rfl) rfl rfl mp_ ?_
    with_reducible refine (impl_InRange.calls a1 0 a2 true _ A4.out).mono ?_
    rintro e w' ⟨rfl, ⟨nd, rfl⟩⟩
    refine ⟨_, rfl, ?_⟩
    refine hK.out _ _ trivial (fun hHeld => ?_)
    clear hK K
    refine no_ (some 9) ?_
    refine pu_ 3 (some 10) (tf_ 4 21) HT_ ?_
    refine pu_ 4 (some 11) (tf_ 5 21) HT_ ?_
    refine pu_ 5 (some 12) (tf_ 6 21) HT_ ?_
    refine pu_ 6 (some 13) (tf_ 7 21) HT_ ?_
    refine pu_ 7 (some 14) (tf_ 8 21) HT_ ?_
    refine pu_ 8 (some 15) (tf_ 9 21) HT_ ?_
    refine pu_ 9 (some 16) (tf_ 10 21) HT_ ?_
    refine pn_ 10 (some 17) (tf_ 11 21) HT_ ?_
    refine pn_ 11 (some 18) (tf_ 12 21) HT_ ?_
    refine pn_ 12 (some 19) (tf_ 13 21) HT_ ?_
    refine pn_ 13 (some 20) (tf_ 14 21) HT_ ?_
    refine pn_ 14 (some 21) (tf_ 15 21) HT_ ?_
    refine pn_ 15 (some 22) (tf_ 16 21) HT_ ?_
    refine pn_ 16 (some 23) (tf_ 17 21) HT_ ?_
    refine pn_ 17 (some 24) (tf_ 18 21) HT_ ?_
    refine pn_ 18 (some 25) (tf_ 19 21) HT_ ?_
    refine pu_ 19 (some 26) (tf_ 20 21) HT_ ?_
    refine pu_ 20 (some 6) (tf_ 21 21) HT_ ?_
    refine done_ (done_of HT_.out (by kernel_rfl)) ?_
    try go_wp2
    go_ret
    exact ⟨er_, pb_ HB.out⟩
  rw [if_pos c7] at H
  have c7b0 : decide (a2 < (l0.length : Int)) = true := decide_eq_true c7
  clear c7
  by_cases c9 : 0 ≤ a2
  rotate_left
  · rw [if_neg c9] at H
    exact absurd H (by simp)
  rw [if_pos c9] at H
  have c9b0 : decide (0 ≤ a2) = true := decide_eq_true c9
  clear c9
  by_cases c10 : 0 ≤ a1
  rotate_left
  · rw [if_neg c10] at H
    exact absurd H (by simp)
  rw [if_pos c10] at H
  have c10b0 : decide (0 ≤ a1) = true := decide_eq_true c10
  clear c10
  by_cases c11 : a1 < (l0.length : Int)
  rotate_left
  · rw [if_neg c11] at H
    exact absurd H (by simp)
  rw [if_pos c11] at H
  have c11b0 : decide (a1 < (l0.length : Int)) = true := decide_eq_true c11
  clear c11
  replace H := Option.bind_eq_some_iff.mp H
  obtain ⟨t456, A120, H⟩ := H
  replace H : (some t456) = some r := H
  have A12 := Aside0.mk A120
  clear A120
  obtain rfl := Option.some.inj H
  go_enter Try.func25, Try.ntmps25
  try go_wp2
  have _ := Aside0.mk (below_drew1 HB.out)
  clear HB
  rename_i HB
  have p454 : 0 ≤ (a2 : Int) := dt_
  have q454 : a2 < (l0.length : Int) := dt_
  obtain ⟨ad454, A454_1, c454_1, A454_2, c454_2, e454, hx454_0, hx454_1, hx454_2, hl454_1, hi454_1, hl454_2, hi454_2⟩ := at_T34 HR0.out a2 p454 q454
  have hw454_2 := hx454_2
  have hw454_1 := hx454_1
  have hw454_0 := hx454_0
  cases e454
  replace hx454_0 := bt_ HB hx454_0
  replace hx454_1 := bt_ HB hx454_1
  replace hx454_2 := bt_ HB hx454_2
  have HR454_1 := Aside0.mk hi454_1
  have HC454_1 := Aside0.mk hl454_1
  clear hi454_1 hl454_1
  have HR454_2 := Aside0.mk hi454_2
  have HC454_2 := Aside0.mk hl454_2
  clear hi454_2 hl454_2
  replace p454 := eq_true p454
  replace q454 := eq_true q454
  have p455 : 0 ≤ (a1 : Int) := dt_
  have q455 : a1 < (l0.length : Int) := dt_
  obtain ⟨ad455, A455_1, c455_1, A455_2, c455_2, e455, hx455_0, hx455_1, hx455_2, hl455_1, hi455_1, hl455_2, hi455_2⟩ := at_T34 HR0.out a1 p455 q455
  have hw455_2 := hx455_2
  have hw455_1 := hx455_1
  have hw455_0 := hx455_0
  obtain rfl : ad454 = ad455 := (by injection e455)
  replace hx455_0 := bt_ HB hx455_0
  replace hx455_1 := bt_ HB hx455_1
  replace hx455_2 := bt_ HB hx455_2
  have HR455_1 := Aside0.mk hi455_1
  have HC455_1 := Aside0.mk hl455_1
  clear hi455_1 hl455_1
  have HR455_2 := Aside0.mk hi455_2
  have HC455_2 := Aside0.mk hl455_2
  clear hi455_2 hl455_2
  replace p455 := eq_true p455
  replace q455 := eq_true q455
  refine start_ (n := 21) (S := fun w' => w'.cell? (ad454.add ((a2).toNat * 3)) = some (.int .i64 ((rd_T34 l0 a2).f0)) ∧ w'.cell? ⟨(ad454.add ((a2).toNat * 3)).block, (ad454.add ((a2).toNat * 3)).off + 1, none⟩ = some (.slice A454_1 ((rd_T34 l0 a2).f1).length c454_1) ∧ w'.cell? ⟨(ad454.add ((a2).toNat * 3)).block, (ad454.add ((a2).toNat * 3)).off + 2, none⟩ = some (.slice A454_2 ((rd_T34 l0 a2).f2).length c454_2) ∧ w'.cell? (ad454.add ((a1).toNat * 3)) = some (.int .i64 ((rd_T34 l0 a1).f0)) ∧ w'.cell? ⟨(ad454.add ((a1).toNat * 3)).block, (ad454.add ((a1).toNat * 3)).off + 1, none⟩ = some (.slice A455_1 ((rd_T34 l0 a1).f1).length c455_1) ∧ w'.cell? ⟨(ad454.add ((a1).toNat * 3)).block, (ad454.add ((a1).toNat * 3)).off + 2, none⟩ = some (.slice A455_2 ((rd_T34 l0 a1).f2).length c455_2)) (ds := []) (tf_ 0 21) (by kernel_rfl) rfl rfl ⟨(bt_ HB hw454_0), (bt_ HB hw454_1), (bt_ HB hw454_2), (bt_ HB hw455_0), (bt_ HB hw455_1), (bt_ HB hw455_2)⟩ (fun hHeld => ?_); refine with_tabW impl_FarFollows.tab1 impl_FarFollows.bits1 (fun HT_ HW_ => ?_)
  generalize w.drew = w13 at HB HR454_1 HR454_2 HR455_1 HR455_2 hx454_0 hx454_1 hx454_2 hx455_0 hx455_1 hx455_2 hHeld ⊢
  refine pu_ 0 (some 7) (tf_ 1 21) HT_ ?_
  refine pu_ 1 (some 8) (tf_ 2 21) HT_ ?_
  refine on_ 2 (some 9) (tf_ 3 21) HT_ (fun K hK => ?_)
  refine goes_ Try.func47 (by kernel_rfl) rfl #[.int .i64 a1, .int .i64 0, .int .i64 a2] (by rfl) rfl rfl mp_ ?_
  with_reducible refine (impl_InRange.calls a1 0 a2 true _ A4.out).mono ?_
  rintro e w' ⟨rfl, ⟨nd, rfl⟩⟩
  refine ⟨_, rfl, ?_⟩
  refine hK.out _ _ ⟨(bt_ HB hw454_0), (bt_ HB hw454_1), (bt_ HB hw454_2), (bt_ HB hw455_0), (bt_ HB hw455_1), (bt_ HB hw455_2)⟩ (fun hHeld => ?_)
  clear hK K
  refine no_ (some 9) ?_
  refine pu_ 3 (some 10) (tf_ 4 21) HT_ ?_
  refine pu_ 4 (some 11) (tf_ 5 21) HT_ ?_
  refine pu_ 5 (some 12) (tf_ 6 21) HT_ ?_
  refine pu_ 6 (some 13) (tf_ 7 21) HT_ ?_
  refine pu_ 7 (some 14) (tf_ 8 21) HT_ ?_
  refine pu_ 8 (some 15) (tf_ 9 21) HT_ ?_
  refine pu_ 9 (some 16) (tf_ 10 21) HT_ ?_
  refine pu_ 10 (some 17) (tf_ 11 21) HT_ ?_
  refine pu_ 11 (some 18) (tf_ 12 21) HT_ ?_
  refine pu_ 12 (some 19) (tf_ 13 21) HT_ ?_
  refine pu_ 14 (some 21) (tm_ 21 24575) HT_ ?_
  refine pu_ 15 (some 22) (tm_ 21 57343) HT_ ?_
  refine pu_ 16 (some 23) (tm_ 21 122879) HT_ ?_
  refine ta_ 13 (some 20) (tf_ 17 21) HT_ HW_ hHeld ?_
  refine ta_ 17 (some 24) (tf_ 18 21) HT_ HW_ hHeld ?_
  refine on_ 18 (some 25) (tf_ 19 21) HT_ (fun K hK => ?_)
  refine goes_ Try.func48 (by kernel_rfl) rfl #[.agg #[.int .i64 ((rd_T34 l0 a2).f0), .slice A454_1 ((rd_T34 l0 a2).f1).length c454_1, .slice A454_2 ((rd_T34 l0 a2).f2).length c454_2], .agg #[.int .i64 ((rd_T34 l0 a1).f0), .slice A455_1 ((rd_T34 l0 a1).f1).length c455_1, .slice A455_2 ((rd_T34 l0 a1).f2).length c455_2]] (by rfl) rfl rfl mp_ ?_
  with_reducible refine (impl_Follows.calls k ((rd_T34 l0 a2).f0) _ _ ((rd_T34 l0 a2).f1) _ _ ((rd_T34 l0 a2).f2) ((rd_T34 l0 a1).f0) _ _ ((rd_T34 l0 a1).f1) _ _ ((rd_T34 l0 a1).f2) t456 _ ?side1 ?side2 ?side3 ?side4 ?side5 ?side6 ?side7 ?side8 A12.out).mono ?_
  (case side1 => exact pc_ (Kd.C_below HR454_1.out (pb_ HB.out)))
  (case side2 => exact HC454_1.out)
  (case side3 => exact pc_ (Kd.C_below HR454_2.out (pb_ HB.out)))
  (case side4 => exact HC454_2.out)
  (case side5 => exact pc_ (Kd.C_below HR455_1.out (pb_ HB.out)))
  (case side6 => exact HC455_1.out)
  (case side7 => exact pc_ (Kd.C_below HR455_2.out (pb_ HB.out)))
  (case side8 => exact HC455_2.out)
  rintro e w14 ⟨rfl, hb⟩
  refine ⟨_, rfl, ?_⟩
  have _ := Aside0.mk (below_step (pb_ HB.out) hb)
  clear HB
  rename_i HB
  (try clear hb)
  (try clear hb2)
  (try clear hk)
  (try clear hi)
  refine hK.out _ _ ⟨(bt_ HB hw454_0), (bt_ HB hw454_1), (bt_ HB hw454_2), (bt_ HB hw455_0), (bt_ HB hw455_1), (bt_ HB hw455_2)⟩ (fun hHeld => ?_)
  clear hK K
  refine no_ (some 25) ?_
  refine pu_ 19 (some 26) (tf_ 20 21) HT_ ?_
  refine pu_ 20 (some 6) (tf_ 21 21) HT_ ?_
  refine done_ (done_of HT_.out (by kernel_rfl)) ?_
  try go_wp2
  go_ret
  exact ⟨er_, pb_ HB.out⟩

end Go.Proofs.Ytldcchjbaglppaa.Print
