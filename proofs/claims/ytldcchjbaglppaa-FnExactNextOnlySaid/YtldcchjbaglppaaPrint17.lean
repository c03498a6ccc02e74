-- Written by a program of this session (printx.py) out of the translation; Lean checks it.
import Derived.Test.YtldcchjbaglppaaPrint0
import Derived.Test.YtldcchjbaglppaaPrint6
namespace Go.Proofs.Ytldcchjbaglppaa.Print
open Go.RowKit Go.Proofs.YtldcchjbaglppaaW.PrintWords Go.Proofs.YtldcchjbaglppaaW.PrintLast Go.Proofs.YtldcchjbaglppaaW.PrintMore Go.Proofs.Ytldcchjbaglppaa.Short
attribute [local go_sem] max2_int min2_int max_two min_two max_three min_three max_four min_four   -- for this text's walks alone
set_option linter.unusedVariables false
set_option linter.unusedSimpArgs false

/-! ### spec_NextOnly: function 34 -/
mutual
def spec_NextOnly.j0 : Nat → List (S34) → List (S34) → Bool → Option (Bool)
  | 0, _, _, _ => none
  | k + 1, x0, x1, x18 => if x18 = true then (some false) else (spec_NextOnly.l0 k x0 x1 false 0)
def spec_NextOnly.l0 : Nat → List (S34) → List (S34) → Bool → Int → Option (Bool)
  | 0, _, _, _, _ => none
  | k + 1, x0, x1, x5, x6 => if x6 < (x0.length : Int) then (spec_NextOnly.l1 k x0 x1 x5 x6 0) else (some x5)
def spec_NextOnly.l1 : Nat → List (S34) → List (S34) → Bool → Int → Int → Option (Bool)
  | 0, _, _, _, _, _ => none
  | k + 1, x0, x1, x5, x6, x7 => if x7 ≤ x6 then (if 0 ≤ x6 then (if x6 < (x0.length : Int) then (if 0 ≤ x7 then (if x7 < (x1.length : Int) then ((spec_IsSafe.f k ((rd_T34 x0 x6).f0) ((rd_T34 x0 x6).f1) ((rd_T34 x0 x6).f2) ((rd_T34 x1 x7).f0) ((rd_T34 x1 x7).f1) ((rd_T34 x1 x7).f2)).bind fun t549 => (if (wrap64 (x7 + 1)) ≥ x6 then (if t549 = true then (if x5 = true then (spec_NextOnly.l1 k x0 x1 true x6 (wrap64 (x7 + 1))) else (spec_NextOnly.l1 k x0 x1 (!t549) x6 (wrap64 (x7 + 1)))) else (some false)) else (if x5 = true then (spec_NextOnly.l1 k x0 x1 true x6 (wrap64 (x7 + 1))) else (spec_NextOnly.l1 k x0 x1 (!t549) x6 (wrap64 (x7 + 1)))))) else (none)) else (none)) else (none)) else (none)) else (spec_NextOnly.l0 k x0 x1 x5 (wrap64 (x6 + 1)))
end
def spec_NextOnly.f (k : Nat) (l0 : List (S34)) (l1 : List (S34)) : Option (Bool) := if (l0.length : Int) = (l1.length : Int) then (spec_NextOnly.j0 k l0 l1 (decide ((l0.length : Int) < 2))) else (spec_NextOnly.j0 k l0 l1 true)
theorem spec_NextOnly.mono_l : ∀ k, (∀ y0 y1 y2, LeO (spec_NextOnly.j0 k y0 y1 y2) (spec_NextOnly.j0 (k + 1) y0 y1 y2)) ∧ (∀ y0 y1 y2 y3, LeO (spec_NextOnly.l0 k y0 y1 y2 y3) (spec_NextOnly.l0 (k + 1) y0 y1 y2 y3)) ∧ (∀ y0 y1 y2 y3 y4, LeO (spec_NextOnly.l1 k y0 y1 y2 y3 y4) (spec_NextOnly.l1 (k + 1) y0 y1 y2 y3 y4))
  | 0 => ⟨fun _ _ _ r h => by simp [spec_NextOnly.j0] at h, fun _ _ _ _ r h => by simp [spec_NextOnly.l0] at h, fun _ _ _ _ _ r h => by simp [spec_NextOnly.l1] at h⟩
  | k + 1 => by
    obtain ⟨ih0, ih1, ih2⟩ := spec_NextOnly.mono_l k
    refine ⟨?_, ?_, ?_⟩
    · intro y0 y1 y2
      unfold spec_NextOnly.j0
      exact mo4_ ih0 ih1 ih2 spec_IsSafe.mono
    · intro y0 y1 y2 y3
      unfold spec_NextOnly.l0
      exact mo4_ ih0 ih1 ih2 spec_IsSafe.mono
    · intro y0 y1 y2 y3 y4
      unfold spec_NextOnly.l1
      exact mo4_ ih0 ih1 ih2 spec_IsSafe.mono
theorem spec_NextOnly.mono : ∀ a0 a1 k, LeO (spec_NextOnly.f k a0 a1) (spec_NextOnly.f (k + 1) a0 a1) := by
  intro a0 a1 k
  obtain ⟨ih0, ih1, ih2⟩ := spec_NextOnly.mono_l k
  unfold spec_NextOnly.f
  exact mo4_ ih0 ih1 ih2 spec_IsSafe.mono
def spec_NextOnly.T10 : Bool × List (List Nat × List Nat) := (true, [([], []), ([], []), ([0, 1], [0, 1]), ([2], [2]), ([], []), ([], []), ([4, 5], [4, 5]), ([6], [6]), ([3, 7], [3, 7]), ([8, 8, 0, 1, 2, 3, 4, 5, 6, 7, 8], [8])])
def spec_NextOnly.B10 : List Nat := [0, 0, 3, 7, 0, 0, 48, 112, 255, 511]
theorem spec_NextOnly.tab10 : rtab .any (opsOf Try.f34 10) = spec_NextOnly.T10 := by kernel_rfl
theorem spec_NextOnly.bits10 : waitsOk spec_NextOnly.T10.2 spec_NextOnly.B10 = true := by kernel_rfl
set_option maxHeartbeats 8000000 in
set_option maxRecDepth 100000 in
theorem spec_NextOnly.calls (k : Nat) (A0 : Option Addr) (c0 : Nat) (l0 : List (S34)) (A1 : Option Addr) (c1 : Nat) (l1 : List (S34)) (r : Bool) (w : World) (hr0 : Kd.C k34 w A0 l0.length l0) (hc0 : l0.length ≤ c0) (hr1 : Kd.C k34 w A1 l1.length l1) (hc1 : l1.length ≤ c1) (h : spec_NextOnly.f k l0 l1 = some r) :
    Calls Try.prog 34 #[.slice A0 l0.length c0, .slice A1 l1.length c1] w fun e w' => e = .returned (.bool r) ∧ Below w.heap.size w w' := by
  have hu34 := Try.underlying34
  have HR0 := Q_ hr0
  have HC0 := Q_ hc0
  clear hr0 hc0
  have HR1 := Q_ hr1
  have HC1 := Q_ hc1
  clear hr1 hc1
  have HB := Q_ (Below.refl w.heap.size w)
  have H : (if (l0.length : Int) = (l1.length : Int) then (spec_NextOnly.j0 k l0 l1 (decide ((l0.length : Int) < 2))) else (spec_NextOnly.j0 k l0 l1 true)) = some r := h
  clear h
  have HC3 := Q_ H
  clear H
  go_enter Try.func34, Try.ntmps34
  go_upto_region 1 with (fail)
  go_cut [18] (fun v18 wc => ∃ (kq : Nat) (x18_2 : Bool), v18 = .bool x18_2 ∧ Aside0 (spec_NextOnly.j0 kq l0 l1 x18_2 = some r) ∧ Aside0 (kq ≤ k) ∧ Aside0 (Below w.heap.size w wc))
  case first =>
    have H := HC3.out
    clear HC3
    by_cases c4 : (l0.length : Int) = (l1.length : Int)
    rotate_left
    · rw [if_neg c4] at H
      have c4b0 : ((l0.length : Int) == (l1.length : Int)) = false := beq_eq_false_iff_ne.mpr c4
      have c4b1 : ((l0.length : Int) != (l1.length : Int)) = true := bne_iff_ne.mpr c4
      have c4b2 : (l0.length == l1.length) = false := by first | simpa using c4 | (simp at c4 ⊢; omega)
      (first | rw [c4b0] | (simp only [i64_w, i32_w]; rw [c4b0]) | rw [c4b1] | (have c_ := c4b1; rw [bne] at c_; rw [c_]; clear c_) | rw [c4b2] | skip)
      have H' := Q_ H
      clear H
      go_wp2
      go_meet
      case rel => exact ⟨_, (true), el_, H', ⟨by first | omega | exact Nat.le_refl _⟩, ⟨pb_ HB.out⟩⟩
    rw [if_pos c4] at H
    have c4b0 : ((l0.length : Int) == (l1.length : Int)) = true := beq_iff_eq.mpr c4
    have c4b1 : ((l0.length : Int) != (l1.length : Int)) = false := bne_eq_false_iff_eq.mpr c4
    have c4b2 : (l0.length == l1.length) = true := by first | simpa using c4 | (simp at c4 ⊢; omega)
    clear c4
    (first | rw [c4b0] | (simp only [i64_w, i32_w]; rw [c4b0]) | rw [c4b1] | (have c_ := c4b1; rw [bne] at c_; rw [c_]; clear c_) | rw [c4b2] | skip)
    have H' := Q_ H
    clear H
    go_wp2
    go_meet
    case rel => exact ⟨_, (decide ((l0.length : Int) < 2)), el_, H', ⟨by first | omega | exact Nat.le_refl _⟩, ⟨pb_ HB.out⟩⟩
  clear HC3
  try clear c1
  try clear p2
  try clear c3
  try clear c4
  try clear c4b0
  try clear c4b1
  try clear c4b2
  obtain ⟨kq, x18_2, rfl, HA, HJ2, HB⟩ := hcut
  rcases kq with _ | kj2
  · exact absurd HA.out (by simp [spec_NextOnly.j0])
  have H := HA.out
  clear HA
  simp only [spec_NextOnly.j0] at H
  by_cases c5 : x18_2 = true
  rotate_left
  · replace c5 := Bool.eq_false_iff.mpr c5
    subst c5
    rw [if_neg (show ¬ (false = true) by decide)] at H
    have H' := Q_ H
    clear H
    go_wp2
    go_loopg [5, 6] kj2 (fun kq v5 v6 w' => ∃ (x5_2 : Bool) (x6_2 : Int), v5 = .bool x5_2 ∧ v6 = .int .i64 x6_2 ∧ Aside0 (spec_NextOnly.l0 kq l0 l1 x5_2 x6_2 = some r) ∧ Aside0 (kq ≤ kj2) ∧ Aside0 (Below w.heap.size w w'))
    case atStart => exact ⟨(false), (0), el_, el_, H', ⟨Nat.le_refl _⟩, ⟨pb_ HB.out⟩⟩
    clear H'
    try clear c1
    try clear p2
    try clear c3
    try clear c4
    try clear c4b0
    try clear c4b1
    try clear c4b2
    try clear c5
    try clear p2
    obtain ⟨x5_2, x6_2, rfl, rfl, HA, HK2, HB⟩ := hrel
    rcases gk with _ | k2
    · exact absurd HA.out (by simp [spec_NextOnly.l0])
    have H := HA.out
    clear HA
    simp only [spec_NextOnly.l0] at H
    by_cases c6 : x6_2 < (l0.length : Int)
    rotate_left
    · rw [if_neg c6] at H
      have c6b0 : decide (x6_2 < (l0.length : Int)) = false := decide_eq_false c6
      clear c6
      obtain rfl := Option.some.inj H
      go_wp2
      go_ret
      exact ⟨er_, pb_ HB.out⟩
    rw [if_pos c6] at H
    have c6b0 : decide (x6_2 < (l0.length : Int)) = true := decide_eq_true c6
    clear c6
    have H' := Q_ H
    clear H
    go_wp2
    go_loopg [5, 7] k2 (fun kq v5 v7 w' => ∃ (x5_3 : Bool) (x7_3 : Int), v5 = .bool x5_3 ∧ v7 = .int .i64 x7_3 ∧ Aside0 (spec_NextOnly.l1 kq l0 l1 x5_3 x6_2 x7_3 = some r) ∧ Aside0 (kq ≤ k2) ∧ Aside0 (Below w.heap.size w w'))
    case atStart => exact ⟨(x5_2), (0), el_, el_, H', ⟨Nat.le_refl _⟩, ⟨pb_ HB.out⟩⟩
    clear H'
    try clear c1
    try clear p2
    try clear c3
    try clear c4
    try clear c4b0
    try clear c4b1
    try clear c4b2
    try clear c5
    try clear c6
    try clear c6b0
    try clear p2
    obtain ⟨x5_3, x7_3, rfl, rfl, HA, HK3, HB⟩ := hrel
    rcases gk with _ | k3
    · exact absurd HA.out (by simp [spec_NextOnly.l1])
    have H := HA.out
    clear HA
    simp only [spec_NextOnly.l1] at H
    by_cases c7 : x7_3 ≤ x6_2
    rotate_left
    · rw [if_neg c7] at H
      have c7b0 : decide (x7_3 ≤ x6_2) = false := decide_eq_false c7
      clear c7
      have H' := Q_ H
      clear H
      go_wp2
      go_roundg k3
      case measure => have := HJ2.out; have := HK2.out; have := HK3.out; omega
      case rel => exact ⟨(x5_3), (wrap64 (x6_2 + 1)), el_, el_, H', ⟨by have := HJ2.out; have := HK2.out; have := HK3.out; omega⟩, ⟨pb_ HB.out⟩⟩
    rw [if_pos c7] at H
    have c7b0 : decide (x7_3 ≤ x6_2) = true := decide_eq_true c7
    clear c7
    by_cases c8 : 0 ≤ x6_2
    rotate_left
    · rw [if_neg c8] at H
      exact absurd H (by simp)
    rw [if_pos c8] at H
    have c8b0 : decide (0 ≤ x6_2) = true := decide_eq_true c8
    clear c8
    by_cases c9 : x6_2 < (l0.length : Int)
    rotate_left
    · rw [if_neg c9] at H
      exact absurd H (by simp)
    rw [if_pos c9] at H
    have c9b0 : decide (x6_2 < (l0.length : Int)) = true := decide_eq_true c9
    clear c9
    by_cases c10 : 0 ≤ x7_3
    rotate_left
    · rw [if_neg c10] at H
      exact absurd H (by simp)
    rw [if_pos c10] at H
    have c10b0 : decide (0 ≤ x7_3) = true := decide_eq_true c10
    clear c10
    by_cases c11 : x7_3 < (l1.length : Int)
    rotate_left
    · rw [if_neg c11] at H
      exact absurd H (by simp)
    rw [if_pos c11] at H
    have c11b0 : decide (x7_3 < (l1.length : Int)) = true := decide_eq_true c11
    clear c11
    replace H := Option.bind_eq_some_iff.mp H
    obtain ⟨t549, A120, H⟩ := H
    (try dsimp only at H)
    have A12 := Q_ A120
    clear A120
    have HS_ := Q_ H
    clear H
    try go_wp2
    have _ := Q_ (below_drew1 HB.out)
    clear HB
    rename_i HB
    have p547 : 0 ≤ (x6_2 : Int) := dt_
    have q547 : x6_2 < (l0.length : Int) := dt_
    obtain ⟨ad547, A547_1, c547_1, A547_2, c547_2, e547, hx547_0, hx547_1, hx547_2, hl547_1, hi547_1, hl547_2, hi547_2⟩ := at_T34 HR0.out x6_2 p547 q547
    have hw547_2 := hx547_2
    have hw547_1 := hx547_1
    have hw547_0 := hx547_0
    cases e547
    replace hx547_0 := bt_ HB hx547_0
    replace hx547_1 := bt_ HB hx547_1
    replace hx547_2 := bt_ HB hx547_2
    have HR547_1 := Q_ hi547_1
    have HC547_1 := Q_ hl547_1
    clear hi547_1 hl547_1
    have HR547_2 := Q_ hi547_2
    have HC547_2 := Q_ hl547_2
    clear hi547_2 hl547_2
    replace p547 := eq_true p547
    replace q547 := eq_true q547
    have p548 : 0 ≤ (x7_3 : Int) := dt_
    have q548 : x7_3 < (l1.length : Int) := dt_
    obtain ⟨ad548, A548_1, c548_1, A548_2, c548_2, e548, hx548_0, hx548_1, hx548_2, hl548_1, hi548_1, hl548_2, hi548_2⟩ := at_T34 HR1.out x7_3 p548 q548
    have hw548_2 := hx548_2
    have hw548_1 := hx548_1
    have hw548_0 := hx548_0
    cases e548
    replace hx548_0 := bt_ HB hx548_0
    replace hx548_1 := bt_ HB hx548_1
    replace hx548_2 := bt_ HB hx548_2
    have HR548_1 := Q_ hi548_1
    have HC548_1 := Q_ hl548_1
    clear hi548_1 hl548_1
    have HR548_2 := Q_ hi548_2
    have HC548_2 := Q_ hl548_2
    clear hi548_2 hl548_2
    replace p548 := eq_true p548
    replace q548 := eq_true q548
    refine start_ (n := 10) (S := fun w' => w'.cell? (ad547.add ((x6_2).toNat * 3)) = some (.int .i64 ((rd_T34 l0 x6_2).f0)) ∧ w'.cell? ⟨(ad547.add ((x6_2).toNat * 3)).block, (ad547.add ((x6_2).toNat * 3)).off + 1, none⟩ = some (.slice A547_1 ((rd_T34 l0 x6_2).f1).length c547_1) ∧ w'.cell? ⟨(ad547.add ((x6_2).toNat * 3)).block, (ad547.add ((x6_2).toNat * 3)).off + 2, none⟩ = some (.slice A547_2 ((rd_T34 l0 x6_2).f2).length c547_2) ∧ w'.cell? (ad548.add ((x7_3).toNat * 3)) = some (.int .i64 ((rd_T34 l1 x7_3).f0)) ∧ w'.cell? ⟨(ad548.add ((x7_3).toNat * 3)).block, (ad548.add ((x7_3).toNat * 3)).off + 1, none⟩ = some (.slice A548_1 ((rd_T34 l1 x7_3).f1).length c548_1) ∧ w'.cell? ⟨(ad548.add ((x7_3).toNat * 3)).block, (ad548.add ((x7_3).toNat * 3)).off + 2, none⟩ = some (.slice A548_2 ((rd_T34 l1 x7_3).f2).length c548_2)) (ds := []) (tf_ 0 10) (by kernel_rfl) rfl rfl ⟨(bt_ HB hw547_0), (bt_ HB hw547_1), (bt_ HB hw547_2), (bt_ HB hw548_0), (bt_ HB hw548_1), (bt_ HB hw548_2)⟩ (fun hHeld => ?_); refine with_tabW spec_NextOnly.tab10 spec_NextOnly.bits10 (fun HT_ HW_ => ?_)
    generalize wr.drew = w13 at HB HR547_1 HR547_2 HR548_1 HR548_2 hx547_0 hx547_1 hx547_2 hx548_0 hx548_1 hx548_2 hHeld ⊢
    refine pu_ 0 (some 30) (tf_ 1 10) HT_ ?_
    refine pu_ 1 (some 31) (tf_ 2 10) HT_ ?_
    refine pu_ 2 (some 32) (tf_ 3 10) HT_ ?_
    refine pu_ 4 (some 34) (tm_ 10 23) HT_ ?_
    refine pu_ 5 (some 35) (tm_ 10 55) HT_ ?_
    refine pu_ 6 (some 36) (tm_ 10 119) HT_ ?_
    refine ta_ 3 (some 33) (tf_ 7 10) HT_ HW_ hHeld ?_
    refine ta_ 7 (some 37) (tf_ 8 10) HT_ HW_ hHeld ?_
    refine on_ 8 (some 38) (tf_ 9 10) HT_ (fun K hK => ?_)
    refine goes_ Try.func41 (by kernel_rfl) rfl #[.agg #[.int .i64 ((rd_T34 l0 x6_2).f0), .slice A547_1 ((rd_T34 l0 x6_2).f1).length c547_1, .slice A547_2 ((rd_T34 l0 x6_2).f2).length c547_2], .agg #[.int .i64 ((rd_T34 l1 x7_3).f0), .slice A548_1 ((rd_T34 l1 x7_3).f1).length c548_1, .slice A548_2 ((rd_T34 l1 x7_3).f2).length c548_2]] (by rfl) rfl rfl mp_ ?_
    with_reducible refine (spec_IsSafe.calls k3 ((rd_T34 l0 x6_2).f0) _ _ ((rd_T34 l0 x6_2).f1) _ _ ((rd_T34 l0 x6_2).f2) ((rd_T34 l1 x7_3).f0) _ _ ((rd_T34 l1 x7_3).f1) _ _ ((rd_T34 l1 x7_3).f2) t549 _ ?side1 ?side2 ?side3 ?side4 ?side5 ?side6 ?side7 ?side8 A12.out).mono ?_
    (case side1 => exact cb_ HR547_1 HB)
    (case side2 => exact HC547_1.out)
    (case side3 => exact cb_ HR547_2 HB)
    (case side4 => exact HC547_2.out)
    (case side5 => exact cb_ HR548_1 HB)
    (case side6 => exact HC548_1.out)
    (case side7 => exact cb_ HR548_2 HB)
    (case side8 => exact HC548_2.out)
    rintro e w14 ⟨rfl, hb⟩
    refine ⟨_, rfl, ?_⟩
    have _ := Q_ (below_step (pb_ HB.out) hb)
    clear HB
    rename_i HB
    (try clear hb)
    (try clear hb2)
    (try clear hk)
    (try clear hi)
    refine hK.out _ _ ⟨(bt_ HB hw547_0), (bt_ HB hw547_1), (bt_ HB hw547_2), (bt_ HB hw548_0), (bt_ HB hw548_1), (bt_ HB hw548_2)⟩ (fun hHeld => ?_)
    clear hK K
    refine no_ (some 38) ?_
    refine pu_ 9 (some 8) (tf_ 10 10) HT_ ?_
    refine done_ (done_of HT_.out (by kernel_rfl)) ?_
    go_upto_region 11 with (fail)
    have H := HS_.out
    clear HS_
    by_cases c15 : (wrap64 (x7_3 + 1)) ≥ x6_2
    rotate_left
    · rw [if_neg c15] at H
      have c15b0 : decide (x6_2 ≤ (wrap64 (x7_3 + 1))) = false := decide_eq_false c15
      clear c15
      (first | rw [c15b0] | (simp only [i64_w, i32_w]; rw [c15b0]) | skip)
      by_cases c16 : x5_3 = true
      rotate_left
      · replace c16 := Bool.eq_false_iff.mpr c16
        subst c16
        rw [if_neg (show ¬ (false = true) by decide)] at H
        have H' := Q_ H
        clear H
        go_wp2
        go_roundg k3
        case measure => have := HJ2.out; have := HK2.out; have := HK3.out; omega
        case rel => exact ⟨(!t549), (wrap64 (x7_3 + 1)), el_, el_, H', ⟨by have := HJ2.out; have := HK2.out; have := HK3.out; omega⟩, ⟨pb_ HB.out⟩⟩
      subst c16
      rw [if_pos rfl] at H
      have H' := Q_ H
      clear H
      go_wp2
      go_roundg k3
      case measure => have := HJ2.out; have := HK2.out; have := HK3.out; omega
      case rel => exact ⟨(true), (wrap64 (x7_3 + 1)), el_, el_, H', ⟨by have := HJ2.out; have := HK2.out; have := HK3.out; omega⟩, ⟨pb_ HB.out⟩⟩
    rw [if_pos c15] at H
    have c15b0 : decide (x6_2 ≤ (wrap64 (x7_3 + 1))) = true := decide_eq_true c15
    clear c15
    (first | rw [c15b0] | (simp only [i64_w, i32_w]; rw [c15b0]) | skip)
    by_cases c17 : t549 = true
    rotate_left
    · replace c17 := Bool.eq_false_iff.mpr c17
      subst c17
      rw [if_neg (show ¬ (false = true) by decide)] at H
      obtain rfl := Option.some.inj H
      go_wp2
      go_ret
      exact ⟨er_, pb_ HB.out⟩
    subst c17
    rw [if_pos rfl] at H
    by_cases c18 : x5_3 = true
    rotate_left
    · replace c18 := Bool.eq_false_iff.mpr c18
      subst c18
      rw [if_neg (show ¬ (false = true) by decide)] at H
      have H' := Q_ H
      clear H
      go_wp2
      go_roundg k3
      case measure => have := HJ2.out; have := HK2.out; have := HK3.out; omega
      case rel => exact ⟨(!true), (wrap64 (x7_3 + 1)), el_, el_, H', ⟨by have := HJ2.out; have := HK2.out; have := HK3.out; omega⟩, ⟨pb_ HB.out⟩⟩
    subst c18
    rw [if_pos rfl] at H
    have H' := Q_ H
    clear H
    go_wp2
    go_roundg k3
    case measure => have := HJ2.out; have := HK2.out; have := HK3.out; omega
    case rel => exact ⟨(true), (wrap64 (x7_3 + 1)), el_, el_, H', ⟨by have := HJ2.out; have := HK2.out; have := HK3.out; omega⟩, ⟨pb_ HB.out⟩⟩
  subst c5
  rw [if_pos rfl] at H
  obtain rfl := Option.some.inj H
  go_wp2
  go_ret
  exact ⟨er_, pb_ HB.out⟩

end Go.Proofs.Ytldcchjbaglppaa.Print
