-- Written by a program of this session (printx.py) out of the translation; Lean checks it.
import Derived.Test.YtchnkakjjbfklaaPrint0
import Derived.Test.YtchnkakjjbfklaaPrint3
namespace Go.Proofs.Ytchnkakjjbfklaa.Print
open Go.RowKit Go.Proofs.YtchnkakjjbfklaaW.PrintWords Go.Proofs.YtchnkakjjbfklaaW.PrintLast Go.Proofs.YtchnkakjjbfklaaW.PrintMore Go.Proofs.Ytchnkakjjbfklaa.Short
attribute [local go_sem] max2_int min2_int max_two min_two max_three min_three max_four min_four   -- for this text's walks alone
set_option linter.unusedVariables false
set_option linter.unusedSimpArgs false

/-! ### laws_eqBoxS: function 90 -/
def laws_eqBoxS.l0 : Nat → List (S95) → List (S95) → Int → Option (Bool)
  | 0, _, _, _ => none
  | k + 1, x0, x1, x5 => if x5 < (x0.length : Int) then (if 0 ≤ x5 then (if x5 < (x1.length : Int) then ((laws_eqBox.f k ((rd_T95 x0 x5).f0) ((rd_T95 x0 x5).f1) ((rd_T95 x0 x5).f2) ((rd_T95 x0 x5).f3) ((rd_T95 x1 x5).f0) ((rd_T95 x1 x5).f1) ((rd_T95 x1 x5).f2) ((rd_T95 x1 x5).f3)).bind fun t284 => (if t284 = true then (laws_eqBoxS.l0 k x0 x1 (wrap64 (x5 + 1))) else (some false))) else (none)) else (none)) else (some true)
def laws_eqBoxS.f (k : Nat) (l0 : List (S95)) (l1 : List (S95)) : Option (Bool) := if (l0.length : Int) = (l1.length : Int) then (laws_eqBoxS.l0 k l0 l1 0) else (some false)
theorem laws_eqBoxS.mono_l : ∀ k, (∀ y0 y1 y2, LeO (laws_eqBoxS.l0 k y0 y1 y2) (laws_eqBoxS.l0 (k + 1) y0 y1 y2))
  | 0 => fun _ _ _ r h => by simp [laws_eqBoxS.l0] at h
  | k + 1 => by
    have ih0 := laws_eqBoxS.mono_l k
    · intro y0 y1 y2
      unfold laws_eqBoxS.l0
      repeat' first
      | (with_reducible exact ih0 _ _ _)
      | (with_reducible exact laws_eqBox.mono _ _ _ _ _ _ _ _ _)
      | (with_reducible exact LeO.refl _)
      | (with_reducible exact LeO.none _)
      | (with_reducible refine LeO.ite ?_ ?_)
      | (with_reducible refine LeO.bind ?_ (fun _ => ?_))
      | exact ih0 _ _ _
      | exact laws_eqBox.mono _ _ _ _ _ _ _ _ _
      | exact LeO.none _
      | refine LeO.ite ?_ ?_
      | refine LeO.bind ?_ (fun _ => ?_)
theorem laws_eqBoxS.mono : ∀ a0 a1 k, LeO (laws_eqBoxS.f k a0 a1) (laws_eqBoxS.f (k + 1) a0 a1) := by
  intro a0 a1 k
  have ih0 := laws_eqBoxS.mono_l k
  unfold laws_eqBoxS.f
  repeat' first
      | (with_reducible exact ih0 _ _ _)
      | (with_reducible exact laws_eqBox.mono _ _ _ _ _ _ _ _ _)
      | (with_reducible exact LeO.refl _)
      | (with_reducible exact LeO.none _)
      | (with_reducible refine LeO.ite ?_ ?_)
      | (with_reducible refine LeO.bind ?_ (fun _ => ?_))
      | exact ih0 _ _ _
      | exact laws_eqBox.mono _ _ _ _ _ _ _ _ _
      | exact LeO.none _
      | refine LeO.ite ?_ ?_
      | refine LeO.bind ?_ (fun _ => ?_)
def laws_eqBoxS.T6 : Bool × List (List Nat × List Nat) := (true, [([], []), ([], []), ([0, 1], [0, 1]), ([2], [2]), ([], []), ([], []), ([4, 5], [4, 5]), ([6], [6]), ([3, 7], [3, 7]), ([8], [8])])
def laws_eqBoxS.B6 : List Nat := [0, 0, 3, 7, 0, 0, 48, 112, 255, 511]
theorem laws_eqBoxS.tab6 : rtab .any (opsOf Try.f90 6) = laws_eqBoxS.T6 := by kernel_rfl
theorem laws_eqBoxS.bits6 : waitsOk laws_eqBoxS.T6.2 laws_eqBoxS.B6 = true := by kernel_rfl
set_option maxHeartbeats 8000000 in
set_option maxRecDepth 100000 in
theorem laws_eqBoxS.calls (k : Nat) (A0 : Option Addr) (c0 : Nat) (l0 : List (S95)) (A1 : Option Addr) (c1 : Nat) (l1 : List (S95)) (r : Bool) (w : World) (hr0 : Kd.C k95 w A0 l0.length l0) (hc0 : l0.length ≤ c0) (hr1 : Kd.C k95 w A1 l1.length l1) (hc1 : l1.length ≤ c1) (h : laws_eqBoxS.f k l0 l1 = some r) :
    Calls Try.prog 90 #[.slice A0 l0.length c0, .slice A1 l1.length c1] w fun e w' => e = .returned (.bool r) ∧ Below w.heap.size w w' := by
  have hu95 := Try.underlying95
  have HR0 := Aside0.mk hr0
  have HC0 := Aside0.mk hc0
  clear hr0 hc0
  have HR1 := Aside0.mk hr1
  have HC1 := Aside0.mk hc1
  clear hr1 hc1
  have HB := Aside0.mk (Below.refl w.heap.size w)
  have H : (if (l0.length : Int) = (l1.length : Int) then (laws_eqBoxS.l0 k l0 l1 0) else (some false)) = some r := h
  clear h
  by_cases c3 : (l0.length : Int) = (l1.length : Int)
  rotate_left
  · rw [if_neg c3] at H
    have c3b0 : ((l0.length : Int) == (l1.length : Int)) = false := beq_eq_false_iff_ne.mpr c3
    have c3b1 : ((l0.length : Int) != (l1.length : Int)) = true := bne_iff_ne.mpr c3
    have c3b2 : (l0.length == l1.length) = false := by first | simpa using c3 | (simp at c3 ⊢; omega)
    obtain rfl := Option.some.inj H
    go_enter Try.func90, Try.ntmps90
    go_wp2
    go_ret
    exact ⟨er_, pb_ HB.out⟩
  rw [if_pos c3] at H
  have c3b0 : ((l0.length : Int) == (l1.length : Int)) = true := beq_iff_eq.mpr c3
  have c3b1 : ((l0.length : Int) != (l1.length : Int)) = false := bne_eq_false_iff_eq.mpr c3
  have c3b2 : (l0.length == l1.length) = true := by first | simpa using c3 | (simp at c3 ⊢; omega)
  clear c3
  have H' := Aside0.mk H
  clear H
  go_enter Try.func90, Try.ntmps90
  go_wp2
  go_loopg [5] k (fun kq v5 w' => ∃ (x5_1 : Int), v5 = .int .i64 x5_1 ∧ Aside0 (laws_eqBoxS.l0 kq l0 l1 x5_1 = some r) ∧ Aside0 (kq ≤ k) ∧ Aside0 (Below w.heap.size w w'))
  case atStart => exact ⟨(0), el_, H', ⟨Nat.le_refl _⟩, ⟨pb_ HB.out⟩⟩
  clear H'
  try clear c1
  try clear p2
  try clear c3
  try clear c3b0
  try clear c3b1
  try clear c3b2
  obtain ⟨x5_1, rfl, HA, HK1, HB⟩ := hrel
  rcases gk with _ | k1
  · exact absurd HA.out (by simp [laws_eqBoxS.l0])
  have H := HA.out
  clear HA
  simp only [laws_eqBoxS.l0] at H
  by_cases c4 : x5_1 < (l0.length : Int)
  rotate_left
  · rw [if_neg c4] at H
    have c4b0 : decide (x5_1 < (l0.length : Int)) = false := decide_eq_false c4
    clear c4
    obtain rfl := Option.some.inj H
    go_wp2
    go_ret
    exact ⟨er_, pb_ HB.out⟩
  rw [if_pos c4] at H
  have c4b0 : decide (x5_1 < (l0.length : Int)) = true := decide_eq_true c4
  clear c4
  by_cases c5 : 0 ≤ x5_1
  rotate_left
  · rw [if_neg c5] at H
    exact absurd H (by simp)
  rw [if_pos c5] at H
  have c5b0 : decide (0 ≤ x5_1) = true := decide_eq_true c5
  clear c5
  by_cases c6 : x5_1 < (l1.length : Int)
  rotate_left
  · rw [if_neg c6] at H
    exact absurd H (by simp)
  rw [if_pos c6] at H
  have c6b0 : decide (x5_1 < (l1.length : Int)) = true := decide_eq_true c6
  clear c6
  replace H := Option.bind_eq_some_iff.mp H
  obtain ⟨t284, A70, H⟩ := H
  (try dsimp only at H)
  have A7 := Aside0.mk A70
  clear A70
  have HS_ := Aside0.mk H
  clear H
  try go_wp2
  have _ := Aside0.mk (below_drew1 HB.out)
  clear HB
  rename_i HB
  have p282 : 0 ≤ (x5_1 : Int) := dt_
  have q282 : x5_1 < (l0.length : Int) := dt_
  obtain ⟨ad282, A282_1, c282_1, A282_2, c282_2, e282, hx282_0, hx282_1, hx282_2, hx282_3, hl282_1, hi282_1, hl282_2, hi282_2⟩ := at_T95 HR0.out x5_1 p282 q282
  have hw282_3 := hx282_3
  have hw282_2 := hx282_2
  have hw282_1 := hx282_1
  have hw282_0 := hx282_0
  cases e282
  replace hx282_0 := bt_ HB hx282_0
  replace hx282_1 := bt_ HB hx282_1
  replace hx282_2 := bt_ HB hx282_2
  replace hx282_3 := bt_ HB hx282_3
  have HR282_1 := Aside0.mk hi282_1
  have HC282_1 := Aside0.mk hl282_1
  clear hi282_1 hl282_1
  have HR282_2 := Aside0.mk hi282_2
  have HC282_2 := Aside0.mk hl282_2
  clear hi282_2 hl282_2
  replace p282 := eq_true p282
  replace q282 := eq_true q282
  have p283 : 0 ≤ (x5_1 : Int) := dt_
  have q283 : x5_1 < (l1.length : Int) := dt_
  obtain ⟨ad283, A283_1, c283_1, A283_2, c283_2, e283, hx283_0, hx283_1, hx283_2, hx283_3, hl283_1, hi283_1, hl283_2, hi283_2⟩ := at_T95 HR1.out x5_1 p283 q283
  have hw283_3 := hx283_3
  have hw283_2 := hx283_2
  have hw283_1 := hx283_1
  have hw283_0 := hx283_0
  cases e283
  replace hx283_0 := bt_ HB hx283_0
  replace hx283_1 := bt_ HB hx283_1
  replace hx283_2 := bt_ HB hx283_2
  replace hx283_3 := bt_ HB hx283_3
  have HR283_1 := Aside0.mk hi283_1
  have HC283_1 := Aside0.mk hl283_1
  clear hi283_1 hl283_1
  have HR283_2 := Aside0.mk hi283_2
  have HC283_2 := Aside0.mk hl283_2
  clear hi283_2 hl283_2
  replace p283 := eq_true p283
  replace q283 := eq_true q283
  refine start_ (n := 10) (S := fun w' => w'.cell? (ad282.add ((x5_1).toNat * 4)) = some (.int .i64 ((rd_T95 l0 x5_1).f0)) ∧ w'.cell? ⟨(ad282.add ((x5_1).toNat * 4)).block, (ad282.add ((x5_1).toNat * 4)).off + 1, none⟩ = some (.slice A282_1 ((rd_T95 l0 x5_1).f1).length c282_1) ∧ w'.cell? ⟨(ad282.add ((x5_1).toNat * 4)).block, (ad282.add ((x5_1).toNat * 4)).off + 2, none⟩ = some (.slice A282_2 ((rd_T95 l0 x5_1).f2).length c282_2) ∧ w'.cell? ⟨(ad282.add ((x5_1).toNat * 4)).block, (ad282.add ((x5_1).toNat * 4)).off + 3, none⟩ = some (.bool ((rd_T95 l0 x5_1).f3)) ∧ w'.cell? (ad283.add ((x5_1).toNat * 4)) = some (.int .i64 ((rd_T95 l1 x5_1).f0)) ∧ w'.cell? ⟨(ad283.add ((x5_1).toNat * 4)).block, (ad283.add ((x5_1).toNat * 4)).off + 1, none⟩ = some (.slice A283_1 ((rd_T95 l1 x5_1).f1).length c283_1) ∧ w'.cell? ⟨(ad283.add ((x5_1).toNat * 4)).block, (ad283.add ((x5_1).toNat * 4)).off + 2, none⟩ = some (.slice A283_2 ((rd_T95 l1 x5_1).f2).length c283_2) ∧ w'.cell? ⟨(ad283.add ((x5_1).toNat * 4)).block, (ad283.add ((x5_1).toNat * 4)).off + 3, none⟩ = some (.bool ((rd_T95 l1 x5_1).f3))) (ds := []) (tf_ 0 10) (by kernel_rfl) rfl rfl ⟨(bt_ HB hw282_0), (bt_ HB hw282_1), (bt_ HB hw282_2), (bt_ HB hw282_3), (bt_ HB hw283_0), (bt_ HB hw283_1), (bt_ HB hw283_2), (bt_ HB hw283_3)⟩ (fun hHeld => ?_); refine with_tabW laws_eqBoxS.tab6 laws_eqBoxS.bits6 (fun HT_ HW_ => ?_)
  generalize wr.drew = w8 at HB HR282_1 HR282_2 HR283_1 HR283_2 hx282_0 hx282_1 hx282_2 hx282_3 hx283_0 hx283_1 hx283_2 hx283_3 hHeld ⊢
  refine pu_ 0 (some 17) (tf_ 1 10) HT_ ?_
  refine pu_ 1 (some 18) (tf_ 2 10) HT_ ?_
  refine pu_ 2 (some 19) (tf_ 3 10) HT_ ?_
  refine pu_ 4 (some 21) (tm_ 10 23) HT_ ?_
  refine pu_ 5 (some 22) (tm_ 10 55) HT_ ?_
  refine pu_ 6 (some 23) (tm_ 10 119) HT_ ?_
  refine ta_ 3 (some 20) (tf_ 7 10) HT_ HW_ hHeld ?_
  refine ta_ 7 (some 24) (tf_ 8 10) HT_ HW_ hHeld ?_
  refine on_ 8 (some 25) (tf_ 9 10) HT_ (fun K hK => ?_)
  refine goes_ Try.func102 (by kernel_rfl) rfl #[.agg #[.int .i64 ((rd_T95 l0 x5_1).f0), .slice A282_1 ((rd_T95 l0 x5_1).f1).length c282_1, .slice A282_2 ((rd_T95 l0 x5_1).f2).length c282_2, .bool ((rd_T95 l0 x5_1).f3)], .agg #[.int .i64 ((rd_T95 l1 x5_1).f0), .slice A283_1 ((rd_T95 l1 x5_1).f1).length c283_1, .slice A283_2 ((rd_T95 l1 x5_1).f2).length c283_2, .bool ((rd_T95 l1 x5_1).f3)]] (by rfl) rfl rfl mp_ ?_
  with_reducible refine (laws_eqBox.calls k1 ((rd_T95 l0 x5_1).f0) _ _ ((rd_T95 l0 x5_1).f1) _ _ ((rd_T95 l0 x5_1).f2) ((rd_T95 l0 x5_1).f3) ((rd_T95 l1 x5_1).f0) _ _ ((rd_T95 l1 x5_1).f1) _ _ ((rd_T95 l1 x5_1).f2) ((rd_T95 l1 x5_1).f3) t284 _ ?side1 ?side2 ?side3 ?side4 ?side5 ?side6 ?side7 ?side8 A7.out).mono ?_
  (case side1 => exact cb_ HR282_1 HB)
  (case side2 => exact HC282_1.out)
  (case side3 => exact cb_ HR282_2 HB)
  (case side4 => exact HC282_2.out)
  (case side5 => exact cb_ HR283_1 HB)
  (case side6 => exact HC283_1.out)
  (case side7 => exact cb_ HR283_2 HB)
  (case side8 => exact HC283_2.out)
  rintro e w9 ⟨rfl, hb⟩
  refine ⟨_, rfl, ?_⟩
  have _ := Aside0.mk (below_step (pb_ HB.out) hb)
  clear HB
  rename_i HB
  (try clear hb)
  (try clear hb2)
  (try clear hk)
  (try clear hi)
  refine hK.out _ _ ⟨(bt_ HB hw282_0), (bt_ HB hw282_1), (bt_ HB hw282_2), (bt_ HB hw282_3), (bt_ HB hw283_0), (bt_ HB hw283_1), (bt_ HB hw283_2), (bt_ HB hw283_3)⟩ (fun hHeld => ?_)
  clear hK K
  refine no_ (some 25) ?_
  refine pu_ 9 (some 26) (tf_ 10 10) HT_ ?_
  refine done_ (done_of HT_.out (by kernel_rfl)) ?_
  go_upto_if 26 with (fail)
  have H := HS_.out
  clear HS_
  by_cases c10 : t284 = true
  rotate_left
  · replace c10 := Bool.eq_false_iff.mpr c10
    subst c10
    rw [if_neg (show ¬ (false = true) by decide)] at H
    obtain rfl := Option.some.inj H
    go_wp2
    go_ret
    exact ⟨er_, pb_ HB.out⟩
  subst c10
  rw [if_pos rfl] at H
  have H' := Aside0.mk H
  clear H
  go_wp2
  go_roundg k1
  case measure => have := HK1.out; omega
  case rel => exact ⟨(wrap64 (x5_1 + 1)), el_, H', ⟨by have := HK1.out; omega⟩, ⟨pb_ HB.out⟩⟩

/-! ### laws_eqEndpoint: function 69 -/
def laws_eqEndpoint.f (k : Nat) (l0_0 : List Int) (l0_1 : List Int) (l0_2 : List (S95)) (a0_3 : Int) (l1_0 : List Int) (l1_1 : List Int) (l1_2 : List (S95)) (a1_3 : Int) : Option (Bool) := (laws_eqIntS.f k l0_0 l1_0).bind fun t287 => (if t287 = true then ((laws_eqIntS.f k l0_1 l1_1).bind fun t288 => (if t288 = true then ((laws_eqBoxS.f k l0_2 l1_2).bind fun t289 => (if t289 = true then (if a0_3 = a1_3 then (some true) else (some false)) else (some false))) else (some false))) else (some false))
theorem laws_eqEndpoint.mono : ∀ a0 a1 a2 a3 a4 a5 a6 a7 k, LeO (laws_eqEndpoint.f k a0 a1 a2 a3 a4 a5 a6 a7) (laws_eqEndpoint.f (k + 1) a0 a1 a2 a3 a4 a5 a6 a7) := by
  intro a0 a1 a2 a3 a4 a5 a6 a7 k
  unfold laws_eqEndpoint.f
  repeat' first
      | (with_reducible exact laws_eqBoxS.mono _ _ _)
      | (with_reducible exact laws_eqIntS.mono _ _ _)
      | (with_reducible exact LeO.refl _)
      | (with_reducible exact LeO.none _)
      | (with_reducible refine LeO.ite ?_ ?_)
      | (with_reducible refine LeO.bind ?_ (fun _ => ?_))
      | exact laws_eqBoxS.mono _ _ _
      | exact laws_eqIntS.mono _ _ _
      | exact LeO.none _
      | refine LeO.ite ?_ ?_
      | refine LeO.bind ?_ (fun _ => ?_)
set_option maxHeartbeats 8000000 in
set_option maxRecDepth 100000 in
theorem laws_eqEndpoint.calls (k : Nat) (A0_0 : Option Addr) (c0_0 : Nat) (l0_0 : List Int) (A0_1 : Option Addr) (c0_1 : Nat) (l0_1 : List Int) (A0_2 : Option Addr) (c0_2 : Nat) (l0_2 : List (S95)) (a0_3 : Int) (A1_0 : Option Addr) (c1_0 : Nat) (l1_0 : List Int) (A1_1 : Option Addr) (c1_1 : Nat) (l1_1 : List Int) (A1_2 : Option Addr) (c1_2 : Nat) (l1_2 : List (S95)) (a1_3 : Int) (r : Bool) (w : World) (hr0_0 : Kd.C (Kd.int .i64) w A0_0 l0_0.length l0_0) (hc0_0 : l0_0.length ≤ c0_0) (hr0_1 : Kd.C (Kd.int .i64) w A0_1 l0_1.length l0_1) (hc0_1 : l0_1.length ≤ c0_1) (hr0_2 : Kd.C k95 w A0_2 l0_2.length l0_2) (hc0_2 : l0_2.length ≤ c0_2) (hr1_0 : Kd.C (Kd.int .i64) w A1_0 l1_0.length l1_0) (hc1_0 : l1_0.length ≤ c1_0) (hr1_1 : Kd.C (Kd.int .i64) w A1_1 l1_1.length l1_1) (hc1_1 : l1_1.length ≤ c1_1) (hr1_2 : Kd.C k95 w A1_2 l1_2.length l1_2) (hc1_2 : l1_2.length ≤ c1_2) (h : laws_eqEndpoint.f k l0_0 l0_1 l0_2 a0_3 l1_0 l1_1 l1_2 a1_3 = some r) :
    Calls Try.prog 69 #[.agg #[.slice A0_0 l0_0.length c0_0, .slice A0_1 l0_1.length c0_1, .slice A0_2 l0_2.length c0_2, .int .i64 a0_3], .agg #[.slice A1_0 l1_0.length c1_0, .slice A1_1 l1_1.length c1_1, .slice A1_2 l1_2.length c1_2, .int .i64 a1_3]] w fun e w' => e = .returned (.bool r) ∧ Below w.heap.size w w' := by
  have hu50 := Try.underlying50
  have HR0_0 := Aside0.mk hr0_0
  have HC0_0 := Aside0.mk hc0_0
  clear hr0_0 hc0_0
  have HR0_1 := Aside0.mk hr0_1
  have HC0_1 := Aside0.mk hc0_1
  clear hr0_1 hc0_1
  have HR0_2 := Aside0.mk hr0_2
  have HC0_2 := Aside0.mk hc0_2
  clear hr0_2 hc0_2
  have HR1_0 := Aside0.mk hr1_0
  have HC1_0 := Aside0.mk hc1_0
  clear hr1_0 hc1_0
  have HR1_1 := Aside0.mk hr1_1
  have HC1_1 := Aside0.mk hc1_1
  clear hr1_1 hc1_1
  have HR1_2 := Aside0.mk hr1_2
  have HC1_2 := Aside0.mk hc1_2
  clear hr1_2 hc1_2
  have HB := Aside0.mk (Below.refl w.heap.size w)
  have H : ((laws_eqIntS.f k l0_0 l1_0).bind fun t287 => (if t287 = true then ((laws_eqIntS.f k l0_1 l1_1).bind fun t288 => (if t288 = true then ((laws_eqBoxS.f k l0_2 l1_2).bind fun t289 => (if t289 = true then (if a0_3 = a1_3 then (some true) else (some false)) else (some false))) else (some false))) else (some false))) = some r := h
  clear h
  have HS_ := Aside0.mk H
  clear H
  go_enter Try.func69, Try.ntmps69
  go_upto_region 1 with (first | ((with_reducible refine gate_dst (N := 2) rfl ?_); refine box_event ?hg (N := 2) ?hd (cs := #[.slice A0_0 l0_0.length c0_0, .slice A0_1 l0_1.length c0_1, .slice A0_2 l0_2.length c0_2, .int .i64 a0_3]) (t := 50) ?hr ?_; (case hd => rfl); (case hg => rfl); (case hr => first | (go_simp; done) | (go_simp; rfl)); intro gb285 hg w3 hbox hb; have n0_ := Aside0.mk (below_step (pb_ HB.out) hb); have n1_ := Aside0.mk (hbox); have n2_ := Aside0.mk ((by rw [hg]; exact (below_size (pb_ HB.out)) : w.heap.size ≤ gb285)); have n3_ := Aside0.mk ((by rw [hg]; exact (below_size (pb_ HB.out)) : w.heap.size ≤ gb285)); clear HB; have HB := n0_; have BK285 := n1_; have GW285 := n2_; have GE285 := n3_; clear n0_ n1_ n2_ n3_; clear hb hbox hg) | ((with_reducible refine gate_dst (N := 3) rfl ?_); refine box_event ?hg (N := 3) ?hd (cs := #[.slice A1_0 l1_0.length c1_0, .slice A1_1 l1_1.length c1_1, .slice A1_2 l1_2.length c1_2, .int .i64 a1_3]) (t := 50) ?hr ?_; (case hd => rfl); (case hg => rfl); (case hr => first | (go_simp; done) | (go_simp; rfl)); intro gb286 hg w4 hbox hb; have n0_ := Aside0.mk (bb_ BK285.out hb); have n1_ := Aside0.mk (below_step (pb1_ HB.out GE285.out) hb); have n2_ := Aside0.mk (hbox); have n3_ := Aside0.mk ((by rw [hg]; exact (below_size (pb1_ HB.out GE285.out)) : w.heap.size ≤ gb286)); have n4_ := Aside0.mk ((by rw [hg]; exact (below_size (pb1_ HB.out GE285.out)) : w.heap.size ≤ gb286)); have n5_ := Aside0.mk ((by rw [hg]; exact Nat.ne_of_lt (blk_lt (pk_ BK285.out)) : gb285 ≠ gb286)); have n6_ := Aside0.mk ((by rw [hg]; exact Nat.ne_of_gt (blk_lt (pk_ BK285.out)) : gb286 ≠ gb285)); clear BK285; clear HB; have BK285 := n0_; have HB := n1_; have BK286 := n2_; have GW286 := n3_; have GE286 := n4_; have NB285_286 := n5_; have NB286_285 := n6_; clear n0_ n1_ n2_ n3_ n4_ n5_ n6_; clear hb hbox hg))
  (try simp only [Act.put, List.setIfInBounds_toArray, List.set_cons_zero, List.set_cons_succ])
  have H := HS_.out
  clear HS_
  replace H := Option.bind_eq_some_iff.mp H
  obtain ⟨t287, A50, H⟩ := H
  (try dsimp only at H)
  have A5 := Aside0.mk A50
  clear A50
  have HS_ := Aside0.mk H
  clear H
  have hnb6 := NB285_286.out
  have hnc6 := NB286_285.out
  have hcz7 := bc4_ BK285.out
  have hcz8 := bc4_ BK286.out
  go_upto_if 10 with (first | ((with_reducible refine gate_callee (f := 34) rfl ?_); refine gl_ (some 9) Try.func34 #[.slice A0_0 l0_0.length c0_0, .slice A1_0 l1_0.length c1_0] ?_; (with_reducible refine (laws_eqIntS.calls k _ _ l0_0 _ _ l1_0 t287 _ ?side1 ?side2 ?side3 ?side4 A5.out).mono ?_); (case side1 => exact cb_ HR0_0 HB); (case side2 => exact HC0_0.out); (case side3 => exact cb_ HR1_0 HB); (case side4 => exact HC1_0.out); rintro e w' ⟨rfl, ⟨nd, rfl⟩⟩; refine ⟨_, rfl, ?_⟩))
  (try simp only [Act.put, List.setIfInBounds_toArray, List.set_cons_zero, List.set_cons_succ])
  have H := HS_.out
  clear HS_
  by_cases c9 : t287 = true
  rotate_left
  · replace c9 := Bool.eq_false_iff.mpr c9
    subst c9
    rw [if_neg (show ¬ (false = true) by decide)] at H
    obtain rfl := Option.some.inj H
    go_wp2
    go_ret
    exact ⟨er_, pb2_ HB.out GE285.out GE286.out⟩
  subst c9
  rw [if_pos rfl] at H
  replace H := Option.bind_eq_some_iff.mp H
  obtain ⟨t288, A100, H⟩ := H
  (try dsimp only at H)
  have A10 := Aside0.mk A100
  clear A100
  have HS_ := Aside0.mk H
  clear H
  have hnb11 := NB285_286.out
  have hnc11 := NB286_285.out
  have hcz12 := bc4_ BK285.out
  have hcz13 := bc4_ BK286.out
  go_upto_if 16 with (first | ((with_reducible refine gate_callee (f := 34) rfl ?_); refine gl_ (some 15) Try.func34 #[.slice A0_1 l0_1.length c0_1, .slice A1_1 l1_1.length c1_1] ?_; (with_reducible refine (laws_eqIntS.calls k _ _ l0_1 _ _ l1_1 t288 _ ?side1 ?side2 ?side3 ?side4 A10.out).mono ?_); (case side1 => exact pc_ (Kd.C_below HR0_1.out (pb2_ HB.out GE285.out GE286.out))); (case side2 => exact HC0_1.out); (case side3 => exact pc_ (Kd.C_below HR1_1.out (pb2_ HB.out GE285.out GE286.out))); (case side4 => exact HC1_1.out); rintro e w' ⟨rfl, ⟨nd, rfl⟩⟩; refine ⟨_, rfl, ?_⟩))
  (try simp only [Act.put, List.setIfInBounds_toArray, List.set_cons_zero, List.set_cons_succ])
  have H := HS_.out
  clear HS_
  by_cases c14 : t288 = true
  rotate_left
  · replace c14 := Bool.eq_false_iff.mpr c14
    subst c14
    rw [if_neg (show ¬ (false = true) by decide)] at H
    obtain rfl := Option.some.inj H
    go_wp2
    go_ret
    exact ⟨er_, pb2_ HB.out GE285.out GE286.out⟩
  subst c14
  rw [if_pos rfl] at H
  replace H := Option.bind_eq_some_iff.mp H
  obtain ⟨t289, A150, H⟩ := H
  (try dsimp only at H)
  have A15 := Aside0.mk A150
  clear A150
  have HS_ := Aside0.mk H
  clear H
  have hnb16 := NB285_286.out
  have hnc16 := NB286_285.out
  have hcz17 := bc4_ BK285.out
  have hcz18 := bc4_ BK286.out
  go_upto_if 22 with (first | ((with_reducible refine gate_callee (f := 90) rfl ?_); refine gl_ (some 21) Try.func90 #[.slice A0_2 l0_2.length c0_2, .slice A1_2 l1_2.length c1_2] ?_; (with_reducible refine (laws_eqBoxS.calls k _ _ l0_2 _ _ l1_2 t289 _ ?side1 ?side2 ?side3 ?side4 A15.out).mono ?_); (case side1 => exact pc_ (Kd.C_below HR0_2.out (pb2_ HB.out GE285.out GE286.out))); (case side2 => exact HC0_2.out); (case side3 => exact pc_ (Kd.C_below HR1_2.out (pb2_ HB.out GE285.out GE286.out))); (case side4 => exact HC1_2.out); rintro e w19 ⟨rfl, hb⟩; refine ⟨_, rfl, ?_⟩; have _ := Aside0.mk (bb_ BK285.out hb); have _ := Aside0.mk (bb_ BK286.out hb); have _ := Aside0.mk (below_step (pb2_ HB.out GE285.out GE286.out) hb); clear BK285 BK286 HB; rename_i BK285 BK286 HB; (try clear hb); (try clear hb2); (try clear hk); (try clear hi)))
  (try simp only [Act.put, List.setIfInBounds_toArray, List.set_cons_zero, List.set_cons_succ])
  have H := HS_.out
  clear HS_
  by_cases c20 : t289 = true
  rotate_left
  · replace c20 := Bool.eq_false_iff.mpr c20
    subst c20
    rw [if_neg (show ¬ (false = true) by decide)] at H
    obtain rfl := Option.some.inj H
    go_wp2
    go_ret
    exact ⟨er_, pb2_ HB.out GE285.out GE286.out⟩
  subst c20
  rw [if_pos rfl] at H
  by_cases c21 : a0_3 = a1_3
  rotate_left
  · rw [if_neg c21] at H
    have c21b0 : (a0_3 == a1_3) = false := beq_eq_false_iff_ne.mpr c21
    have c21b1 : (a0_3 != a1_3) = true := bne_iff_ne.mpr c21
    (first | rw [c21b0] | (simp only [i64_w, i32_w]; rw [c21b0]) | rw [c21b1] | (have c_ := c21b1; rw [bne] at c_; rw [c_]; clear c_) | skip)
    obtain rfl := Option.some.inj H
    have hnb22 := NB285_286.out
    have hnc22 := NB286_285.out
    have hcz23 := bc4_ BK285.out
    have hcz24 := bc4_ BK286.out
    go_wp2
    go_ret
    exact ⟨er_, pb2_ HB.out GE285.out GE286.out⟩
  rw [if_pos c21] at H
  have c21b0 : (a0_3 == a1_3) = true := beq_iff_eq.mpr c21
  have c21b1 : (a0_3 != a1_3) = false := bne_eq_false_iff_eq.mpr c21
  clear c21
  (first | rw [c21b0] | (simp only [i64_w, i32_w]; rw [c21b0]) | rw [c21b1] | (have c_ := c21b1; rw [bne] at c_; rw [c_]; clear c_) | skip)
  obtain rfl := Option.some.inj H
  have hnb25 := NB285_286.out
  have hnc25 := NB286_285.out
  have hcz26 := bc4_ BK285.out
  have hcz27 := bc4_ BK286.out
  go_wp2
  go_ret
  exact ⟨er_, pb2_ HB.out GE285.out GE286.out⟩

/-! ### laws_eqEndpointS: function 35 -/
def laws_eqEndpointS.l0 : Nat → List (S50) → List (S50) → Int → Option (Bool)
  | 0, _, _, _ => none
  | k + 1, x0, x1, x5 => if x5 < (x0.length : Int) then (if 0 ≤ x5 then (if x5 < (x1.length : Int) then ((laws_eqEndpoint.f k ((rd_T50 x0 x5).f0) ((rd_T50 x0 x5).f1) ((rd_T50 x0 x5).f2) ((rd_T50 x0 x5).f3) ((rd_T50 x1 x5).f0) ((rd_T50 x1 x5).f1) ((rd_T50 x1 x5).f2) ((rd_T50 x1 x5).f3)).bind fun t292 => (if t292 = true then (laws_eqEndpointS.l0 k x0 x1 (wrap64 (x5 + 1))) else (some false))) else (none)) else (none)) else (some true)
def laws_eqEndpointS.f (k : Nat) (l0 : List (S50)) (l1 : List (S50)) : Option (Bool) := if (l0.length : Int) = (l1.length : Int) then (laws_eqEndpointS.l0 k l0 l1 0) else (some false)
theorem laws_eqEndpointS.mono_l : ∀ k, (∀ y0 y1 y2, LeO (laws_eqEndpointS.l0 k y0 y1 y2) (laws_eqEndpointS.l0 (k + 1) y0 y1 y2))
  | 0 => fun _ _ _ r h => by simp [laws_eqEndpointS.l0] at h
  | k + 1 => by
    have ih0 := laws_eqEndpointS.mono_l k
    · intro y0 y1 y2
      unfold laws_eqEndpointS.l0
      repeat' first
      | (with_reducible exact ih0 _ _ _)
      | (with_reducible exact laws_eqEndpoint.mono _ _ _ _ _ _ _ _ _)
      | (with_reducible exact LeO.refl _)
      | (with_reducible exact LeO.none _)
      | (with_reducible refine LeO.ite ?_ ?_)
      | (with_reducible refine LeO.bind ?_ (fun _ => ?_))
      | exact ih0 _ _ _
      | exact laws_eqEndpoint.mono _ _ _ _ _ _ _ _ _
      | exact LeO.none _
      | refine LeO.ite ?_ ?_
      | refine LeO.bind ?_ (fun _ => ?_)
theorem laws_eqEndpointS.mono : ∀ a0 a1 k, LeO (laws_eqEndpointS.f k a0 a1) (laws_eqEndpointS.f (k + 1) a0 a1) := by
  intro a0 a1 k
  have ih0 := laws_eqEndpointS.mono_l k
  unfold laws_eqEndpointS.f
  repeat' first
      | (with_reducible exact ih0 _ _ _)
      | (with_reducible exact laws_eqEndpoint.mono _ _ _ _ _ _ _ _ _)
      | (with_reducible exact LeO.refl _)
      | (with_reducible exact LeO.none _)
      | (with_reducible refine LeO.ite ?_ ?_)
      | (with_reducible refine LeO.bind ?_ (fun _ => ?_))
      | exact ih0 _ _ _
      | exact laws_eqEndpoint.mono _ _ _ _ _ _ _ _ _
      | exact LeO.none _
      | refine LeO.ite ?_ ?_
      | refine LeO.bind ?_ (fun _ => ?_)
def laws_eqEndpointS.T6 : Bool × List (List Nat × List Nat) := (true, [([], []), ([], []), ([0, 1], [0, 1]), ([2], [2]), ([], []), ([], []), ([4, 5], [4, 5]), ([6], [6]), ([3, 7], [3, 7]), ([8], [8])])
def laws_eqEndpointS.B6 : List Nat := [0, 0, 3, 7, 0, 0, 48, 112, 255, 511]
theorem laws_eqEndpointS.tab6 : rtab .any (opsOf Try.f35 6) = laws_eqEndpointS.T6 := by kernel_rfl
theorem laws_eqEndpointS.bits6 : waitsOk laws_eqEndpointS.T6.2 laws_eqEndpointS.B6 = true := by kernel_rfl
set_option maxHeartbeats 8000000 in
set_option maxRecDepth 100000 in
theorem laws_eqEndpointS.calls (k : Nat) (A0 : Option Addr) (c0 : Nat) (l0 : List (S50)) (A1 : Option Addr) (c1 : Nat) (l1 : List (S50)) (r : Bool) (w : World) (hr0 : Kd.C k50 w A0 l0.length l0) (hc0 : l0.length ≤ c0) (hr1 : Kd.C k50 w A1 l1.length l1) (hc1 : l1.length ≤ c1) (h : laws_eqEndpointS.f k l0 l1 = some r) :
    Calls Try.prog 35 #[.slice A0 l0.length c0, .slice A1 l1.length c1] w fun e w' => e = .returned (.bool r) ∧ Below w.heap.size w w' := by
  have hu50 := Try.underlying50
  have HR0 := Aside0.mk hr0
  have HC0 := Aside0.mk hc0
  clear hr0 hc0
  have HR1 := Aside0.mk hr1
  have HC1 := Aside0.mk hc1
  clear hr1 hc1
  have HB := Aside0.mk (Below.refl w.heap.size w)
  have H : (if (l0.length : Int) = (l1.length : Int) then (laws_eqEndpointS.l0 k l0 l1 0) else (some false)) = some r := h
  clear h
  by_cases c3 : (l0.length : Int) = (l1.length : Int)
  rotate_left
  · rw [if_neg c3] at H
    have c3b0 : ((l0.length : Int) == (l1.length : Int)) = false := beq_eq_false_iff_ne.mpr c3
    have c3b1 : ((l0.length : Int) != (l1.length : Int)) = true := bne_iff_ne.mpr c3
    have c3b2 : (l0.length == l1.length) = false := by first | simpa using c3 | (simp at c3 ⊢; omega)
    obtain rfl := Option.some.inj H
    go_enter Try.func35, Try.ntmps35
    go_wp2
    go_ret
    exact ⟨er_, pb_ HB.out⟩
  rw [if_pos c3] at H
  have c3b0 : ((l0.length : Int) == (l1.length : Int)) = true := beq_iff_eq.mpr c3
  have c3b1 : ((l0.length : Int) != (l1.length : Int)) = false := bne_eq_false_iff_eq.mpr c3
  have c3b2 : (l0.length == l1.length) = true := by first | simpa using c3 | (simp at c3 ⊢; omega)
  clear c3
  have H' := Aside0.mk H
  clear H
  go_enter Try.func35, Try.ntmps35
  go_wp2
  go_loopg [5] k (fun kq v5 w' => ∃ (x5_1 : Int), v5 = .int .i64 x5_1 ∧ Aside0 (laws_eqEndpointS.l0 kq l0 l1 x5_1 = some r) ∧ Aside0 (kq ≤ k) ∧ Aside0 (Below w.heap.size w w'))
  case atStart => exact ⟨(0), el_, H', ⟨Nat.le_refl _⟩, ⟨pb_ HB.out⟩⟩
  clear H'
  try clear c1
  try clear p2
  try clear c3
  try clear c3b0
  try clear c3b1
  try clear c3b2
  obtain ⟨x5_1, rfl, HA, HK1, HB⟩ := hrel
  rcases gk with _ | k1
  · exact absurd HA.out (by simp [laws_eqEndpointS.l0])
  have H := HA.out
  clear HA
  simp only [laws_eqEndpointS.l0] at H
  by_cases c4 : x5_1 < (l0.length : Int)
  rotate_left
  · rw [if_neg c4] at H
    have c4b0 : decide (x5_1 < (l0.length : Int)) = false := decide_eq_false c4
    clear c4
    obtain rfl := Option.some.inj H
    go_wp2
    go_ret
    exact ⟨er_, pb_ HB.out⟩
  rw [if_pos c4] at H
  have c4b0 : decide (x5_1 < (l0.length : Int)) = true := decide_eq_true c4
  clear c4
  by_cases c5 : 0 ≤ x5_1
  rotate_left
  · rw [if_neg c5] at H
    exact absurd H (by simp)
  rw [if_pos c5] at H
  have c5b0 : decide (0 ≤ x5_1) = true := decide_eq_true c5
  clear c5
  by_cases c6 : x5_1 < (l1.length : Int)
  rotate_left
  · rw [if_neg c6] at H
    exact absurd H (by simp)
  rw [if_pos c6] at H
  have c6b0 : decide (x5_1 < (l1.length : Int)) = true := decide_eq_true c6
  clear c6
  replace H := Option.bind_eq_some_iff.mp H
  obtain ⟨t292, A70, H⟩ := H
  (try dsimp only at H)
  have A7 := Aside0.mk A70
  clear A70
  have HS_ := Aside0.mk H
  clear H
  try go_wp2
  have _ := Aside0.mk (below_drew1 HB.out)
  clear HB
  rename_i HB
  have p290 : 0 ≤ (x5_1 : Int) := dt_
  have q290 : x5_1 < (l0.length : Int) := dt_
  obtain ⟨ad290, A290_0, c290_0, A290_1, c290_1, A290_2, c290_2, e290, hx290_0, hx290_1, hx290_2, hx290_3, hl290_0, hi290_0, hl290_1, hi290_1, hl290_2, hi290_2⟩ := at_T50 HR0.out x5_1 p290 q290
  have hw290_3 := hx290_3
  have hw290_2 := hx290_2
  have hw290_1 := hx290_1
  have hw290_0 := hx290_0
  cases e290
  replace hx290_0 := bt_ HB hx290_0
  replace hx290_1 := bt_ HB hx290_1
  replace hx290_2 := bt_ HB hx290_2
  replace hx290_3 := bt_ HB hx290_3
  have HR290_0 := Aside0.mk hi290_0
  have HC290_0 := Aside0.mk hl290_0
  clear hi290_0 hl290_0
  have HR290_1 := Aside0.mk hi290_1
  have HC290_1 := Aside0.mk hl290_1
  clear hi290_1 hl290_1
  have HR290_2 := Aside0.mk hi290_2
  have HC290_2 := Aside0.mk hl290_2
  clear hi290_2 hl290_2
  replace p290 := eq_true p290
  replace q290 := eq_true q290
  have p291 : 0 ≤ (x5_1 : Int) := dt_
  have q291 : x5_1 < (l1.length : Int) := dt_
  obtain ⟨ad291, A291_0, c291_0, A291_1, c291_1, A291_2, c291_2, e291, hx291_0, hx291_1, hx291_2, hx291_3, hl291_0, hi291_0, hl291_1, hi291_1, hl291_2, hi291_2⟩ := at_T50 HR1.out x5_1 p291 q291
  have hw291_3 := hx291_3
  have hw291_2 := hx291_2
  have hw291_1 := hx291_1
  have hw291_0 := hx291_0
  cases e291
  replace hx291_0 := bt_ HB hx291_0
  replace hx291_1 := bt_ HB hx291_1
  replace hx291_2 := bt_ HB hx291_2
  replace hx291_3 := bt_ HB hx291_3
  have HR291_0 := Aside0.mk hi291_0
  have HC291_0 := Aside0.mk hl291_0
  clear hi291_0 hl291_0
  have HR291_1 := Aside0.mk hi291_1
  have HC291_1 := Aside0.mk hl291_1
  clear hi291_1 hl291_1
  have HR291_2 := Aside0.mk hi291_2
  have HC291_2 := Aside0.mk hl291_2
  clear hi291_2 hl291_2
  replace p291 := eq_true p291
  replace q291 := eq_true q291
  refine start_ (n := 10) (S := fun w' => w'.cell? (ad290.add ((x5_1).toNat * 4)) = some (.slice A290_0 ((rd_T50 l0 x5_1).f0).length c290_0) ∧ w'.cell? ⟨(ad290.add ((x5_1).toNat * 4)).block, (ad290.add ((x5_1).toNat * 4)).off + 1, none⟩ = some (.slice A290_1 ((rd_T50 l0 x5_1).f1).length c290_1) ∧ w'.cell? ⟨(ad290.add ((x5_1).toNat * 4)).block, (ad290.add ((x5_1).toNat * 4)).off + 2, none⟩ = some (.slice A290_2 ((rd_T50 l0 x5_1).f2).length c290_2) ∧ w'.cell? ⟨(ad290.add ((x5_1).toNat * 4)).block, (ad290.add ((x5_1).toNat * 4)).off + 3, none⟩ = some (.int .i64 ((rd_T50 l0 x5_1).f3)) ∧ w'.cell? (ad291.add ((x5_1).toNat * 4)) = some (.slice A291_0 ((rd_T50 l1 x5_1).f0).length c291_0) ∧ w'.cell? ⟨(ad291.add ((x5_1).toNat * 4)).block, (ad291.add ((x5_1).toNat * 4)).off + 1, none⟩ = some (.slice A291_1 ((rd_T50 l1 x5_1).f1).length c291_1) ∧ w'.cell? ⟨(ad291.add ((x5_1).toNat * 4)).block, (ad291.add ((x5_1).toNat * 4)).off + 2, none⟩ = some (.slice A291_2 ((rd_T50 l1 x5_1).f2).length c291_2) ∧ w'.cell? ⟨(ad291.add ((x5_1).toNat * 4)).block, (ad291.add ((x5_1).toNat * 4)).off + 3, none⟩ = some (.int .i64 ((rd_T50 l1 x5_1).f3))) (ds := []) (tf_ 0 10) (by kernel_rfl) rfl rfl ⟨(bt_ HB hw290_0), (bt_ HB hw290_1), (bt_ HB hw290_2), (bt_ HB hw290_3), (bt_ HB hw291_0), (bt_ HB hw291_1), (bt_ HB hw291_2), (bt_ HB hw291_3)⟩ (fun hHeld => ?_); refine with_tabW laws_eqEndpointS.tab6 laws_eqEndpointS.bits6 (fun HT_ HW_ => ?_)
  generalize wr.drew = w8 at HB HR290_0 HR290_1 HR290_2 HR291_0 HR291_1 HR291_2 hx290_0 hx290_1 hx290_2 hx290_3 hx291_0 hx291_1 hx291_2 hx291_3 hHeld ⊢
  refine pu_ 0 (some 17) (tf_ 1 10) HT_ ?_
  refine pu_ 1 (some 18) (tf_ 2 10) HT_ ?_
  refine pu_ 2 (some 19) (tf_ 3 10) HT_ ?_
  refine pu_ 4 (some 21) (tm_ 10 23) HT_ ?_
  refine pu_ 5 (some 22) (tm_ 10 55) HT_ ?_
  refine pu_ 6 (some 23) (tm_ 10 119) HT_ ?_
  refine ta_ 3 (some 20) (tf_ 7 10) HT_ HW_ hHeld ?_
  refine ta_ 7 (some 24) (tf_ 8 10) HT_ HW_ hHeld ?_
  refine on_ 8 (some 25) (tf_ 9 10) HT_ (fun K hK => ?_)
  refine goes_ Try.func69 (by kernel_rfl) rfl #[.agg #[.slice A290_0 ((rd_T50 l0 x5_1).f0).length c290_0, .slice A290_1 ((rd_T50 l0 x5_1).f1).length c290_1, .slice A290_2 ((rd_T50 l0 x5_1).f2).length c290_2, .int .i64 ((rd_T50 l0 x5_1).f3)], .agg #[.slice A291_0 ((rd_T50 l1 x5_1).f0).length c291_0, .slice A291_1 ((rd_T50 l1 x5_1).f1).length c291_1, .slice A291_2 ((rd_T50 l1 x5_1).f2).length c291_2, .int .i64 ((rd_T50 l1 x5_1).f3)]] (by rfl) rfl rfl mp_ ?_
  with_reducible refine (laws_eqEndpoint.calls k1 _ _ ((rd_T50 l0 x5_1).f0) _ _ ((rd_T50 l0 x5_1).f1) _ _ ((rd_T50 l0 x5_1).f2) ((rd_T50 l0 x5_1).f3) _ _ ((rd_T50 l1 x5_1).f0) _ _ ((rd_T50 l1 x5_1).f1) _ _ ((rd_T50 l1 x5_1).f2) ((rd_T50 l1 x5_1).f3) t292 _ ?side1 ?side2 ?side3 ?side4 ?side5 ?side6 ?side7 ?side8 ?side9 ?side10 ?side11 ?side12 A7.out).mono ?_
  (case side1 => exact cb_ HR290_0 HB)
  (case side2 => exact HC290_0.out)
  (case side3 => exact cb_ HR290_1 HB)
  (case side4 => exact HC290_1.out)
  (case side5 => exact cb_ HR290_2 HB)
  (case side6 => exact HC290_2.out)
  (case side7 => exact cb_ HR291_0 HB)
  (case side8 => exact HC291_0.out)
  (case side9 => exact cb_ HR291_1 HB)
  (case side10 => exact HC291_1.out)
  (case side11 => exact cb_ HR291_2 HB)
  (case side12 => exact HC291_2.out)
  rintro e w9 ⟨rfl, hb⟩
  refine ⟨_, rfl, ?_⟩
  have _ := Aside0.mk (below_step (pb_ HB.out) hb)
  clear HB
  rename_i HB
  (try clear hb)
  (try clear hb2)
  (try clear hk)
  (try clear hi)
  refine hK.out _ _ ⟨(bt_ HB hw290_0), (bt_ HB hw290_1), (bt_ HB hw290_2), (bt_ HB hw290_3), (bt_ HB hw291_0), (bt_ HB hw291_1), (bt_ HB hw291_2), (bt_ HB hw291_3)⟩ (fun hHeld => ?_)
  clear hK K
  refine no_ (some 25) ?_
  refine pu_ 9 (some 26) (tf_ 10 10) HT_ ?_
  refine done_ (done_of HT_.out (by kernel_rfl)) ?_
  go_upto_if 26 with (fail)
  have H := HS_.out
  clear HS_
  by_cases c10 : t292 = true
  rotate_left
  · replace c10 := Bool.eq_false_iff.mpr c10
    subst c10
    rw [if_neg (show ¬ (false = true) by decide)] at H
    obtain rfl := Option.some.inj H
    go_wp2
    go_ret
    exact ⟨er_, pb_ HB.out⟩
  subst c10
  rw [if_pos rfl] at H
  have H' := Aside0.mk H
  clear H
  go_wp2
  go_roundg k1
  case measure => have := HK1.out; omega
  case rel => exact ⟨(wrap64 (x5_1 + 1)), el_, H', ⟨by have := HK1.out; omega⟩, ⟨pb_ HB.out⟩⟩

/-! ### laws_eqRollout: function 36 -/
def laws_eqRollout.f (k : Nat) (a0_0 : Int) (l0_1 : List Int) (a0_2 : Int) (a0_3 : Bool) (a1_0 : Int) (l1_1 : List Int) (a1_2 : Int) (a1_3 : Bool) : Option (Bool) := if a0_0 = a1_0 then ((laws_eqIntS.f k l0_1 l1_1).bind fun t295 => (if t295 = true then (if a0_2 = a1_2 then (if a0_3 = true then (if a1_3 = true then (some true) else (some false)) else (if a1_3 = true then (some false) else (some true))) else (some false)) else (some false))) else (some false)
theorem laws_eqRollout.mono : ∀ a0 a1 a2 a3 a4 a5 a6 a7 k, LeO (laws_eqRollout.f k a0 a1 a2 a3 a4 a5 a6 a7) (laws_eqRollout.f (k + 1) a0 a1 a2 a3 a4 a5 a6 a7) := by
  intro a0 a1 a2 a3 a4 a5 a6 a7 k
  unfold laws_eqRollout.f
  repeat' first
      | (with_reducible exact laws_eqIntS.mono _ _ _)
      | (with_reducible exact LeO.refl _)
      | (with_reducible exact LeO.none _)
      | (with_reducible refine LeO.ite ?_ ?_)
      | (with_reducible refine LeO.bind ?_ (fun _ => ?_))
      | exact laws_eqIntS.mono _ _ _
      | exact LeO.none _
      | refine LeO.ite ?_ ?_
      | refine LeO.bind ?_ (fun _ => ?_)
set_option maxHeartbeats 8000000 in
set_option maxRecDepth 100000 in
theorem laws_eqRollout.calls (k : Nat) (a0_0 : Int) (A0_1 : Option Addr) (c0_1 : Nat) (l0_1 : List Int) (a0_2 : Int) (a0_3 : Bool) (a1_0 : Int) (A1_1 : Option Addr) (c1_1 : Nat) (l1_1 : List Int) (a1_2 : Int) (a1_3 : Bool) (r : Bool) (w : World) (hr0_1 : Kd.C (Kd.int .i64) w A0_1 l0_1.length l0_1) (hc0_1 : l0_1.length ≤ c0_1) (hr1_1 : Kd.C (Kd.int .i64) w A1_1 l1_1.length l1_1) (hc1_1 : l1_1.length ≤ c1_1) (h : laws_eqRollout.f k a0_0 l0_1 a0_2 a0_3 a1_0 l1_1 a1_2 a1_3 = some r) :
    Calls Try.prog 36 #[.agg #[.int .i64 a0_0, .slice A0_1 l0_1.length c0_1, .int .i64 a0_2, .bool a0_3], .agg #[.int .i64 a1_0, .slice A1_1 l1_1.length c1_1, .int .i64 a1_2, .bool a1_3]] w fun e w' => e = .returned (.bool r) ∧ Below w.heap.size w w' := by
  have hu33 := Try.underlying33
  have HR0_1 := Aside0.mk hr0_1
  have HC0_1 := Aside0.mk hc0_1
  clear hr0_1 hc0_1
  have HR1_1 := Aside0.mk hr1_1
  have HC1_1 := Aside0.mk hc1_1
  clear hr1_1 hc1_1
  have HB := Aside0.mk (Below.refl w.heap.size w)
  have H : (if a0_0 = a1_0 then ((laws_eqIntS.f k l0_1 l1_1).bind fun t295 => (if t295 = true then (if a0_2 = a1_2 then (if a0_3 = true then (if a1_3 = true then (some true) else (some false)) else (if a1_3 = true then (some false) else (some true))) else (some false)) else (some false))) else (some false)) = some r := h
  clear h
  have HS_ := Aside0.mk H
  clear H
  go_enter Try.func36, Try.ntmps36
  go_upto_region 1 with (first | ((with_reducible refine gate_dst (N := 2) rfl ?_); refine box_event ?hg (N := 2) ?hd (cs := #[.int .i64 a0_0, .slice A0_1 l0_1.length c0_1, .int .i64 a0_2, .bool a0_3]) (t := 33) ?hr ?_; (case hd => rfl); (case hg => rfl); (case hr => first | (go_simp; done) | (go_simp; rfl)); intro gb293 hg w3 hbox hb; have n0_ := Aside0.mk (below_step (pb_ HB.out) hb); have n1_ := Aside0.mk (hbox); have n2_ := Aside0.mk ((by rw [hg]; exact (below_size (pb_ HB.out)) : w.heap.size ≤ gb293)); have n3_ := Aside0.mk ((by rw [hg]; exact (below_size (pb_ HB.out)) : w.heap.size ≤ gb293)); clear HB; have HB := n0_; have BK293 := n1_; have GW293 := n2_; have GE293 := n3_; clear n0_ n1_ n2_ n3_; clear hb hbox hg) | ((with_reducible refine gate_dst (N := 3) rfl ?_); refine box_event ?hg (N := 3) ?hd (cs := #[.int .i64 a1_0, .slice A1_1 l1_1.length c1_1, .int .i64 a1_2, .bool a1_3]) (t := 33) ?hr ?_; (case hd => rfl); (case hg => rfl); (case hr => first | (go_simp; done) | (go_simp; rfl)); intro gb294 hg w4 hbox hb; have n0_ := Aside0.mk (bb_ BK293.out hb); have n1_ := Aside0.mk (below_step (pb1_ HB.out GE293.out) hb); have n2_ := Aside0.mk (hbox); have n3_ := Aside0.mk ((by rw [hg]; exact (below_size (pb1_ HB.out GE293.out)) : w.heap.size ≤ gb294)); have n4_ := Aside0.mk ((by rw [hg]; exact (below_size (pb1_ HB.out GE293.out)) : w.heap.size ≤ gb294)); have n5_ := Aside0.mk ((by rw [hg]; exact Nat.ne_of_lt (blk_lt (pk_ BK293.out)) : gb293 ≠ gb294)); have n6_ := Aside0.mk ((by rw [hg]; exact Nat.ne_of_gt (blk_lt (pk_ BK293.out)) : gb294 ≠ gb293)); clear BK293; clear HB; have BK293 := n0_; have HB := n1_; have BK294 := n2_; have GW294 := n3_; have GE294 := n4_; have NB293_294 := n5_; have NB294_293 := n6_; clear n0_ n1_ n2_ n3_ n4_ n5_ n6_; clear hb hbox hg))
  (try simp only [Act.put, List.setIfInBounds_toArray, List.set_cons_zero, List.set_cons_succ])
  have H := HS_.out
  clear HS_
  by_cases c5 : a0_0 = a1_0
  rotate_left
  · rw [if_neg c5] at H
    have c5b0 : (a0_0 == a1_0) = false := beq_eq_false_iff_ne.mpr c5
    have c5b1 : (a0_0 != a1_0) = true := bne_iff_ne.mpr c5
    (first | rw [c5b0] | (simp only [i64_w, i32_w]; rw [c5b0]) | rw [c5b1] | (have c_ := c5b1; rw [bne] at c_; rw [c_]; clear c_) | skip)
    obtain rfl := Option.some.inj H
    have hnb6 := NB293_294.out
    have hnc6 := NB294_293.out
    have hcz7 := bc4_ BK293.out
    have hcz8 := bc4_ BK294.out
    go_wp2
    go_ret
    exact ⟨er_, pb2_ HB.out GE293.out GE294.out⟩
  rw [if_pos c5] at H
  have c5b0 : (a0_0 == a1_0) = true := beq_iff_eq.mpr c5
  have c5b1 : (a0_0 != a1_0) = false := bne_eq_false_iff_eq.mpr c5
  clear c5
  (first | rw [c5b0] | (simp only [i64_w, i32_w]; rw [c5b0]) | rw [c5b1] | (have c_ := c5b1; rw [bne] at c_; rw [c_]; clear c_) | skip)
  replace H := Option.bind_eq_some_iff.mp H
  obtain ⟨t295, A90, H⟩ := H
  (try dsimp only at H)
  have A9 := Aside0.mk A90
  clear A90
  have HS_ := Aside0.mk H
  clear H
  have hnb10 := NB293_294.out
  have hnc10 := NB294_293.out
  have hcz11 := bc4_ BK293.out
  have hcz12 := bc4_ BK294.out
  go_upto_if 15 with (first | ((with_reducible refine gate_callee (f := 34) rfl ?_); refine gl_ (some 14) Try.func34 #[.slice A0_1 l0_1.length c0_1, .slice A1_1 l1_1.length c1_1] ?_; (with_reducible refine (laws_eqIntS.calls k _ _ l0_1 _ _ l1_1 t295 _ ?side1 ?side2 ?side3 ?side4 A9.out).mono ?_); (case side1 => exact cb_ HR0_1 HB); (case side2 => exact HC0_1.out); (case side3 => exact cb_ HR1_1 HB); (case side4 => exact HC1_1.out); rintro e w' ⟨rfl, ⟨nd, rfl⟩⟩; refine ⟨_, rfl, ?_⟩))
  (try simp only [Act.put, List.setIfInBounds_toArray, List.set_cons_zero, List.set_cons_succ])
  have H := HS_.out
  clear HS_
  by_cases c13 : t295 = true
  rotate_left
  · replace c13 := Bool.eq_false_iff.mpr c13
    subst c13
    rw [if_neg (show ¬ (false = true) by decide)] at H
    obtain rfl := Option.some.inj H
    go_wp2
    go_ret
    exact ⟨er_, pb2_ HB.out GE293.out GE294.out⟩
  subst c13
  rw [if_pos rfl] at H
  by_cases c14 : a0_2 = a1_2
  rotate_left
  · rw [if_neg c14] at H
    have c14b0 : (a0_2 == a1_2) = false := beq_eq_false_iff_ne.mpr c14
    have c14b1 : (a0_2 != a1_2) = true := bne_iff_ne.mpr c14
    (first | rw [c14b0] | (simp only [i64_w, i32_w]; rw [c14b0]) | rw [c14b1] | (have c_ := c14b1; rw [bne] at c_; rw [c_]; clear c_) | skip)
    obtain rfl := Option.some.inj H
    have hnb15 := NB293_294.out
    have hnc15 := NB294_293.out
    have hcz16 := bc4_ BK293.out
    have hcz17 := bc4_ BK294.out
    go_wp2
    go_ret
    exact ⟨er_, pb2_ HB.out GE293.out GE294.out⟩
  rw [if_pos c14] at H
  have c14b0 : (a0_2 == a1_2) = true := beq_iff_eq.mpr c14
  have c14b1 : (a0_2 != a1_2) = false := bne_eq_false_iff_eq.mpr c14
  clear c14
  (first | rw [c14b0] | (simp only [i64_w, i32_w]; rw [c14b0]) | rw [c14b1] | (have c_ := c14b1; rw [bne] at c_; rw [c_]; clear c_) | skip)
  by_cases c18 : a0_3 = true
  rotate_left
  · replace c18 := Bool.eq_false_iff.mpr c18
    subst c18
    rw [if_neg (show ¬ (false = true) by decide)] at H
    by_cases c19 : a1_3 = true
    rotate_left
    · replace c19 := Bool.eq_false_iff.mpr c19
      subst c19
      rw [if_neg (show ¬ (false = true) by decide)] at H
      obtain rfl := Option.some.inj H
      have hnb20 := NB293_294.out
      have hnc20 := NB294_293.out
      have hcz21 := bc4_ BK293.out
      have hcz22 := bc4_ BK294.out
      go_wp2
      go_ret
      exact ⟨er_, pb2_ HB.out GE293.out GE294.out⟩
    subst c19
    rw [if_pos rfl] at H
    obtain rfl := Option.some.inj H
    have hnb23 := NB293_294.out
    have hnc23 := NB294_293.out
    have hcz24 := bc4_ BK293.out
    have hcz25 := bc4_ BK294.out
    go_wp2
    go_ret
    exact ⟨er_, pb2_ HB.out GE293.out GE294.out⟩
  subst c18
  rw [if_pos rfl] at H
  by_cases c26 : a1_3 = true
  rotate_left
  · replace c26 := Bool.eq_false_iff.mpr c26
    subst c26
    rw [if_neg (show ¬ (false = true) by decide)] at H
    obtain rfl := Option.some.inj H
    have hnb27 := NB293_294.out
    have hnc27 := NB294_293.out
    have hcz28 := bc4_ BK293.out
    have hcz29 := bc4_ BK294.out
    go_wp2
    go_ret
    exact ⟨er_, pb2_ HB.out GE293.out GE294.out⟩
  subst c26
  rw [if_pos rfl] at H
  obtain rfl := Option.some.inj H
  have hnb30 := NB293_294.out
  have hnc30 := NB294_293.out
  have hcz31 := bc4_ BK293.out
  have hcz32 := bc4_ BK294.out
  go_wp2
  go_ret
  exact ⟨er_, pb2_ HB.out GE293.out GE294.out⟩

end Go.Proofs.Ytchnkakjjbfklaa.Print
