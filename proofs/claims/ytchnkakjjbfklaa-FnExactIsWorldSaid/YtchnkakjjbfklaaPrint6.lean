-- Written by a program of this session (printx.py) out of the translation; Lean checks it.
import Derived.Test.YtchnkakjjbfklaaPrint0
import Derived.Test.YtchnkakjjbfklaaPrint3
import Derived.Test.YtchnkakjjbfklaaPrint4
import Derived.Test.YtchnkakjjbfklaaPrint5
namespace Go.Proofs.Ytchnkakjjbfklaa.Print
open Go.RowKit Go.Proofs.YtchnkakjjbfklaaW.PrintWords Go.Proofs.YtchnkakjjbfklaaW.PrintLast Go.Proofs.YtchnkakjjbfklaaW.PrintMore Go.Proofs.Ytchnkakjjbfklaa.Short
attribute [local go_sem] max2_int min2_int max_two min_two max_three min_three max_four min_four   -- for this text's walks alone
set_option linter.unusedVariables false
set_option linter.unusedSimpArgs false

/-! ### laws_eqLoggedS: function 38 -/
def laws_eqLoggedS.l0 : Nat → List (S57) → List (S57) → Int → Option (Bool)
  | 0, _, _, _ => none
  | k + 1, x0, x1, x5 => if x5 < (x0.length : Int) then (if 0 ≤ x5 then (if x5 < (x1.length : Int) then ((laws_eqLogged.f k ((rd_T57 x0 x5).f0) ((rd_T57 x0 x5).f1) ((rd_T57 x0 x5).f2) ((rd_T57 x0 x5).f3.f0.f0) ((rd_T57 x0 x5).f3.f0.f1) ((rd_T57 x0 x5).f3.f0.f2) ((rd_T57 x0 x5).f3.f1) ((rd_T57 x0 x5).f3.f2) ((rd_T57 x1 x5).f0) ((rd_T57 x1 x5).f1) ((rd_T57 x1 x5).f2) ((rd_T57 x1 x5).f3.f0.f0) ((rd_T57 x1 x5).f3.f0.f1) ((rd_T57 x1 x5).f3.f0.f2) ((rd_T57 x1 x5).f3.f1) ((rd_T57 x1 x5).f3.f2)).bind fun t313 => (if t313 = true then (laws_eqLoggedS.l0 k x0 x1 (wrap64 (x5 + 1))) else (some false))) else (none)) else (none)) else (some true)
def laws_eqLoggedS.f (k : Nat) (l0 : List (S57)) (l1 : List (S57)) : Option (Bool) := if (l0.length : Int) = (l1.length : Int) then (laws_eqLoggedS.l0 k l0 l1 0) else (some false)
theorem laws_eqLoggedS.mono_l : ∀ k, (∀ y0 y1 y2, LeO (laws_eqLoggedS.l0 k y0 y1 y2) (laws_eqLoggedS.l0 (k + 1) y0 y1 y2))
  | 0 => fun _ _ _ r h => by simp [laws_eqLoggedS.l0] at h
  | k + 1 => by
    have ih0 := laws_eqLoggedS.mono_l k
    · intro y0 y1 y2
      unfold laws_eqLoggedS.l0
      repeat' first
      | (with_reducible exact ih0 _ _ _)
      | (with_reducible exact laws_eqLogged.mono _ _ _ _ _ _ _ _ _ _ _ _ _ _ _ _ _)
      | (with_reducible exact LeO.refl _)
      | (with_reducible exact LeO.none _)
      | (with_reducible refine LeO.ite ?_ ?_)
      | (with_reducible refine LeO.bind ?_ (fun _ => ?_))
      | exact ih0 _ _ _
      | exact laws_eqLogged.mono _ _ _ _ _ _ _ _ _ _ _ _ _ _ _ _ _
      | exact LeO.none _
      | refine LeO.ite ?_ ?_
      | refine LeO.bind ?_ (fun _ => ?_)
theorem laws_eqLoggedS.mono : ∀ a0 a1 k, LeO (laws_eqLoggedS.f k a0 a1) (laws_eqLoggedS.f (k + 1) a0 a1) := by
  intro a0 a1 k
  have ih0 := laws_eqLoggedS.mono_l k
  unfold laws_eqLoggedS.f
  repeat' first
      | (with_reducible exact ih0 _ _ _)
      | (with_reducible exact laws_eqLogged.mono _ _ _ _ _ _ _ _ _ _ _ _ _ _ _ _ _)
      | (with_reducible exact LeO.refl _)
      | (with_reducible exact LeO.none _)
      | (with_reducible refine LeO.ite ?_ ?_)
      | (with_reducible refine LeO.bind ?_ (fun _ => ?_))
      | exact ih0 _ _ _
      | exact laws_eqLogged.mono _ _ _ _ _ _ _ _ _ _ _ _ _ _ _ _ _
      | exact LeO.none _
      | refine LeO.ite ?_ ?_
      | refine LeO.bind ?_ (fun _ => ?_)
def laws_eqLoggedS.T6 : Bool × List (List Nat × List Nat) := (true, [([], []), ([], []), ([0, 1], [0, 1]), ([2], [2]), ([], []), ([], []), ([4, 5], [4, 5]), ([6], [6]), ([3, 7], [3, 7]), ([8], [8])])
def laws_eqLoggedS.B6 : List Nat := [0, 0, 3, 7, 0, 0, 48, 112, 255, 511]
theorem laws_eqLoggedS.tab6 : rtab .any (opsOf Try.f38 6) = laws_eqLoggedS.T6 := by kernel_rfl
theorem laws_eqLoggedS.bits6 : waitsOk laws_eqLoggedS.T6.2 laws_eqLoggedS.B6 = true := by kernel_rfl
set_option maxHeartbeats 8000000 in
set_option maxRecDepth 100000 in
theorem laws_eqLoggedS.calls (k : Nat) (A0 : Option Addr) (c0 : Nat) (l0 : List (S57)) (A1 : Option Addr) (c1 : Nat) (l1 : List (S57)) (r : Bool) (w : World) (hr0 : Kd.C k57 w A0 l0.length l0) (hc0 : l0.length ≤ c0) (hr1 : Kd.C k57 w A1 l1.length l1) (hc1 : l1.length ≤ c1) (h : laws_eqLoggedS.f k l0 l1 = some r) :
    Calls Try.prog 38 #[.slice A0 l0.length c0, .slice A1 l1.length c1] w fun e w' => e = .returned (.bool r) ∧ Below w.heap.size w w' := by
  have hu57 := Try.underlying57
  have HR0 := Aside0.mk hr0
  have HC0 := Aside0.mk hc0
  clear hr0 hc0
  have HR1 := Aside0.mk hr1
  have HC1 := Aside0.mk hc1
  clear hr1 hc1
  have HB := Aside0.mk (Below.refl w.heap.size w)
  have H : (if (l0.length : Int) = (l1.length : Int) then (laws_eqLoggedS.l0 k l0 l1 0) else (some false)) = some r := h
  clear h
  by_cases c3 : (l0.length : Int) = (l1.length : Int)
  rotate_left
  · rw [if_neg c3] at H
    have c3b0 : ((l0.length : Int) == (l1.length : Int)) = false := beq_eq_false_iff_ne.mpr c3
    have c3b1 : ((l0.length : Int) != (l1.length : Int)) = true := bne_iff_ne.mpr c3
    have c3b2 : (l0.length == l1.length) = false := by first | simpa using c3 | (simp at c3 ⊢; omega)
    obtain rfl := Option.some.inj H
    go_enter Try.func38, Try.ntmps38
    go_wp2
    go_ret
    exact ⟨er_, pb_ HB.out⟩
  rw [if_pos c3] at H
  have c3b0 : ((l0.length : Int) == (l1.length : Int)) = true := beq_iff_eq.mpr c3
  have c3b1 : ((l0.length : Int) != (l1.length : Int)) = false := bne_eq_false_iff_eq.mpr c3
  have c3b2 : (l0.length == l1.length) = true := by first | simpa using c3 | (simp at c3 ⊢; omega)
  clear c3
  have H' := Aside0.mk H
  clear H
  go_enter Try.func38, Try.ntmps38
  go_wp2
  go_loopg [5] k (fun kq v5 w' => ∃ (x5_1 : Int), v5 = .int .i64 x5_1 ∧ Aside0 (laws_eqLoggedS.l0 kq l0 l1 x5_1 = some r) ∧ Aside0 (kq ≤ k) ∧ Aside0 (Below w.heap.size w w'))
  case atStart => exact ⟨(0), el_, H', ⟨Nat.le_refl _⟩, ⟨pb_ HB.out⟩⟩
  clear H'
  try clear c1
  try clear p2
  try clear c3
  try clear c3b0
  try clear c3b1
  try clear c3b2
  obtain ⟨x5_1, rfl, HA, HK1, HB⟩ := hrel
  rcases gk with _ | k1
  · exact absurd HA.out (by simp [laws_eqLoggedS.l0])
  have H := HA.out
  clear HA
  simp only [laws_eqLoggedS.l0] at H
  by_cases c4 : x5_1 < (l0.length : Int)
  rotate_left
  · rw [if_neg c4] at H
    have c4b0 : decide (x5_1 < (l0.length : Int)) = false := decide_eq_false c4
    clear c4
    obtain rfl := Option.some.inj H
    go_wp2
    go_ret
    exact ⟨er_, pb_ HB.out⟩
  rw [if_pos c4] at H
  have c4b0 : decide (x5_1 < (l0.length : Int)) = true := decide_eq_true c4
  clear c4
  by_cases c5 : 0 ≤ x5_1
  rotate_left
  · rw [if_neg c5] at H
    exact absurd H (by simp)
  rw [if_pos c5] at H
  have c5b0 : decide (0 ≤ x5_1) = true := decide_eq_true c5
  clear c5
  by_cases c6 : x5_1 < (l1.length : Int)
  rotate_left
  · rw [if_neg c6] at H
    exact absurd H (by simp)
  rw [if_pos c6] at H
  have c6b0 : decide (x5_1 < (l1.length : Int)) = true := decide_eq_true c6
  clear c6
  replace H := Option.bind_eq_some_iff.mp H
  obtain ⟨t313, A70, H⟩ := H
  (try dsimp only at H)
  have A7 := Aside0.mk A70
  clear A70
  have HS_ := Aside0.mk H
  clear H
  try go_wp2
  have _ := Aside0.mk (below_drew1 HB.out)
  clear HB
  rename_i HB
  have p311 : 0 ≤ (x5_1 : Int) := dt_
  have q311 : x5_1 < (l0.length : Int) := dt_
  obtain ⟨ad311, A311_5, c311_5, A311_7, c311_7, e311, hx311_0, hx311_1, hx311_2, hx311_3, hx311_4, hx311_5, hx311_6, hx311_7, hl311_5, hi311_5, hl311_7, hi311_7⟩ := at_T57 HR0.out x5_1 p311 q311
  have hw311_7 := hx311_7
  have hw311_6 := hx311_6
  have hw311_5 := hx311_5
  have hw311_4 := hx311_4
  have hw311_3 := hx311_3
  have hw311_2 := hx311_2
  have hw311_1 := hx311_1
  have hw311_0 := hx311_0
  cases e311
  replace hx311_0 := bt_ HB hx311_0
  replace hx311_1 := bt_ HB hx311_1
  replace hx311_2 := bt_ HB hx311_2
  replace hx311_3 := bt_ HB hx311_3
  replace hx311_4 := bt_ HB hx311_4
  replace hx311_5 := bt_ HB hx311_5
  replace hx311_6 := bt_ HB hx311_6
  replace hx311_7 := bt_ HB hx311_7
  have HR311_5 := Aside0.mk hi311_5
  have HC311_5 := Aside0.mk hl311_5
  clear hi311_5 hl311_5
  have HR311_7 := Aside0.mk hi311_7
  have HC311_7 := Aside0.mk hl311_7
  clear hi311_7 hl311_7
  replace p311 := eq_true p311
  replace q311 := eq_true q311
  have p312 : 0 ≤ (x5_1 : Int) := dt_
  have q312 : x5_1 < (l1.length : Int) := dt_
  obtain ⟨ad312, A312_5, c312_5, A312_7, c312_7, e312, hx312_0, hx312_1, hx312_2, hx312_3, hx312_4, hx312_5, hx312_6, hx312_7, hl312_5, hi312_5, hl312_7, hi312_7⟩ := at_T57 HR1.out x5_1 p312 q312
  have hw312_7 := hx312_7
  have hw312_6 := hx312_6
  have hw312_5 := hx312_5
  have hw312_4 := hx312_4
  have hw312_3 := hx312_3
  have hw312_2 := hx312_2
  have hw312_1 := hx312_1
  have hw312_0 := hx312_0
  cases e312
  replace hx312_0 := bt_ HB hx312_0
  replace hx312_1 := bt_ HB hx312_1
  replace hx312_2 := bt_ HB hx312_2
  replace hx312_3 := bt_ HB hx312_3
  replace hx312_4 := bt_ HB hx312_4
  replace hx312_5 := bt_ HB hx312_5
  replace hx312_6 := bt_ HB hx312_6
  replace hx312_7 := bt_ HB hx312_7
  have HR312_5 := Aside0.mk hi312_5
  have HC312_5 := Aside0.mk hl312_5
  clear hi312_5 hl312_5
  have HR312_7 := Aside0.mk hi312_7
  have HC312_7 := Aside0.mk hl312_7
  clear hi312_7 hl312_7
  replace p312 := eq_true p312
  replace q312 := eq_true q312
  refine start_ (n := 10) (S := fun w' => w'.cell? (ad311.add ((x5_1).toNat * 8)) = some (.int .i64 ((rd_T57 l0 x5_1).f0)) ∧ w'.cell? ⟨(ad311.add ((x5_1).toNat * 8)).block, (ad311.add ((x5_1).toNat * 8)).off + 1, none⟩ = some (.int .i64 ((rd_T57 l0 x5_1).f1)) ∧ w'.cell? ⟨(ad311.add ((x5_1).toNat * 8)).block, (ad311.add ((x5_1).toNat * 8)).off + 2, none⟩ = some (.bool ((rd_T57 l0 x5_1).f2)) ∧ w'.cell? ⟨(ad311.add ((x5_1).toNat * 8)).block, (ad311.add ((x5_1).toNat * 8)).off + 3, none⟩ = some (.bool ((rd_T57 l0 x5_1).f3.f0.f0)) ∧ w'.cell? ⟨(ad311.add ((x5_1).toNat * 8)).block, (ad311.add ((x5_1).toNat * 8)).off + 4, none⟩ = some (.int .i64 ((rd_T57 l0 x5_1).f3.f0.f1)) ∧ w'.cell? ⟨(ad311.add ((x5_1).toNat * 8)).block, (ad311.add ((x5_1).toNat * 8)).off + 5, none⟩ = some (.slice A311_5 ((rd_T57 l0 x5_1).f3.f0.f2).length c311_5) ∧ w'.cell? ⟨(ad311.add ((x5_1).toNat * 8)).block, (ad311.add ((x5_1).toNat * 8)).off + 6, none⟩ = some (.int .i64 ((rd_T57 l0 x5_1).f3.f1)) ∧ w'.cell? ⟨(ad311.add ((x5_1).toNat * 8)).block, (ad311.add ((x5_1).toNat * 8)).off + 7, none⟩ = some (.slice A311_7 ((rd_T57 l0 x5_1).f3.f2).length c311_7) ∧ w'.cell? (ad312.add ((x5_1).toNat * 8)) = some (.int .i64 ((rd_T57 l1 x5_1).f0)) ∧ w'.cell? ⟨(ad312.add ((x5_1).toNat * 8)).block, (ad312.add ((x5_1).toNat * 8)).off + 1, none⟩ = some (.int .i64 ((rd_T57 l1 x5_1).f1)) ∧ w'.cell? ⟨(ad312.add ((x5_1).toNat * 8)).block, (ad312.add ((x5_1).toNat * 8)).off + 2, none⟩ = some (.bool ((rd_T57 l1 x5_1).f2)) ∧ w'.cell? ⟨(ad312.add ((x5_1).toNat * 8)).block, (ad312.add ((x5_1).toNat * 8)).off + 3, none⟩ = some (.bool ((rd_T57 l1 x5_1).f3.f0.f0)) ∧ w'.cell? ⟨(ad312.add ((x5_1).toNat * 8)).block, (ad312.add ((x5_1).toNat * 8)).off + 4, none⟩ = some (.int .i64 ((rd_T57 l1 x5_1).f3.f0.f1)) ∧ w'.cell? ⟨(ad312.add ((x5_1).toNat * 8)).block, (ad312.add ((x5_1).toNat * 8)).off + 5, none⟩ = some (.slice A312_5 ((rd_T57 l1 x5_1).f3.f0.f2).length c312_5) ∧ w'.cell? ⟨(ad312.add ((x5_1).toNat * 8)).block, (ad312.add ((x5_1).toNat * 8)).off + 6, none⟩ = some (.int .i64 ((rd_T57 l1 x5_1).f3.f1)) ∧ w'.cell? ⟨(ad312.add ((x5_1).toNat * 8)).block, (ad312.add ((x5_1).toNat * 8)).off + 7, none⟩ = some (.slice A312_7 ((rd_T57 l1 x5_1).f3.f2).length c312_7)) (ds := []) (tf_ 0 10) (by kernel_rfl) rfl rfl ⟨(bt_ HB hw311_0), (bt_ HB hw311_1), (bt_ HB hw311_2), (bt_ HB hw311_3), (bt_ HB hw311_4), (bt_ HB hw311_5), (bt_ HB hw311_6), (bt_ HB hw311_7), (bt_ HB hw312_0), (bt_ HB hw312_1), (bt_ HB hw312_2), (bt_ HB hw312_3), (bt_ HB hw312_4), (bt_ HB hw312_5), (bt_ HB hw312_6), (bt_ HB hw312_7)⟩ (fun hHeld => ?_); refine with_tabW laws_eqLoggedS.tab6 laws_eqLoggedS.bits6 (fun HT_ HW_ => ?_)
  generalize wr.drew = w8 at HB HR311_5 HR311_7 HR312_5 HR312_7 hx311_0 hx311_1 hx311_2 hx311_3 hx311_4 hx311_5 hx311_6 hx311_7 hx312_0 hx312_1 hx312_2 hx312_3 hx312_4 hx312_5 hx312_6 hx312_7 hHeld ⊢
  refine pu_ 0 (some 17) (tf_ 1 10) HT_ ?_
  refine pu_ 1 (some 18) (tf_ 2 10) HT_ ?_
  refine pu_ 2 (some 19) (tf_ 3 10) HT_ ?_
  refine pu_ 4 (some 21) (tm_ 10 23) HT_ ?_
  refine pu_ 5 (some 22) (tm_ 10 55) HT_ ?_
  refine pu_ 6 (some 23) (tm_ 10 119) HT_ ?_
  refine ta_ 3 (some 20) (tf_ 7 10) HT_ HW_ hHeld ?_
  refine ta_ 7 (some 24) (tf_ 8 10) HT_ HW_ hHeld ?_
  refine on_ 8 (some 25) (tf_ 9 10) HT_ (fun K hK => ?_)
  refine goes_ Try.func71 (by kernel_rfl) rfl #[.agg #[.int .i64 ((rd_T57 l0 x5_1).f0), .int .i64 ((rd_T57 l0 x5_1).f1), .bool ((rd_T57 l0 x5_1).f2), .bool ((rd_T57 l0 x5_1).f3.f0.f0), .int .i64 ((rd_T57 l0 x5_1).f3.f0.f1), .slice A311_5 ((rd_T57 l0 x5_1).f3.f0.f2).length c311_5, .int .i64 ((rd_T57 l0 x5_1).f3.f1), .slice A311_7 ((rd_T57 l0 x5_1).f3.f2).length c311_7], .agg #[.int .i64 ((rd_T57 l1 x5_1).f0), .int .i64 ((rd_T57 l1 x5_1).f1), .bool ((rd_T57 l1 x5_1).f2), .bool ((rd_T57 l1 x5_1).f3.f0.f0), .int .i64 ((rd_T57 l1 x5_1).f3.f0.f1), .slice A312_5 ((rd_T57 l1 x5_1).f3.f0.f2).length c312_5, .int .i64 ((rd_T57 l1 x5_1).f3.f1), .slice A312_7 ((rd_T57 l1 x5_1).f3.f2).length c312_7]] (by rfl) rfl rfl mp_ ?_
  with_reducible refine (laws_eqLogged.calls k1 ((rd_T57 l0 x5_1).f0) ((rd_T57 l0 x5_1).f1) ((rd_T57 l0 x5_1).f2) ((rd_T57 l0 x5_1).f3.f0.f0) ((rd_T57 l0 x5_1).f3.f0.f1) _ _ ((rd_T57 l0 x5_1).f3.f0.f2) ((rd_T57 l0 x5_1).f3.f1) _ _ ((rd_T57 l0 x5_1).f3.f2) ((rd_T57 l1 x5_1).f0) ((rd_T57 l1 x5_1).f1) ((rd_T57 l1 x5_1).f2) ((rd_T57 l1 x5_1).f3.f0.f0) ((rd_T57 l1 x5_1).f3.f0.f1) _ _ ((rd_T57 l1 x5_1).f3.f0.f2) ((rd_T57 l1 x5_1).f3.f1) _ _ ((rd_T57 l1 x5_1).f3.f2) t313 _ ?side1 ?side2 ?side3 ?side4 ?side5 ?side6 ?side7 ?side8 A7.out).mono ?_
  (case side1 => exact cb_ HR311_5 HB)
  (case side2 => exact HC311_5.out)
  (case side3 => exact cb_ HR311_7 HB)
  (case side4 => exact HC311_7.out)
  (case side5 => exact cb_ HR312_5 HB)
  (case side6 => exact HC312_5.out)
  (case side7 => exact cb_ HR312_7 HB)
  (case side8 => exact HC312_7.out)
  rintro e w9 ⟨rfl, hb⟩
  refine ⟨_, rfl, ?_⟩
  have _ := Aside0.mk (below_step (pb_ HB.out) hb)
  clear HB
  rename_i HB
  (try clear hb)
  (try clear hb2)
  (try clear hk)
  (try clear hi)
  refine hK.out _ _ ⟨(bt_ HB hw311_0), (bt_ HB hw311_1), (bt_ HB hw311_2), (bt_ HB hw311_3), (bt_ HB hw311_4), (bt_ HB hw311_5), (bt_ HB hw311_6), (bt_ HB hw311_7), (bt_ HB hw312_0), (bt_ HB hw312_1), (bt_ HB hw312_2), (bt_ HB hw312_3), (bt_ HB hw312_4), (bt_ HB hw312_5), (bt_ HB hw312_6), (bt_ HB hw312_7)⟩ (fun hHeld => ?_)
  clear hK K
  refine no_ (some 25) ?_
  refine pu_ 9 (some 26) (tf_ 10 10) HT_ ?_
  refine done_ (done_of HT_.out (by kernel_rfl)) ?_
  go_upto_if 26 with (fail)
  have H := HS_.out
  clear HS_
  by_cases c10 : t313 = true
  rotate_left
  · replace c10 := Bool.eq_false_iff.mpr c10
    subst c10
    rw [if_neg (show ¬ (false = true) by decide)] at H
    obtain rfl := Option.some.inj H
    go_wp2
    go_ret
    exact ⟨er_, pb_ HB.out⟩
  subst c10
  rw [if_pos rfl] at H
  have H' := Aside0.mk H
  clear H
  go_wp2
  go_roundg k1
  case measure => have := HK1.out; omega
  case rel => exact ⟨(wrap64 (x5_1 + 1)), el_, H', ⟨by have := HK1.out; omega⟩, ⟨pb_ HB.out⟩⟩

/-! ### laws_eqWorld: function 9 -/
def laws_eqWorld.f (k : Nat) (l0_0 : List Int) (l0_1 : List Int) (a0_2 : Int) (l0_3 : List (S50)) (a0_4 : Int) (l0_5 : List Int) (a0_6 : Int) (a0_7 : Bool) (a0_8 : Int) (a0_9 : Int) (l0_10 : List (S55)) (l0_11 : List (S57)) (a0_12 : Int) (a0_13 : Int) (a0_14 : Int) (l1_0 : List Int) (l1_1 : List Int) (a1_2 : Int) (l1_3 : List (S50)) (a1_4 : Int) (l1_5 : List Int) (a1_6 : Int) (a1_7 : Bool) (a1_8 : Int) (a1_9 : Int) (l1_10 : List (S55)) (l1_11 : List (S57)) (a1_12 : Int) (a1_13 : Int) (a1_14 : Int) : Option (Bool) := (laws_eqIntS.f k l0_0 l1_0).bind fun t316 => (if t316 = true then ((laws_eqIntS.f k l0_1 l1_1).bind fun t317 => (if t317 = true then (if a0_2 = a1_2 then ((laws_eqEndpointS.f k l0_3 l1_3).bind fun t318 => (if t318 = true then ((laws_eqRollout.f k a0_4 l0_5 a0_6 a0_7 a1_4 l1_5 a1_6 a1_7).bind fun t319 => (if t319 = true then (if a0_8 = a1_8 then (if a0_9 = a1_9 then ((laws_eqDialedS.f k l0_10 l1_10).bind fun t320 => (if t320 = true then ((laws_eqLoggedS.f k l0_11 l1_11).bind fun t321 => (if t321 = true then (if a0_12 = a1_12 then (if a0_13 = a1_13 then (if a0_14 = a1_14 then (some true) else (some false)) else (some false)) else (some false)) else (some false))) else (some false))) else (some false)) else (some false)) else (some false))) else (some false))) else (some false)) else (some false))) else (some false))
theorem laws_eqWorld.mono : ∀ a0 a1 a2 a3 a4 a5 a6 a7 a8 a9 a10 a11 a12 a13 a14 a15 a16 a17 a18 a19 a20 a21 a22 a23 a24 a25 a26 a27 a28 a29 k, LeO (laws_eqWorld.f k a0 a1 a2 a3 a4 a5 a6 a7 a8 a9 a10 a11 a12 a13 a14 a15 a16 a17 a18 a19 a20 a21 a22 a23 a24 a25 a26 a27 a28 a29) (laws_eqWorld.f (k + 1) a0 a1 a2 a3 a4 a5 a6 a7 a8 a9 a10 a11 a12 a13 a14 a15 a16 a17 a18 a19 a20 a21 a22 a23 a24 a25 a26 a27 a28 a29) := by
  intro a0 a1 a2 a3 a4 a5 a6 a7 a8 a9 a10 a11 a12 a13 a14 a15 a16 a17 a18 a19 a20 a21 a22 a23 a24 a25 a26 a27 a28 a29 k
  unfold laws_eqWorld.f
  repeat' first
      | (with_reducible exact laws_eqDialedS.mono _ _ _)
      | (with_reducible exact laws_eqEndpointS.mono _ _ _)
      | (with_reducible exact laws_eqIntS.mono _ _ _)
      | (with_reducible exact laws_eqLoggedS.mono _ _ _)
      | (with_reducible exact laws_eqRollout.mono _ _ _ _ _ _ _ _ _)
      | (with_reducible exact LeO.refl _)
      | (with_reducible exact LeO.none _)
      | (with_reducible refine LeO.ite ?_ ?_)
      | (with_reducible refine LeO.bind ?_ (fun _ => ?_))
      | exact laws_eqDialedS.mono _ _ _
      | exact laws_eqEndpointS.mono _ _ _
      | exact laws_eqIntS.mono _ _ _
      | exact laws_eqLoggedS.mono _ _ _
      | exact laws_eqRollout.mono _ _ _ _ _ _ _ _ _
      | exact LeO.none _
      | refine LeO.ite ?_ ?_
      | refine LeO.bind ?_ (fun _ => ?_)
set_option maxHeartbeats 8000000 in
set_option maxRecDepth 100000 in
theorem laws_eqWorld.calls (k : Nat) (A0_0 : Option Addr) (c0_0 : Nat) (l0_0 : List Int) (A0_1 : Option Addr) (c0_1 : Nat) (l0_1 : List Int) (a0_2 : Int) (A0_3 : Option Addr) (c0_3 : Nat) (l0_3 : List (S50)) (a0_4 : Int) (A0_5 : Option Addr) (c0_5 : Nat) (l0_5 : List Int) (a0_6 : Int) (a0_7 : Bool) (a0_8 : Int) (a0_9 : Int) (A0_10 : Option Addr) (c0_10 : Nat) (l0_10 : List (S55)) (A0_11 : Option Addr) (c0_11 : Nat) (l0_11 : List (S57)) (a0_12 : Int) (a0_13 : Int) (a0_14 : Int) (A1_0 : Option Addr) (c1_0 : Nat) (l1_0 : List Int) (A1_1 : Option Addr) (c1_1 : Nat) (l1_1 : List Int) (a1_2 : Int) (A1_3 : Option Addr) (c1_3 : Nat) (l1_3 : List (S50)) (a1_4 : Int) (A1_5 : Option Addr) (c1_5 : Nat) (l1_5 : List Int) (a1_6 : Int) (a1_7 : Bool) (a1_8 : Int) (a1_9 : Int) (A1_10 : Option Addr) (c1_10 : Nat) (l1_10 : List (S55)) (A1_11 : Option Addr) (c1_11 : Nat) (l1_11 : List (S57)) (a1_12 : Int) (a1_13 : Int) (a1_14 : Int) (r : Bool) (w : World) (hr0_0 : Kd.C (Kd.int .i64) w A0_0 l0_0.length l0_0) (hc0_0 : l0_0.length ≤ c0_0) (hr0_1 : Kd.C (Kd.int .i64) w A0_1 l0_1.length l0_1) (hc0_1 : l0_1.length ≤ c0_1) (hr0_3 : Kd.C k50 w A0_3 l0_3.length l0_3) (hc0_3 : l0_3.length ≤ c0_3) (hr0_5 : Kd.C (Kd.int .i64) w A0_5 l0_5.length l0_5) (hc0_5 : l0_5.length ≤ c0_5) (hr0_10 : Kd.C k55 w A0_10 l0_10.length l0_10) (hc0_10 : l0_10.length ≤ c0_10) (hr0_11 : Kd.C k57 w A0_11 l0_11.length l0_11) (hc0_11 : l0_11.length ≤ c0_11) (hr1_0 : Kd.C (Kd.int .i64) w A1_0 l1_0.length l1_0) (hc1_0 : l1_0.length ≤ c1_0) (hr1_1 : Kd.C (Kd.int .i64) w A1_1 l1_1.length l1_1) (hc1_1 : l1_1.length ≤ c1_1) (hr1_3 : Kd.C k50 w A1_3 l1_3.length l1_3) (hc1_3 : l1_3.length ≤ c1_3) (hr1_5 : Kd.C (Kd.int .i64) w A1_5 l1_5.length l1_5) (hc1_5 : l1_5.length ≤ c1_5) (hr1_10 : Kd.C k55 w A1_10 l1_10.length l1_10) (hc1_10 : l1_10.length ≤ c1_10) (hr1_11 : Kd.C k57 w A1_11 l1_11.length l1_11) (hc1_11 : l1_11.length ≤ c1_11) (h : laws_eqWorld.f k l0_0 l0_1 a0_2 l0_3 a0_4 l0_5 a0_6 a0_7 a0_8 a0_9 l0_10 l0_11 a0_12 a0_13 a0_14 l1_0 l1_1 a1_2 l1_3 a1_4 l1_5 a1_6 a1_7 a1_8 a1_9 l1_10 l1_11 a1_12 a1_13 a1_14 = some r) :
    Calls Try.prog 9 #[.agg #[.slice A0_0 l0_0.length c0_0, .slice A0_1 l0_1.length c0_1, .int .i64 a0_2, .slice A0_3 l0_3.length c0_3, .int .i64 a0_4, .slice A0_5 l0_5.length c0_5, .int .i64 a0_6, .bool a0_7, .int .i64 a0_8, .int .i64 a0_9, .slice A0_10 l0_10.length c0_10, .slice A0_11 l0_11.length c0_11, .int .i64 a0_12, .int .i64 a0_13, .int .i64 a0_14], .agg #[.slice A1_0 l1_0.length c1_0, .slice A1_1 l1_1.length c1_1, .int .i64 a1_2, .slice A1_3 l1_3.length c1_3, .int .i64 a1_4, .slice A1_5 l1_5.length c1_5, .int .i64 a1_6, .bool a1_7, .int .i64 a1_8, .int .i64 a1_9, .slice A1_10 l1_10.length c1_10, .slice A1_11 l1_11.length c1_11, .int .i64 a1_12, .int .i64 a1_13, .int .i64 a1_14]] w fun e w' => e = .returned (.bool r) ∧ Below w.heap.size w w' := by
  have hu37 := Try.underlying37
  have hu33 := Try.underlying33
  have HR0_0 := Aside0.mk hr0_0
  have HC0_0 := Aside0.mk hc0_0
  clear hr0_0 hc0_0
  have HR0_1 := Aside0.mk hr0_1
  have HC0_1 := Aside0.mk hc0_1
  clear hr0_1 hc0_1
  have HR0_3 := Aside0.mk hr0_3
  have HC0_3 := Aside0.mk hc0_3
  clear hr0_3 hc0_3
  have HR0_5 := Aside0.mk hr0_5
  have HC0_5 := Aside0.mk hc0_5
  clear hr0_5 hc0_5
  have HR0_10 := Aside0.mk hr0_10
  have HC0_10 := Aside0.mk hc0_10
  clear hr0_10 hc0_10
  have HR0_11 := Aside0.mk hr0_11
  have HC0_11 := Aside0.mk hc0_11
  clear hr0_11 hc0_11
  have HR1_0 := Aside0.mk hr1_0
  have HC1_0 := Aside0.mk hc1_0
  clear hr1_0 hc1_0
  have HR1_1 := Aside0.mk hr1_1
  have HC1_1 := Aside0.mk hc1_1
  clear hr1_1 hc1_1
  have HR1_3 := Aside0.mk hr1_3
  have HC1_3 := Aside0.mk hc1_3
  clear hr1_3 hc1_3
  have HR1_5 := Aside0.mk hr1_5
  have HC1_5 := Aside0.mk hc1_5
  clear hr1_5 hc1_5
  have HR1_10 := Aside0.mk hr1_10
  have HC1_10 := Aside0.mk hc1_10
  clear hr1_10 hc1_10
  have HR1_11 := Aside0.mk hr1_11
  have HC1_11 := Aside0.mk hc1_11
  clear hr1_11 hc1_11
  have HB := Aside0.mk (Below.refl w.heap.size w)
  have H : ((laws_eqIntS.f k l0_0 l1_0).bind fun t316 => (if t316 = true then ((laws_eqIntS.f k l0_1 l1_1).bind fun t317 => (if t317 = true then (if a0_2 = a1_2 then ((laws_eqEndpointS.f k l0_3 l1_3).bind fun t318 => (if t318 = true then ((laws_eqRollout.f k a0_4 l0_5 a0_6 a0_7 a1_4 l1_5 a1_6 a1_7).bind fun t319 => (if t319 = true then (if a0_8 = a1_8 then (if a0_9 = a1_9 then ((laws_eqDialedS.f k l0_10 l1_10).bind fun t320 => (if t320 = true then ((laws_eqLoggedS.f k l0_11 l1_11).bind fun t321 => (if t321 = true then (if a0_12 = a1_12 then (if a0_13 = a1_13 then (if a0_14 = a1_14 then (some true) else (some false)) else (some false)) else (some false)) else (some false))) else (some false))) else (some false)) else (some false)) else (some false))) else (some false))) else (some false)) else (some false))) else (some false))) = some r := h
  clear h
  have HS_ := Aside0.mk H
  clear H
  go_enter Try.func9, Try.ntmps9
  go_upto_region 1 with (first | ((with_reducible refine gate_dst (N := 2) rfl ?_); refine box_event ?hg (N := 2) ?hd (cs := #[.slice A0_0 l0_0.length c0_0, .slice A0_1 l0_1.length c0_1, .int .i64 a0_2, .slice A0_3 l0_3.length c0_3, .int .i64 a0_4, .slice A0_5 l0_5.length c0_5, .int .i64 a0_6, .bool a0_7, .int .i64 a0_8, .int .i64 a0_9, .slice A0_10 l0_10.length c0_10, .slice A0_11 l0_11.length c0_11, .int .i64 a0_12, .int .i64 a0_13, .int .i64 a0_14]) (t := 37) ?hr ?_; (case hd => rfl); (case hg => rfl); (case hr => first | (go_simp; done) | (go_simp; rfl)); intro gb314 hg w3 hbox hb; have n0_ := Aside0.mk (below_step (pb_ HB.out) hb); have n1_ := Aside0.mk (hbox); have n2_ := Aside0.mk ((by rw [hg]; exact (below_size (pb_ HB.out)) : w.heap.size ≤ gb314)); have n3_ := Aside0.mk ((by rw [hg]; exact (below_size (pb_ HB.out)) : w.heap.size ≤ gb314)); clear HB; have HB := n0_; have BK314 := n1_; have GW314 := n2_; have GE314 := n3_; clear n0_ n1_ n2_ n3_; clear hb hbox hg) | ((with_reducible refine gate_dst (N := 3) rfl ?_); refine box_event ?hg (N := 3) ?hd (cs := #[.slice A1_0 l1_0.length c1_0, .slice A1_1 l1_1.length c1_1, .int .i64 a1_2, .slice A1_3 l1_3.length c1_3, .int .i64 a1_4, .slice A1_5 l1_5.length c1_5, .int .i64 a1_6, .bool a1_7, .int .i64 a1_8, .int .i64 a1_9, .slice A1_10 l1_10.length c1_10, .slice A1_11 l1_11.length c1_11, .int .i64 a1_12, .int .i64 a1_13, .int .i64 a1_14]) (t := 37) ?hr ?_; (case hd => rfl); (case hg => rfl); (case hr => first | (go_simp; done) | (go_simp; rfl)); intro gb315 hg w4 hbox hb; have n0_ := Aside0.mk (bb_ BK314.out hb); have n1_ := Aside0.mk (below_step (pb1_ HB.out GE314.out) hb); have n2_ := Aside0.mk (hbox); have n3_ := Aside0.mk ((by rw [hg]; exact (below_size (pb1_ HB.out GE314.out)) : w.heap.size ≤ gb315)); have n4_ := Aside0.mk ((by rw [hg]; exact (below_size (pb1_ HB.out GE314.out)) : w.heap.size ≤ gb315)); have n5_ := Aside0.mk ((by rw [hg]; exact Nat.ne_of_lt (blk_lt (pk_ BK314.out)) : gb314 ≠ gb315)); have n6_ := Aside0.mk ((by rw [hg]; exact Nat.ne_of_gt (blk_lt (pk_ BK314.out)) : gb315 ≠ gb314)); clear BK314; clear HB; have BK314 := n0_; have HB := n1_; have BK315 := n2_; have GW315 := n3_; have GE315 := n4_; have NB314_315 := n5_; have NB315_314 := n6_; clear n0_ n1_ n2_ n3_ n4_ n5_ n6_; clear hb hbox hg))
  (try simp only [Act.put, List.setIfInBounds_toArray, List.set_cons_zero, List.set_cons_succ])
  have H := HS_.out
  clear HS_
  replace H := Option.bind_eq_some_iff.mp H
  obtain ⟨t316, A50, H⟩ := H
  (try dsimp only at H)
  have A5 := Aside0.mk A50
  clear A50
  have HS_ := Aside0.mk H
  clear H
  have hnb6 := NB314_315.out
  have hnc6 := NB315_314.out
  have hcz7 := bc15_ BK314.out
  have hcz8 := bc15_ BK315.out
  go_upto_if 10 with (first | ((with_reducible refine gate_callee (f := 34) rfl ?_); refine gl_ (some 9) Try.func34 #[.slice A0_0 l0_0.length c0_0, .slice A1_0 l1_0.length c1_0] ?_; (with_reducible refine (laws_eqIntS.calls k _ _ l0_0 _ _ l1_0 t316 _ ?side1 ?side2 ?side3 ?side4 A5.out).mono ?_); (case side1 => exact cb_ HR0_0 HB); (case side2 => exact HC0_0.out); (case side3 => exact cb_ HR1_0 HB); (case side4 => exact HC1_0.out); rintro e w' ⟨rfl, ⟨nd, rfl⟩⟩; refine ⟨_, rfl, ?_⟩))
  (try simp only [Act.put, List.setIfInBounds_toArray, List.set_cons_zero, List.set_cons_succ])
  have H := HS_.out
  clear HS_
  by_cases c9 : t316 = true
  rotate_left
  · replace c9 := Bool.eq_false_iff.mpr c9
    subst c9
    rw [if_neg (show ¬ (false = true) by decide)] at H
    obtain rfl := Option.some.inj H
    go_wp2
    go_ret
    exact ⟨er_, pb2_ HB.out GE314.out GE315.out⟩
  subst c9
  rw [if_pos rfl] at H
  replace H := Option.bind_eq_some_iff.mp H
  obtain ⟨t317, A100, H⟩ := H
  (try dsimp only at H)
  have A10 := Aside0.mk A100
  clear A100
  have HS_ := Aside0.mk H
  clear H
  have hnb11 := NB314_315.out
  have hnc11 := NB315_314.out
  have hcz12 := bc15_ BK314.out
  have hcz13 := bc15_ BK315.out
  go_upto_if 16 with (first | ((with_reducible refine gate_callee (f := 34) rfl ?_); refine gl_ (some 15) Try.func34 #[.slice A0_1 l0_1.length c0_1, .slice A1_1 l1_1.length c1_1] ?_; (with_reducible refine (laws_eqIntS.calls k _ _ l0_1 _ _ l1_1 t317 _ ?side1 ?side2 ?side3 ?side4 A10.out).mono ?_); (case side1 => exact pc_ (Kd.C_below HR0_1.out (pb2_ HB.out GE314.out GE315.out))); (case side2 => exact HC0_1.out); (case side3 => exact pc_ (Kd.C_below HR1_1.out (pb2_ HB.out GE314.out GE315.out))); (case side4 => exact HC1_1.out); rintro e w' ⟨rfl, ⟨nd, rfl⟩⟩; refine ⟨_, rfl, ?_⟩))
  (try simp only [Act.put, List.setIfInBounds_toArray, List.set_cons_zero, List.set_cons_succ])
  have H := HS_.out
  clear HS_
  by_cases c14 : t317 = true
  rotate_left
  · replace c14 := Bool.eq_false_iff.mpr c14
    subst c14
    rw [if_neg (show ¬ (false = true) by decide)] at H
    obtain rfl := Option.some.inj H
    go_wp2
    go_ret
    exact ⟨er_, pb2_ HB.out GE314.out GE315.out⟩
  subst c14
  rw [if_pos rfl] at H
  by_cases c15 : a0_2 = a1_2
  rotate_left
  · rw [if_neg c15] at H
    have c15b0 : (a0_2 == a1_2) = false := beq_eq_false_iff_ne.mpr c15
    have c15b1 : (a0_2 != a1_2) = true := bne_iff_ne.mpr c15
    (first | rw [c15b0] | (simp only [i64_w, i32_w]; rw [c15b0]) | rw [c15b1] | (have c_ := c15b1; rw [bne] at c_; rw [c_]; clear c_) | skip)
    obtain rfl := Option.some.inj H
    have hnb16 := NB314_315.out
    have hnc16 := NB315_314.out
    have hcz17 := bc15_ BK314.out
    have hcz18 := bc15_ BK315.out
    go_wp2
    go_ret
    exact ⟨er_, pb2_ HB.out GE314.out GE315.out⟩
  rw [if_pos c15] at H
  have c15b0 : (a0_2 == a1_2) = true := beq_iff_eq.mpr c15
  have c15b1 : (a0_2 != a1_2) = false := bne_eq_false_iff_eq.mpr c15
  clear c15
  (first | rw [c15b0] | (simp only [i64_w, i32_w]; rw [c15b0]) | rw [c15b1] | (have c_ := c15b1; rw [bne] at c_; rw [c_]; clear c_) | skip)
  replace H := Option.bind_eq_some_iff.mp H
  obtain ⟨t318, A190, H⟩ := H
  (try dsimp only at H)
  have A19 := Aside0.mk A190
  clear A190
  have HS_ := Aside0.mk H
  clear H
  have hnb20 := NB314_315.out
  have hnc20 := NB315_314.out
  have hcz21 := bc15_ BK314.out
  have hcz22 := bc15_ BK315.out
  go_upto_if 27 with (first | ((with_reducible refine gate_callee (f := 35) rfl ?_); refine gl_ (some 26) Try.func35 #[.slice A0_3 l0_3.length c0_3, .slice A1_3 l1_3.length c1_3] ?_; (with_reducible refine (laws_eqEndpointS.calls k _ _ l0_3 _ _ l1_3 t318 _ ?side1 ?side2 ?side3 ?side4 A19.out).mono ?_); (case side1 => exact pc_ (Kd.C_below HR0_3.out (pb2_ HB.out GE314.out GE315.out))); (case side2 => exact HC0_3.out); (case side3 => exact pc_ (Kd.C_below HR1_3.out (pb2_ HB.out GE314.out GE315.out))); (case side4 => exact HC1_3.out); rintro e w23 ⟨rfl, hb⟩; refine ⟨_, rfl, ?_⟩; have _ := Aside0.mk (bb_ BK314.out hb); have _ := Aside0.mk (bb_ BK315.out hb); have _ := Aside0.mk (below_step (pb2_ HB.out GE314.out GE315.out) hb); clear BK314 BK315 HB; rename_i BK314 BK315 HB; (try clear hb); (try clear hb2); (try clear hk); (try clear hi)))
  (try simp only [Act.put, List.setIfInBounds_toArray, List.set_cons_zero, List.set_cons_succ])
  have H := HS_.out
  clear HS_
  by_cases c24 : t318 = true
  rotate_left
  · replace c24 := Bool.eq_false_iff.mpr c24
    subst c24
    rw [if_neg (show ¬ (false = true) by decide)] at H
    obtain rfl := Option.some.inj H
    go_wp2
    go_ret
    exact ⟨er_, pb2_ HB.out GE314.out GE315.out⟩
  subst c24
  rw [if_pos rfl] at H
  replace H := Option.bind_eq_some_iff.mp H
  obtain ⟨t319, A250, H⟩ := H
  (try dsimp only at H)
  have A25 := Aside0.mk A250
  clear A250
  have HS_ := Aside0.mk H
  clear H
  have hnb26 := NB314_315.out
  have hnc26 := NB315_314.out
  have hcz27 := bc15_ BK314.out
  have hcz28 := bc15_ BK315.out
  go_upto_if 33 with (first | ((with_reducible refine gate_callee (f := 36) rfl ?_); refine gl_ (some 32) Try.func36 #[.agg #[.int .i64 a0_4, .slice A0_5 l0_5.length c0_5, .int .i64 a0_6, .bool a0_7], .agg #[.int .i64 a1_4, .slice A1_5 l1_5.length c1_5, .int .i64 a1_6, .bool a1_7]] ?_; (with_reducible refine (laws_eqRollout.calls k a0_4 _ _ l0_5 a0_6 a0_7 a1_4 _ _ l1_5 a1_6 a1_7 t319 _ ?side1 ?side2 ?side3 ?side4 A25.out).mono ?_); (case side1 => exact cb_ HR0_5 HB); (case side2 => exact HC0_5.out); (case side3 => exact cb_ HR1_5 HB); (case side4 => exact HC1_5.out); rintro e w29 ⟨rfl, hb⟩; refine ⟨_, rfl, ?_⟩; have _ := Aside0.mk (bb_ BK314.out hb); have _ := Aside0.mk (bb_ BK315.out hb); have _ := Aside0.mk (below_step (pb2_ HB.out GE314.out GE315.out) hb); clear BK314 BK315 HB; rename_i BK314 BK315 HB; (try clear hb); (try clear hb2); (try clear hk); (try clear hi)))
  (try simp only [Act.put, List.setIfInBounds_toArray, List.set_cons_zero, List.set_cons_succ])
  have H := HS_.out
  clear HS_
  by_cases c30 : t319 = true
  rotate_left
  · replace c30 := Bool.eq_false_iff.mpr c30
    subst c30
    rw [if_neg (show ¬ (false = true) by decide)] at H
    obtain rfl := Option.some.inj H
    go_wp2
    go_ret
    exact ⟨er_, pb2_ HB.out GE314.out GE315.out⟩
  subst c30
  rw [if_pos rfl] at H
  by_cases c31 : a0_8 = a1_8
  rotate_left
  · rw [if_neg c31] at H
    have c31b0 : (a0_8 == a1_8) = false := beq_eq_false_iff_ne.mpr c31
    have c31b1 : (a0_8 != a1_8) = true := bne_iff_ne.mpr c31
    (first | rw [c31b0] | (simp only [i64_w, i32_w]; rw [c31b0]) | rw [c31b1] | (have c_ := c31b1; rw [bne] at c_; rw [c_]; clear c_) | skip)
    obtain rfl := Option.some.inj H
    have hnb32 := NB314_315.out
    have hnc32 := NB315_314.out
    have hcz33 := bc15_ BK314.out
    have hcz34 := bc15_ BK315.out
    go_wp2
    go_ret
    exact ⟨er_, pb2_ HB.out GE314.out GE315.out⟩
  rw [if_pos c31] at H
  have c31b0 : (a0_8 == a1_8) = true := beq_iff_eq.mpr c31
  have c31b1 : (a0_8 != a1_8) = false := bne_eq_false_iff_eq.mpr c31
  clear c31
  (first | rw [c31b0] | (simp only [i64_w, i32_w]; rw [c31b0]) | rw [c31b1] | (have c_ := c31b1; rw [bne] at c_; rw [c_]; clear c_) | skip)
  by_cases c35 : a0_9 = a1_9
  rotate_left
  · rw [if_neg c35] at H
    have c35b0 : (a0_9 == a1_9) = false := beq_eq_false_iff_ne.mpr c35
    have c35b1 : (a0_9 != a1_9) = true := bne_iff_ne.mpr c35
    obtain rfl := Option.some.inj H
    have hnb36 := NB314_315.out
    have hnc36 := NB315_314.out
    have hcz37 := bc15_ BK314.out
    have hcz38 := bc15_ BK315.out
    go_wp2
    go_ret
    exact ⟨er_, pb2_ HB.out GE314.out GE315.out⟩
  rw [if_pos c35] at H
  have c35b0 : (a0_9 == a1_9) = true := beq_iff_eq.mpr c35
  have c35b1 : (a0_9 != a1_9) = false := bne_eq_false_iff_eq.mpr c35
  clear c35
  replace H := Option.bind_eq_some_iff.mp H
  obtain ⟨t320, A390, H⟩ := H
  (try dsimp only at H)
  have A39 := Aside0.mk A390
  clear A390
  have HS_ := Aside0.mk H
  clear H
  have hnb40 := NB314_315.out
  have hnc40 := NB315_314.out
  have hcz41 := bc15_ BK314.out
  have hcz42 := bc15_ BK315.out
  go_upto_if 49 with (first | ((with_reducible refine gate_callee (f := 37) rfl ?_); refine gl_ (some 48) Try.func37 #[.slice A0_10 l0_10.length c0_10, .slice A1_10 l1_10.length c1_10] ?_; (with_reducible refine (laws_eqDialedS.calls k _ _ l0_10 _ _ l1_10 t320 _ ?side1 ?side2 ?side3 ?side4 A39.out).mono ?_); (case side1 => exact cb_ HR0_10 HB); (case side2 => exact HC0_10.out); (case side3 => exact cb_ HR1_10 HB); (case side4 => exact HC1_10.out); rintro e w43 ⟨rfl, hb⟩; refine ⟨_, rfl, ?_⟩; have _ := Aside0.mk (bb_ BK314.out hb); have _ := Aside0.mk (bb_ BK315.out hb); have _ := Aside0.mk (below_step (pb2_ HB.out GE314.out GE315.out) hb); clear BK314 BK315 HB; rename_i BK314 BK315 HB; (try clear hb); (try clear hb2); (try clear hk); (try clear hi)))
  (try simp only [Act.put, List.setIfInBounds_toArray, List.set_cons_zero, List.set_cons_succ])
  have H := HS_.out
  clear HS_
  by_cases c44 : t320 = true
  rotate_left
  · replace c44 := Bool.eq_false_iff.mpr c44
    subst c44
    rw [if_neg (show ¬ (false = true) by decide)] at H
    obtain rfl := Option.some.inj H
    go_wp2
    go_ret
    exact ⟨er_, pb2_ HB.out GE314.out GE315.out⟩
  subst c44
  rw [if_pos rfl] at H
  replace H := Option.bind_eq_some_iff.mp H
  obtain ⟨t321, A450, H⟩ := H
  (try dsimp only at H)
  have A45 := Aside0.mk A450
  clear A450
  have HS_ := Aside0.mk H
  clear H
  have hnb46 := NB314_315.out
  have hnc46 := NB315_314.out
  have hcz47 := bc15_ BK314.out
  have hcz48 := bc15_ BK315.out
  go_upto_if 55 with (first | ((with_reducible refine gate_callee (f := 38) rfl ?_); refine gl_ (some 54) Try.func38 #[.slice A0_11 l0_11.length c0_11, .slice A1_11 l1_11.length c1_11] ?_; (with_reducible refine (laws_eqLoggedS.calls k _ _ l0_11 _ _ l1_11 t321 _ ?side1 ?side2 ?side3 ?side4 A45.out).mono ?_); (case side1 => exact cb_ HR0_11 HB); (case side2 => exact HC0_11.out); (case side3 => exact cb_ HR1_11 HB); (case side4 => exact HC1_11.out); rintro e w49 ⟨rfl, hb⟩; refine ⟨_, rfl, ?_⟩; have _ := Aside0.mk (bb_ BK314.out hb); have _ := Aside0.mk (bb_ BK315.out hb); have _ := Aside0.mk (below_step (pb2_ HB.out GE314.out GE315.out) hb); clear BK314 BK315 HB; rename_i BK314 BK315 HB; (try clear hb); (try clear hb2); (try clear hk); (try clear hi)))
  (try simp only [Act.put, List.setIfInBounds_toArray, List.set_cons_zero, List.set_cons_succ])
  have H := HS_.out
  clear HS_
  by_cases c50 : t321 = true
  rotate_left
  · replace c50 := Bool.eq_false_iff.mpr c50
    subst c50
    rw [if_neg (show ¬ (false = true) by decide)] at H
    obtain rfl := Option.some.inj H
    go_wp2
    go_ret
    exact ⟨er_, pb2_ HB.out GE314.out GE315.out⟩
  subst c50
  rw [if_pos rfl] at H
  by_cases c51 : a0_12 = a1_12
  rotate_left
  · rw [if_neg c51] at H
    have c51b0 : (a0_12 == a1_12) = false := beq_eq_false_iff_ne.mpr c51
    have c51b1 : (a0_12 != a1_12) = true := bne_iff_ne.mpr c51
    (first | rw [c51b0] | (simp only [i64_w, i32_w]; rw [c51b0]) | rw [c51b1] | (have c_ := c51b1; rw [bne] at c_; rw [c_]; clear c_) | skip)
    obtain rfl := Option.some.inj H
    have hnb52 := NB314_315.out
    have hnc52 := NB315_314.out
    have hcz53 := bc15_ BK314.out
    have hcz54 := bc15_ BK315.out
    go_wp2
    go_ret
    exact ⟨er_, pb2_ HB.out GE314.out GE315.out⟩
  rw [if_pos c51] at H
  have c51b0 : (a0_12 == a1_12) = true := beq_iff_eq.mpr c51
  have c51b1 : (a0_12 != a1_12) = false := bne_eq_false_iff_eq.mpr c51
  clear c51
  (first | rw [c51b0] | (simp only [i64_w, i32_w]; rw [c51b0]) | rw [c51b1] | (have c_ := c51b1; rw [bne] at c_; rw [c_]; clear c_) | skip)
  by_cases c55 : a0_13 = a1_13
  rotate_left
  · rw [if_neg c55] at H
    have c55b0 : (a0_13 == a1_13) = false := beq_eq_false_iff_ne.mpr c55
    have c55b1 : (a0_13 != a1_13) = true := bne_iff_ne.mpr c55
    obtain rfl := Option.some.inj H
    have hnb56 := NB314_315.out
    have hnc56 := NB315_314.out
    have hcz57 := bc15_ BK314.out
    have hcz58 := bc15_ BK315.out
    go_wp2
    go_ret
    exact ⟨er_, pb2_ HB.out GE314.out GE315.out⟩
  rw [if_pos c55] at H
  have c55b0 : (a0_13 == a1_13) = true := beq_iff_eq.mpr c55
  have c55b1 : (a0_13 != a1_13) = false := bne_eq_false_iff_eq.mpr c55
  clear c55
  by_cases c59 : a0_14 = a1_14
  rotate_left
  · rw [if_neg c59] at H
    have c59b0 : (a0_14 == a1_14) = false := beq_eq_false_iff_ne.mpr c59
    have c59b1 : (a0_14 != a1_14) = true := bne_iff_ne.mpr c59
    obtain rfl := Option.some.inj H
    have hnb60 := NB314_315.out
    have hnc60 := NB315_314.out
    have hcz61 := bc15_ BK314.out
    have hcz62 := bc15_ BK315.out
    go_wp2
    go_ret
    exact ⟨er_, pb2_ HB.out GE314.out GE315.out⟩
  rw [if_pos c59] at H
  have c59b0 : (a0_14 == a1_14) = true := beq_iff_eq.mpr c59
  have c59b1 : (a0_14 != a1_14) = false := bne_eq_false_iff_eq.mpr c59
  clear c59
  obtain rfl := Option.some.inj H
  have hnb63 := NB314_315.out
  have hnc63 := NB315_314.out
  have hcz64 := bc15_ BK314.out
  have hcz65 := bc15_ BK315.out
  go_wp2
  go_ret
  exact ⟨er_, pb2_ HB.out GE314.out GE315.out⟩

/-! ### spec_l1In: function 47 -/
def spec_l1In.f (a0 : Int) (a1 : Int) (a2 : Int) : Option (Bool) := if a0 ≥ a1 then (some (decide (a0 ≤ a2))) else (some false)
set_option maxHeartbeats 8000000 in
set_option maxRecDepth 100000 in
theorem spec_l1In.calls (a0 : Int) (a1 : Int) (a2 : Int) (r : Bool) (w : World) (h : spec_l1In.f a0 a1 a2 = some r) :
    Calls Try.prog 47 #[.int .i64 a0, .int .i64 a1, .int .i64 a2] w fun e w' => e = .returned (.bool r) ∧ Drawn0 w w' := by
  have H : (if a0 ≥ a1 then (some (decide (a0 ≤ a2))) else (some false)) = some r := h
  clear h
  by_cases c4 : a0 ≥ a1
  rotate_left
  · rw [if_neg c4] at H
    have c4b0 : decide (a1 ≤ a0) = false := decide_eq_false c4
    clear c4
    obtain rfl := Option.some.inj H
    go_enter Try.func47, Try.ntmps47
    go_wp2
    go_ret
    exact ⟨by first | rfl | (simp; done) | (simp [*]; done), by repeat (first | exact Drawn0.refl _ | apply Drawn0.step)⟩
  rw [if_pos c4] at H
  have c4b0 : decide (a1 ≤ a0) = true := decide_eq_true c4
  clear c4
  obtain rfl := Option.some.inj H
  go_enter Try.func47, Try.ntmps47
  go_wp2
  go_ret
  exact ⟨by first | rfl | (simp; done) | (simp [*]; done), by repeat (first | exact Drawn0.refl _ | apply Drawn0.step)⟩

/-! ### spec_AreVersions: function 40 -/
def spec_AreVersions.l0 : Nat → List Int → Int → Option (Bool)
  | 0, _, _ => none
  | k + 1, x0, x3 => if x3 < (x0.length : Int) then (if 0 ≤ x3 then ((spec_l1In.f (rd x0 x3) 1 9).bind fun t323 => (if t323 = true then (if x3 > 0 then (if 0 ≤ (wrap64 (x3 - 1)) then (if (wrap64 (x3 - 1)) < (x0.length : Int) then (if (rd x0 (wrap64 (x3 - 1))) ≥ (rd x0 x3) then (some false) else (spec_AreVersions.l0 k x0 (wrap64 (x3 + 1)))) else (none)) else (none)) else (spec_AreVersions.l0 k x0 (wrap64 (x3 + 1)))) else (some false))) else (none)) else (some (decide ((x0.length : Int) > 0)))
def spec_AreVersions.f (k : Nat) (l0 : List Int) : Option (Bool) := spec_AreVersions.l0 k l0 0
theorem spec_AreVersions.mono_l : ∀ k, (∀ y0 y1, LeO (spec_AreVersions.l0 k y0 y1) (spec_AreVersions.l0 (k + 1) y0 y1))
  | 0 => fun _ _ r h => by simp [spec_AreVersions.l0] at h
  | k + 1 => by
    have ih0 := spec_AreVersions.mono_l k
    · intro y0 y1
      unfold spec_AreVersions.l0
      repeat' first
      | (with_reducible exact ih0 _ _)
      | (with_reducible exact LeO.refl _)
      | (with_reducible exact LeO.none _)
      | (with_reducible refine LeO.ite ?_ ?_)
      | (with_reducible refine LeO.bind ?_ (fun _ => ?_))
      | exact ih0 _ _
      | exact LeO.none _
      | refine LeO.ite ?_ ?_
      | refine LeO.bind ?_ (fun _ => ?_)
theorem spec_AreVersions.mono : ∀ a0 k, LeO (spec_AreVersions.f k a0) (spec_AreVersions.f (k + 1) a0) := by
  intro a0 k
  have ih0 := spec_AreVersions.mono_l k
  unfold spec_AreVersions.f
  repeat' first
      | (with_reducible exact ih0 _ _)
      | (with_reducible exact LeO.refl _)
      | (with_reducible exact LeO.none _)
      | (with_reducible refine LeO.ite ?_ ?_)
      | (with_reducible refine LeO.bind ?_ (fun _ => ?_))
      | exact ih0 _ _
      | exact LeO.none _
      | refine LeO.ite ?_ ?_
      | refine LeO.bind ?_ (fun _ => ?_)
set_option maxHeartbeats 8000000 in
set_option maxRecDepth 100000 in
theorem spec_AreVersions.calls (k : Nat) (A0 : Option Addr) (c0 : Nat) (l0 : List Int) (r : Bool) (w : World) (hr0 : Kd.C (Kd.int .i64) w A0 l0.length l0) (hc0 : l0.length ≤ c0) (h : spec_AreVersions.f k l0 = some r) :
    Calls Try.prog 40 #[.slice A0 l0.length c0] w fun e w' => e = .returned (.bool r) ∧ Drawn0 w w' := by
  have HR0 := Aside0.mk hr0
  have HC0 := Aside0.mk hc0
  clear hr0 hc0
  have H : (spec_AreVersions.l0 k l0 0) = some r := h
  clear h
  have H' := Aside0.mk H
  clear H
  go_enter Try.func40, Try.ntmps40
  go_wp2
  repeat (go_quiet (fail); try go_wp2)
  go_loopg [3] k (fun kq v3 w' => ∃ (x3_1 : Int), v3 = .int .i64 x3_1 ∧ Aside0 (spec_AreVersions.l0 kq l0 x3_1 = some r) ∧ Aside0 (kq ≤ k) ∧ Drawn0 w w')
  case atStart => exact ⟨(0), el_, H', ⟨Nat.le_refl _⟩, by repeat (first | exact Drawn0.refl _ | apply Drawn0.step)⟩
  clear H'
  obtain ⟨x3_1, rfl, HA, HK1, ⟨m1, rfl⟩⟩ := hrel
  rcases gk with _ | k1
  · exact absurd HA.out (by simp [spec_AreVersions.l0])
  have H := HA.out
  clear HA
  simp only [spec_AreVersions.l0] at H
  by_cases c2 : x3_1 < (l0.length : Int)
  rotate_left
  · rw [if_neg c2] at H
    have c2b0 : decide (x3_1 < (l0.length : Int)) = false := decide_eq_false c2
    clear c2
    obtain rfl := Option.some.inj H
    go_wp2
    repeat (go_quiet (fail); try go_wp2)
    go_ret
    exact ⟨by first | rfl | (simp; done) | (simp [*]; done), by repeat (first | exact Drawn0.refl _ | apply Drawn0.step)⟩
  rw [if_pos c2] at H
  have c2b0 : decide (x3_1 < (l0.length : Int)) = true := decide_eq_true c2
  clear c2
  by_cases c3 : 0 ≤ x3_1
  rotate_left
  · rw [if_neg c3] at H
    exact absurd H (by simp)
  rw [if_pos c3] at H
  have c3b0 : decide (0 ≤ x3_1) = true := decide_eq_true c3
  clear c3
  replace H := Option.bind_eq_some_iff.mp H
  obtain ⟨t323, A40, H⟩ := H
  (try dsimp only at H)
  have A4 := Aside0.mk A40
  clear A40
  by_cases c5 : t323 = true
  rotate_left
  · replace c5 := Bool.eq_false_iff.mpr c5
    subst c5
    rw [if_neg (show ¬ (false = true) by decide)] at H
    obtain rfl := Option.some.inj H
    have p322 : 0 ≤ (x3_1 : Int) := dt_
    have q322 : x3_1 < (l0.length : Int) := dt_
    obtain ⟨ad322, e322, hx322_0⟩ := Kd.at_int HR0.out x3_1 p322 q322
    cases e322
    replace p322 := eq_true p322
    replace q322 := eq_true q322
    go_wp2_with (first | (go_at_call 47; (with_reducible refine (spec_l1In.calls (rd l0 x3_1) 1 9 false _ A4.out).mono ?_); rintro e w' ⟨rfl, ⟨nd, rfl⟩⟩; (try first | exact ⟨rfl, _, World.drewN_drewN _ _ _⟩ | exact ⟨rfl, _, Eq.trans (World.drewN_drewN _ _ _) (congrArg (World.drewN _) (Nat.add_assoc _ _ _))⟩)))
    repeat (go_quiet (first | (go_at_call 47; (with_reducible refine (spec_l1In.calls (rd l0 x3_1) 1 9 false _ A4.out).mono ?_); rintro e w' ⟨rfl, ⟨nd, rfl⟩⟩; (try first | exact ⟨rfl, _, World.drewN_drewN _ _ _⟩ | exact ⟨rfl, _, Eq.trans (World.drewN_drewN _ _ _) (congrArg (World.drewN _) (Nat.add_assoc _ _ _))⟩))); try go_wp2_with (first | (go_at_call 47; (with_reducible refine (spec_l1In.calls (rd l0 x3_1) 1 9 false _ A4.out).mono ?_); rintro e w' ⟨rfl, ⟨nd, rfl⟩⟩; (try first | exact ⟨rfl, _, World.drewN_drewN _ _ _⟩ | exact ⟨rfl, _, Eq.trans (World.drewN_drewN _ _ _) (congrArg (World.drewN _) (Nat.add_assoc _ _ _))⟩))))
    go_ret
    exact ⟨by first | rfl | (simp; done) | (simp [*]; done), by repeat (first | exact Drawn0.refl _ | apply Drawn0.step)⟩
  subst c5
  rw [if_pos rfl] at H
  by_cases c6 : x3_1 > 0
  rotate_left
  · rw [if_neg c6] at H
    have c6b0 : decide (0 < x3_1) = false := decide_eq_false c6
    clear c6
    have H' := Aside0.mk H
    clear H
    have p322 : 0 ≤ (x3_1 : Int) := dt_
    have q322 : x3_1 < (l0.length : Int) := dt_
    obtain ⟨ad322, e322, hx322_0⟩ := Kd.at_int HR0.out x3_1 p322 q322
    cases e322
    replace p322 := eq_true p322
    replace q322 := eq_true q322
    go_wp2_with (first | (go_at_call 47; (with_reducible refine (spec_l1In.calls (rd l0 x3_1) 1 9 true _ A4.out).mono ?_); rintro e w' ⟨rfl, ⟨nd, rfl⟩⟩; (try first | exact ⟨rfl, _, World.drewN_drewN _ _ _⟩ | exact ⟨rfl, _, Eq.trans (World.drewN_drewN _ _ _) (congrArg (World.drewN _) (Nat.add_assoc _ _ _))⟩)))
    repeat (go_quiet (first | (go_at_call 47; (with_reducible refine (spec_l1In.calls (rd l0 x3_1) 1 9 true _ A4.out).mono ?_); rintro e w' ⟨rfl, ⟨nd, rfl⟩⟩; (try first | exact ⟨rfl, _, World.drewN_drewN _ _ _⟩ | exact ⟨rfl, _, Eq.trans (World.drewN_drewN _ _ _) (congrArg (World.drewN _) (Nat.add_assoc _ _ _))⟩))); try go_wp2_with (first | (go_at_call 47; (with_reducible refine (spec_l1In.calls (rd l0 x3_1) 1 9 true _ A4.out).mono ?_); rintro e w' ⟨rfl, ⟨nd, rfl⟩⟩; (try first | exact ⟨rfl, _, World.drewN_drewN _ _ _⟩ | exact ⟨rfl, _, Eq.trans (World.drewN_drewN _ _ _) (congrArg (World.drewN _) (Nat.add_assoc _ _ _))⟩))))
    go_roundg k1
    case measure => have := HK1.out; omega
    case rel => exact ⟨(wrap64 (x3_1 + 1)), el_, H', ⟨by have := HK1.out; omega⟩, by repeat (first | exact Drawn0.refl _ | apply Drawn0.step)⟩
  rw [if_pos c6] at H
  have c6b0 : decide (0 < x3_1) = true := decide_eq_true c6
  clear c6
  obtain ⟨ji7, hji7⟩ : ∃ j_ : Int, (wrap64 (x3_1 - 1)) = j_ := ⟨_, rfl⟩
  replace H : (if 0 ≤ (ji7) then (if (ji7) < (l0.length : Int) then (if (rd l0 (ji7)) ≥ (rd l0 x3_1) then (some false) else (spec_AreVersions.l0 k1 l0 (wrap64 (x3_1 + 1)))) else (none)) else (none)) = some r := by first | (rw [hji7] at H; exact H) | (simp only [hji7] at H ⊢; exact H)
  (try rw [hji7] at A4)
  have hji7w : (IntKind.i64.wrap (x3_1 - 1)) = ji7 := (i64_w _).trans hji7
  by_cases c8 : 0 ≤ (ji7)
  rotate_left
  · rw [if_neg c8] at H
    exact absurd H (by simp)
  rw [if_pos c8] at H
  have c8b0 : decide (0 ≤ (ji7)) = true := decide_eq_true c8
  clear c8
  by_cases c9 : (ji7) < (l0.length : Int)
  rotate_left
  · rw [if_neg c9] at H
    exact absurd H (by simp)
  rw [if_pos c9] at H
  have c9b0 : decide ((ji7) < (l0.length : Int)) = true := decide_eq_true c9
  clear c9
  have HS_ := Aside0.mk H
  clear H
  have p322 : 0 ≤ (x3_1 : Int) := dt_
  have q322 : x3_1 < (l0.length : Int) := dt_
  obtain ⟨ad322, e322, hx322_0⟩ := Kd.at_int HR0.out x3_1 p322 q322
  cases e322
  replace p322 := eq_true p322
  replace q322 := eq_true q322
  go_upto_if 31 with (first | (go_at_call 47; (with_reducible refine (spec_l1In.calls (rd l0 x3_1) 1 9 true _ A4.out).mono ?_); rintro e w' ⟨rfl, ⟨nd, rfl⟩⟩; (try first | exact ⟨rfl, _, World.drewN_drewN _ _ _⟩ | exact ⟨rfl, _, Eq.trans (World.drewN_drewN _ _ _) (congrArg (World.drewN _) (Nat.add_assoc _ _ _))⟩); have p324 : 0 ≤ ((ji7) : Int) := dt_; have q324 : (ji7) < (l0.length : Int) := dt_; obtain ⟨ad324, e324, hx324_0⟩ := Kd.at_int HR0.out (ji7) p324 q324; obtain rfl : ad322 = ad324 := (by injection e324); replace p324 := eq_true p324; replace q324 := eq_true q324; have p325 : 0 ≤ (x3_1 : Int) := dt_; have q325 : x3_1 < (l0.length : Int) := dt_; obtain ⟨ad325, e325, hx325_0⟩ := Kd.at_int HR0.out x3_1 p325 q325; obtain rfl : ad322 = ad325 := (by injection e325); replace p325 := eq_true p325; replace q325 := eq_true q325))
  repeat (go_quiet (first | (go_at_call 47; (with_reducible refine (spec_l1In.calls (rd l0 x3_1) 1 9 true _ A4.out).mono ?_); rintro e w' ⟨rfl, ⟨nd, rfl⟩⟩; (try first | exact ⟨rfl, _, World.drewN_drewN _ _ _⟩ | exact ⟨rfl, _, Eq.trans (World.drewN_drewN _ _ _) (congrArg (World.drewN _) (Nat.add_assoc _ _ _))⟩); have p324 : 0 ≤ ((ji7) : Int) := dt_; have q324 : (ji7) < (l0.length : Int) := dt_; obtain ⟨ad324, e324, hx324_0⟩ := Kd.at_int HR0.out (ji7) p324 q324; obtain rfl : ad322 = ad324 := (by injection e324); replace p324 := eq_true p324; replace q324 := eq_true q324; have p325 : 0 ≤ (x3_1 : Int) := dt_; have q325 : x3_1 < (l0.length : Int) := dt_; obtain ⟨ad325, e325, hx325_0⟩ := Kd.at_int HR0.out x3_1 p325 q325; obtain rfl : ad322 = ad325 := (by injection e325); replace p325 := eq_true p325; replace q325 := eq_true q325)); go_upto_if 31 with (first | (go_at_call 47; (with_reducible refine (spec_l1In.calls (rd l0 x3_1) 1 9 true _ A4.out).mono ?_); rintro e w' ⟨rfl, ⟨nd, rfl⟩⟩; (try first | exact ⟨rfl, _, World.drewN_drewN _ _ _⟩ | exact ⟨rfl, _, Eq.trans (World.drewN_drewN _ _ _) (congrArg (World.drewN _) (Nat.add_assoc _ _ _))⟩); have p324 : 0 ≤ ((ji7) : Int) := dt_; have q324 : (ji7) < (l0.length : Int) := dt_; obtain ⟨ad324, e324, hx324_0⟩ := Kd.at_int HR0.out (ji7) p324 q324; obtain rfl : ad322 = ad324 := (by injection e324); replace p324 := eq_true p324; replace q324 := eq_true q324; have p325 : 0 ≤ (x3_1 : Int) := dt_; have q325 : x3_1 < (l0.length : Int) := dt_; obtain ⟨ad325, e325, hx325_0⟩ := Kd.at_int HR0.out x3_1 p325 q325; obtain rfl : ad322 = ad325 := (by injection e325); replace p325 := eq_true p325; replace q325 := eq_true q325)))
  (try simp only [Act.put, List.setIfInBounds_toArray, List.set_cons_zero, List.set_cons_succ])
  have H := HS_.out
  clear HS_
  by_cases c10 : (rd l0 (ji7)) ≥ (rd l0 x3_1)
  rotate_left
  · rw [if_neg c10] at H
    have c10b0 : decide ((rd l0 x3_1) ≤ (rd l0 (ji7))) = false := decide_eq_false c10
    clear c10
    (first | rw [c10b0] | (simp only [i64_w, i32_w]; rw [c10b0]) | skip)
    have H' := Aside0.mk H
    clear H
    go_wp2
    repeat (go_quiet (fail); try go_wp2)
    go_roundg k1
    case measure => have := HK1.out; omega
    case rel => exact ⟨(wrap64 (x3_1 + 1)), el_, H', ⟨by have := HK1.out; omega⟩, by repeat (first | exact Drawn0.refl _ | apply Drawn0.step)⟩
  rw [if_pos c10] at H
  have c10b0 : decide ((rd l0 x3_1) ≤ (rd l0 (ji7))) = true := decide_eq_true c10
  clear c10
  (first | rw [c10b0] | (simp only [i64_w, i32_w]; rw [c10b0]) | skip)
  obtain rfl := Option.some.inj H
  go_wp2
  repeat (go_quiet (fail); try go_wp2)
  go_ret
  exact ⟨by first | rfl | (simp; done) | (simp only [← hji7] <;> (first | rfl | simp)) | (simp [*]; done), by repeat (first | exact Drawn0.refl _ | apply Drawn0.step)⟩

/-! ### spec_IsReserved: function 72 -/
def spec_IsReserved.f (a0 : Int) : Option (Bool) := (spec_l1In.f a0 0 255).bind fun t326 => (if t326 = true then (some ((Int.tmod a0 16) == 10)) else (some false))
set_option maxHeartbeats 8000000 in
set_option maxRecDepth 100000 in
theorem spec_IsReserved.calls (a0 : Int) (r : Bool) (w : World) (h : spec_IsReserved.f a0 = some r) :
    Calls Try.prog 72 #[.int .i64 a0] w fun e w' => e = .returned (.bool r) ∧ Drawn0 w w' := by
  have H : ((spec_l1In.f a0 0 255).bind fun t326 => (if t326 = true then (some ((Int.tmod a0 16) == 10)) else (some false))) = some r := h
  clear h
  replace H := Option.bind_eq_some_iff.mp H
  obtain ⟨t326, A20, H⟩ := H
  (try dsimp only at H)
  have A2 := Aside0.mk A20
  clear A20
  by_cases c3 : t326 = true
  rotate_left
  · replace c3 := Bool.eq_false_iff.mpr c3
    subst c3
    rw [if_neg (show ¬ (false = true) by decide)] at H
    obtain rfl := Option.some.inj H
    go_enter Try.func72, Try.ntmps72
    go_wp2_with (first | ((with_reducible refine gate_callee (f := 47) rfl ?_); refine gl_ (some 4) Try.func47 #[.int .i64 a0, .int .i64 0, .int .i64 255] ?_; (with_reducible refine (spec_l1In.calls a0 0 255 false _ A2.out).mono ?_); rintro e w' ⟨rfl, ⟨nd, rfl⟩⟩; refine ⟨_, rfl, ?_⟩))
    go_ret
    exact ⟨by first | rfl | (simp; done) | (simp [*]; done), by repeat (first | exact Drawn0.refl _ | apply Drawn0.step)⟩
  subst c3
  rw [if_pos rfl] at H
  obtain rfl := Option.some.inj H
  go_enter Try.func72, Try.ntmps72
  go_wp2_with (first | ((with_reducible refine gate_callee (f := 47) rfl ?_); refine gl_ (some 4) Try.func47 #[.int .i64 a0, .int .i64 0, .int .i64 255] ?_; (with_reducible refine (spec_l1In.calls a0 0 255 true _ A2.out).mono ?_); rintro e w' ⟨rfl, ⟨nd, rfl⟩⟩; refine ⟨_, rfl, ?_⟩))
  go_ret
  exact ⟨by first | rfl | (simp; done) | (simp [*]; done), by repeat (first | exact Drawn0.refl _ | apply Drawn0.step)⟩

end Go.Proofs.Ytchnkakjjbfklaa.Print
