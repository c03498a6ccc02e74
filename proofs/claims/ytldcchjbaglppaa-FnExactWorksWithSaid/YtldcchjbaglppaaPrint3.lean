-- Written by a program of this session (printx.py) out of the translation; Lean checks it.
import Derived.Test.YtldcchjbaglppaaPrint0
import Derived.Test.YtldcchjbaglppaaPrint2
namespace Go.Proofs.Ytldcchjbaglppaa.Print
open Go.RowKit Go.Proofs.YtldcchjbaglppaaW.PrintWords Go.Proofs.YtldcchjbaglppaaW.PrintLast Go.Proofs.YtldcchjbaglppaaW.PrintMore Go.Proofs.Ytldcchjbaglppaa.Short
attribute [local go_sem] max2_int min2_int max_two min_two max_three min_three max_four min_four   -- for this text's walks alone
set_option linter.unusedVariables false
set_option linter.unusedSimpArgs false

/-! ### laws_eqMachineS: function 15 -/
def laws_eqMachineS.l0 : Nat → List (S34) → List (S34) → Int → Option (Bool)
  | 0, _, _, _ => none
  | k + 1, x0, x1, x5 => if x5 < (x0.length : Int) then (if 0 ≤ x5 then (if x5 < (x1.length : Int) then ((laws_eqMachine.f k ((rd_T34 x0 x5).f0) ((rd_T34 x0 x5).f1) ((rd_T34 x0 x5).f2) ((rd_T34 x1 x5).f0) ((rd_T34 x1 x5).f1) ((rd_T34 x1 x5).f2)).bind fun t157 => (if t157 = true then (laws_eqMachineS.l0 k x0 x1 (wrap64 (x5 + 1))) else (some false))) else (none)) else (none)) else (some true)
def laws_eqMachineS.f (k : Nat) (l0 : List (S34)) (l1 : List (S34)) : Option (Bool) := if (l0.length : Int) = (l1.length : Int) then (laws_eqMachineS.l0 k l0 l1 0) else (some false)
theorem laws_eqMachineS.mono_l : ∀ k, (∀ y0 y1 y2, LeO (laws_eqMachineS.l0 k y0 y1 y2) (laws_eqMachineS.l0 (k + 1) y0 y1 y2))
  | 0 => fun _ _ _ r h => by simp [laws_eqMachineS.l0] at h
  | k + 1 => by
    have ih0 := laws_eqMachineS.mono_l k
    · intro y0 y1 y2
      unfold laws_eqMachineS.l0
      exact mo2_ ih0 laws_eqMachine.mono
theorem laws_eqMachineS.mono : ∀ a0 a1 k, LeO (laws_eqMachineS.f k a0 a1) (laws_eqMachineS.f (k + 1) a0 a1) := by
  intro a0 a1 k
  have ih0 := laws_eqMachineS.mono_l k
  unfold laws_eqMachineS.f
  exact mo2_ ih0 laws_eqMachine.mono
def laws_eqMachineS.T6 : Bool × List (List Nat × List Nat) := (true, [([], []), ([], []), ([0, 1], [0, 1]), ([2], [2]), ([], []), ([], []), ([4, 5], [4, 5]), ([6], [6]), ([3, 7], [3, 7]), ([8], [8])])
def laws_eqMachineS.B6 : List Nat := [0, 0, 3, 7, 0, 0, 48, 112, 255, 511]
theorem laws_eqMachineS.tab6 : rtab .any (opsOf Try.f15 6) = laws_eqMachineS.T6 := by kernel_rfl
theorem laws_eqMachineS.bits6 : waitsOk laws_eqMachineS.T6.2 laws_eqMachineS.B6 = true := by kernel_rfl
set_option maxHeartbeats 8000000 in
set_option maxRecDepth 100000 in
theorem laws_eqMachineS.calls (k : Nat) (A0 : Option Addr) (c0 : Nat) (l0 : List (S34)) (A1 : Option Addr) (c1 : Nat) (l1 : List (S34)) (r : Bool) (w : World) (hr0 : Kd.C k34 w A0 l0.length l0) (hc0 : l0.length ≤ c0) (hr1 : Kd.C k34 w A1 l1.length l1) (hc1 : l1.length ≤ c1) (h : laws_eqMachineS.f k l0 l1 = some r) :
    Calls Try.prog 15 #[.slice A0 l0.length c0, .slice A1 l1.length c1] w fun e w' => e = .returned (.bool r) ∧ Below w.heap.size w w' := by
  have hu34 := Try.underlying34
  have HR0 := Q_ hr0
  have HC0 := Q_ hc0
  clear hr0 hc0
  have HR1 := Q_ hr1
  have HC1 := Q_ hc1
  clear hr1 hc1
  have HB := Q_ (Below.refl w.heap.size w)
  have H : (if (l0.length : Int) = (l1.length : Int) then (laws_eqMachineS.l0 k l0 l1 0) else (some false)) = some r := h
  clear h
  by_cases c3 : (l0.length : Int) = (l1.length : Int)
  rotate_left
  · rw [if_neg c3] at H
    have c3b0 : ((l0.length : Int) == (l1.length : Int)) = false := beq_eq_false_iff_ne.mpr c3
    have c3b1 : ((l0.length : Int) != (l1.length : Int)) = true := bne_iff_ne.mpr c3
    have c3b2 : (l0.length == l1.length) = false := by first | simpa using c3 | (simp at c3 ⊢; omega)
    obtain rfl := Option.some.inj H
    go_enter Try.func15, Try.ntmps15
    go_wp2
    go_ret
    exact ⟨er_, pb_ HB.out⟩
  rw [if_pos c3] at H
  have c3b0 : ((l0.length : Int) == (l1.length : Int)) = true := beq_iff_eq.mpr c3
  have c3b1 : ((l0.length : Int) != (l1.length : Int)) = false := bne_eq_false_iff_eq.mpr c3
  have c3b2 : (l0.length == l1.length) = true := by first | simpa using c3 | (simp at c3 ⊢; omega)
  clear c3
  have H' := Q_ H
  clear H
  go_enter Try.func15, Try.ntmps15
  go_wp2
  go_loopg [5] k (fun kq v5 w' => ∃ (x5_1 : Int), v5 = .int .i64 x5_1 ∧ Aside0 (laws_eqMachineS.l0 kq l0 l1 x5_1 = some r) ∧ Aside0 (kq ≤ k) ∧ Aside0 (Below w.heap.size w w'))
  case atStart => exact ⟨(0), el_, H', ⟨Nat.le_refl _⟩, ⟨pb_ HB.out⟩⟩
  clear H'
  try clear c1
  try clear p2
  try clear c3
  try clear c3b0
  try clear c3b1
  try clear c3b2
  obtain ⟨x5_1, rfl, HA, HK1, HB⟩ := hrel
  rcases gk with _ | k1
  · exact absurd HA.out (by simp [laws_eqMachineS.l0])
  have H := HA.out
  clear HA
  simp only [laws_eqMachineS.l0] at H
  by_cases c4 : x5_1 < (l0.length : Int)
  rotate_left
  · rw [if_neg c4] at H
    have c4b0 : decide (x5_1 < (l0.length : Int)) = false := decide_eq_false c4
    clear c4
    obtain rfl := Option.some.inj H
    go_wp2
    go_ret
    exact ⟨er_, pb_ HB.out⟩
  rw [if_pos c4] at H
  have c4b0 : decide (x5_1 < (l0.length : Int)) = true := decide_eq_true c4
  clear c4
  by_cases c5 : 0 ≤ x5_1
  rotate_left
  · rw [if_neg c5] at H
    exact absurd H (by simp)
  rw [if_pos c5] at H
  have c5b0 : decide (0 ≤ x5_1) = true := decide_eq_true c5
  clear c5
  by_cases c6 : x5_1 < (l1.length : Int)
  rotate_left
  · rw [if_neg c6] at H
    exact absurd H (by simp)
  rw [if_pos c6] at H
  have c6b0 : decide (x5_1 < (l1.length : Int)) = true := decide_eq_true c6
  clear c6
  replace H := Option.bind_eq_some_iff.mp H
  obtain ⟨t157, A70, H⟩ := H
  (try dsimp only at H)
  have A7 := Q_ A70
  clear A70
  have HS_ := Q_ H
  clear H
  try go_wp2
  have _ := Q_ (below_drew1 HB.out)
  clear HB
  rename_i HB
  have p155 : 0 ≤ (x5_1 : Int) := dt_
  have q155 : x5_1 < (l0.length : Int) := dt_
  obtain ⟨ad155, A155_1, c155_1, A155_2, c155_2, e155, hx155_0, hx155_1, hx155_2, hl155_1, hi155_1, hl155_2, hi155_2⟩ := at_T34 HR0.out x5_1 p155 q155
  have hw155_2 := hx155_2
  have hw155_1 := hx155_1
  have hw155_0 := hx155_0
  cases e155
  replace hx155_0 := bt_ HB hx155_0
  replace hx155_1 := bt_ HB hx155_1
  replace hx155_2 := bt_ HB hx155_2
  have HR155_1 := Q_ hi155_1
  have HC155_1 := Q_ hl155_1
  clear hi155_1 hl155_1
  have HR155_2 := Q_ hi155_2
  have HC155_2 := Q_ hl155_2
  clear hi155_2 hl155_2
  replace p155 := eq_true p155
  replace q155 := eq_true q155
  have p156 : 0 ≤ (x5_1 : Int) := dt_
  have q156 : x5_1 < (l1.length : Int) := dt_
  obtain ⟨ad156, A156_1, c156_1, A156_2, c156_2, e156, hx156_0, hx156_1, hx156_2, hl156_1, hi156_1, hl156_2, hi156_2⟩ := at_T34 HR1.out x5_1 p156 q156
  have hw156_2 := hx156_2
  have hw156_1 := hx156_1
  have hw156_0 := hx156_0
  cases e156
  replace hx156_0 := bt_ HB hx156_0
  replace hx156_1 := bt_ HB hx156_1
  replace hx156_2 := bt_ HB hx156_2
  have HR156_1 := Q_ hi156_1
  have HC156_1 := Q_ hl156_1
  clear hi156_1 hl156_1
  have HR156_2 := Q_ hi156_2
  have HC156_2 := Q_ hl156_2
  clear hi156_2 hl156_2
  replace p156 := eq_true p156
  replace q156 := eq_true q156
  refine start_ (n := 10) (S := fun w' => w'.cell? (ad155.add ((x5_1).toNat * 3)) = some (.int .i64 ((rd_T34 l0 x5_1).f0)) ∧ w'.cell? ⟨(ad155.add ((x5_1).toNat * 3)).block, (ad155.add ((x5_1).toNat * 3)).off + 1, none⟩ = some (.slice A155_1 ((rd_T34 l0 x5_1).f1).length c155_1) ∧ w'.cell? ⟨(ad155.add ((x5_1).toNat * 3)).block, (ad155.add ((x5_1).toNat * 3)).off + 2, none⟩ = some (.slice A155_2 ((rd_T34 l0 x5_1).f2).length c155_2) ∧ w'.cell? (ad156.add ((x5_1).toNat * 3)) = some (.int .i64 ((rd_T34 l1 x5_1).f0)) ∧ w'.cell? ⟨(ad156.add ((x5_1).toNat * 3)).block, (ad156.add ((x5_1).toNat * 3)).off + 1, none⟩ = some (.slice A156_1 ((rd_T34 l1 x5_1).f1).length c156_1) ∧ w'.cell? ⟨(ad156.add ((x5_1).toNat * 3)).block, (ad156.add ((x5_1).toNat * 3)).off + 2, none⟩ = some (.slice A156_2 ((rd_T34 l1 x5_1).f2).length c156_2)) (ds := []) (tf_ 0 10) (by kernel_rfl) rfl rfl ⟨(bt_ HB hw155_0), (bt_ HB hw155_1), (bt_ HB hw155_2), (bt_ HB hw156_0), (bt_ HB hw156_1), (bt_ HB hw156_2)⟩ (fun hHeld => ?_); refine with_tabW laws_eqMachineS.tab6 laws_eqMachineS.bits6 (fun HT_ HW_ => ?_)
  generalize wr.drew = w8 at HB HR155_1 HR155_2 HR156_1 HR156_2 hx155_0 hx155_1 hx155_2 hx156_0 hx156_1 hx156_2 hHeld ⊢
  refine pu_ 0 (some 17) (tf_ 1 10) HT_ ?_
  refine pu_ 1 (some 18) (tf_ 2 10) HT_ ?_
  refine pu_ 2 (some 19) (tf_ 3 10) HT_ ?_
  refine pu_ 4 (some 21) (tm_ 10 23) HT_ ?_
  refine pu_ 5 (some 22) (tm_ 10 55) HT_ ?_
  refine pu_ 6 (some 23) (tm_ 10 119) HT_ ?_
  refine ta_ 3 (some 20) (tf_ 7 10) HT_ HW_ hHeld ?_
  refine ta_ 7 (some 24) (tf_ 8 10) HT_ HW_ hHeld ?_
  refine on_ 8 (some 25) (tf_ 9 10) HT_ (fun K hK => ?_)
  refine goes_ Try.func16 (by kernel_rfl) rfl #[.agg #[.int .i64 ((rd_T34 l0 x5_1).f0), .slice A155_1 ((rd_T34 l0 x5_1).f1).length c155_1, .slice A155_2 ((rd_T34 l0 x5_1).f2).length c155_2], .agg #[.int .i64 ((rd_T34 l1 x5_1).f0), .slice A156_1 ((rd_T34 l1 x5_1).f1).length c156_1, .slice A156_2 ((rd_T34 l1 x5_1).f2).length c156_2]] (by rfl) rfl rfl mp_ ?_
  with_reducible refine (laws_eqMachine.calls k1 ((rd_T34 l0 x5_1).f0) _ _ ((rd_T34 l0 x5_1).f1) _ _ ((rd_T34 l0 x5_1).f2) ((rd_T34 l1 x5_1).f0) _ _ ((rd_T34 l1 x5_1).f1) _ _ ((rd_T34 l1 x5_1).f2) t157 _ ?side1 ?side2 ?side3 ?side4 ?side5 ?side6 ?side7 ?side8 A7.out).mono ?_
  (case side1 => exact cb_ HR155_1 HB)
  (case side2 => exact HC155_1.out)
  (case side3 => exact cb_ HR155_2 HB)
  (case side4 => exact HC155_2.out)
  (case side5 => exact cb_ HR156_1 HB)
  (case side6 => exact HC156_1.out)
  (case side7 => exact cb_ HR156_2 HB)
  (case side8 => exact HC156_2.out)
  rintro e w9 ⟨rfl, hb⟩
  refine ⟨_, rfl, ?_⟩
  have _ := Q_ (below_step (pb_ HB.out) hb)
  clear HB
  rename_i HB
  (try clear hb)
  (try clear hb2)
  (try clear hk)
  (try clear hi)
  refine hK.out _ _ ⟨(bt_ HB hw155_0), (bt_ HB hw155_1), (bt_ HB hw155_2), (bt_ HB hw156_0), (bt_ HB hw156_1), (bt_ HB hw156_2)⟩ (fun hHeld => ?_)
  clear hK K
  refine no_ (some 25) ?_
  refine pu_ 9 (some 26) (tf_ 10 10) HT_ ?_
  refine done_ (done_of HT_.out (by kernel_rfl)) ?_
  go_upto_if 26 with (fail)
  have H := HS_.out
  clear HS_
  by_cases c10 : t157 = true
  rotate_left
  · replace c10 := Bool.eq_false_iff.mpr c10
    subst c10
    rw [if_neg (show ¬ (false = true) by decide)] at H
    obtain rfl := Option.some.inj H
    go_wp2
    go_ret
    exact ⟨er_, pb_ HB.out⟩
  subst c10
  rw [if_pos rfl] at H
  have H' := Q_ H
  clear H
  go_wp2
  go_roundg k1
  case measure => have := HK1.out; omega
  case rel => exact ⟨(wrap64 (x5_1 + 1)), el_, H', ⟨by have := HK1.out; omega⟩, ⟨pb_ HB.out⟩⟩

/-! ### spec_l1In: function 45 -/
def spec_l1In.f (a0 : Int) (a1 : Int) (a2 : Int) : Option (Bool) := if a0 ≥ a1 then (some (decide (a0 ≤ a2))) else (some false)
set_option maxHeartbeats 8000000 in
set_option maxRecDepth 100000 in
theorem spec_l1In.calls (a0 : Int) (a1 : Int) (a2 : Int) (r : Bool) (w : World) (h : spec_l1In.f a0 a1 a2 = some r) :
    Calls Try.prog 45 #[.int .i64 a0, .int .i64 a1, .int .i64 a2] w fun e w' => e = .returned (.bool r) ∧ Drawn0 w w' := by
  have H : (if a0 ≥ a1 then (some (decide (a0 ≤ a2))) else (some false)) = some r := h
  clear h
  by_cases c4 : a0 ≥ a1
  rotate_left
  · rw [if_neg c4] at H
    have c4b0 : decide (a1 ≤ a0) = false := decide_eq_false c4
    clear c4
    obtain rfl := Option.some.inj H
    go_enter Try.func45, Try.ntmps45
    go_wp2
    go_ret
    exact ⟨by first | rfl | (simp; done) | (simp [*]; done), by repeat (first | exact Drawn0.refl _ | apply Drawn0.step)⟩
  rw [if_pos c4] at H
  have c4b0 : decide (a1 ≤ a0) = true := decide_eq_true c4
  clear c4
  obtain rfl := Option.some.inj H
  go_enter Try.func45, Try.ntmps45
  go_wp2
  go_ret
  exact ⟨by first | rfl | (simp; done) | (simp [*]; done), by repeat (first | exact Drawn0.refl _ | apply Drawn0.step)⟩

/-! ### spec_MoveOf: function 68 -/
def spec_MoveOf.l0 : Nat → Int → Bool → Int → Int → Int → List Bool → List (S78) → Option (Int)
  | 0, _, _, _, _, _, _, _ => none
  | k + 1, x1, x2, x3, x9, x159000, x159001, x159002 => if x9 < (x159002.length : Int) then (if 0 ≤ x9 then (if ((rd_T78 x159002 x9).f0) = x1 then (if (((rd_T78 x159002 x9).f1) == x2) = true then (if ((rd_T78 x159002 x9).f2) = x3 then (some x9) else (spec_MoveOf.l0 k x1 x2 x3 (wrap64 (x9 + 1)) x159000 x159001 x159002)) else (spec_MoveOf.l0 k x1 x2 x3 (wrap64 (x9 + 1)) x159000 x159001 x159002)) else (spec_MoveOf.l0 k x1 x2 x3 (wrap64 (x9 + 1)) x159000 x159001 x159002)) else (none)) else (some (-1))
def spec_MoveOf.f (k : Nat) (a0_0 : Int) (l0_1 : List Bool) (l0_2 : List (S78)) (a1 : Int) (a2 : Bool) (a3 : Int) : Option (Int) := spec_MoveOf.l0 k a1 a2 a3 0 a0_0 l0_1 l0_2
theorem spec_MoveOf.mono_l : ∀ k, (∀ y0 y1 y2 y3 y4 y5 y6, LeO (spec_MoveOf.l0 k y0 y1 y2 y3 y4 y5 y6) (spec_MoveOf.l0 (k + 1) y0 y1 y2 y3 y4 y5 y6))
  | 0 => fun _ _ _ _ _ _ _ r h => by simp [spec_MoveOf.l0] at h
  | k + 1 => by
    have ih0 := spec_MoveOf.mono_l k
    · intro y0 y1 y2 y3 y4 y5 y6
      unfold spec_MoveOf.l0
      exact mo1_ ih0
theorem spec_MoveOf.mono : ∀ a0 a1 a2 a3 a4 a5 k, LeO (spec_MoveOf.f k a0 a1 a2 a3 a4 a5) (spec_MoveOf.f (k + 1) a0 a1 a2 a3 a4 a5) := by
  intro a0 a1 a2 a3 a4 a5 k
  have ih0 := spec_MoveOf.mono_l k
  unfold spec_MoveOf.f
  exact mo1_ ih0
set_option maxHeartbeats 8000000 in
set_option maxRecDepth 100000 in
theorem spec_MoveOf.calls (k : Nat) (a0_0 : Int) (A0_1 : Option Addr) (c0_1 : Nat) (l0_1 : List Bool) (A0_2 : Option Addr) (c0_2 : Nat) (l0_2 : List (S78)) (a1 : Int) (a2 : Bool) (a3 : Int) (r : Int) (w : World) (hr0_1 : Kd.C Kd.bool w A0_1 l0_1.length l0_1) (hc0_1 : l0_1.length ≤ c0_1) (hr0_2 : Kd.C k78 w A0_2 l0_2.length l0_2) (hc0_2 : l0_2.length ≤ c0_2) (h : spec_MoveOf.f k a0_0 l0_1 l0_2 a1 a2 a3 = some r) :
    Calls Try.prog 68 #[.agg #[.int .i64 a0_0, .slice A0_1 l0_1.length c0_1, .slice A0_2 l0_2.length c0_2], .int .i64 a1, .bool a2, .int .i64 a3] w fun e w' => e = .returned (.int .i64 r) ∧ Below w.heap.size w w' := by
  have hu34 := Try.underlying34
  have hu78 := Try.underlying78
  have HR0_1 := Q_ hr0_1
  have HC0_1 := Q_ hc0_1
  clear hr0_1 hc0_1
  have HR0_2 := Q_ hr0_2
  have HC0_2 := Q_ hc0_2
  clear hr0_2 hc0_2
  have HB := Q_ (Below.refl w.heap.size w)
  have H : (spec_MoveOf.l0 k a1 a2 a3 0 a0_0 l0_1 l0_2) = some r := h
  clear h
  have H' := Q_ H
  clear H
  go_enter Try.func68, Try.ntmps68
  go_wp2_with (first | ((with_reducible refine gate_dst (N := 4) rfl ?_); refine box_event ?hg (N := 4) ?hd (cs := #[.int .i64 a0_0, .slice A0_1 l0_1.length c0_1, .slice A0_2 l0_2.length c0_2]) (t := 34) ?hr ?_; (case hd => rfl); (case hg => rfl); (case hr => first | (go_simp; done) | (go_simp; rfl)); intro gb158 hg w5 hbox hb; have n0_ := Q_ (below_step (pb_ HB.out) hb); have n1_ := Q_ (hbox); have n2_ := Q_ ((by rw [hg]; exact (below_size (pb_ HB.out)) : w.heap.size ≤ gb158)); have n3_ := n2_; clear HB; have HB := n0_; have BK158 := n1_; have GW158 := n2_; have GE158 := n3_; clear n0_ n1_ n2_ n3_; clear hb hbox hg))
  (try simp only [Act.put, List.setIfInBounds_toArray, List.set_cons_zero, List.set_cons_succ])
  go_loopg [9] k (fun kq v9 w' => ∃ (x9_1 : Int), v9 = .int .i64 x9_1 ∧ Aside0 (spec_MoveOf.l0 kq a1 a2 a3 x9_1 a0_0 l0_1 l0_2 = some r) ∧ Aside0 (kq ≤ k) ∧ Aside0 (w'.heap[gb158]? = some (.cells #[.int .i64 a0_0, (.slice A0_1 l0_1.length c0_1), (.slice A0_2 l0_2.length c0_2)] 34 (0, 0))) ∧ Aside0 (Below w.heap.size w w'))
  case atStart => exact ⟨(0), el_, H', ⟨Nat.le_refl _⟩, ⟨pk_ BK158.out⟩, ⟨pb1_ HB.out GE158.out⟩⟩
  clear H'
  try clear p2
  obtain ⟨x9_1, rfl, HA, HK1, BK158, HB⟩ := hrel
  rcases gk with _ | k1
  · exact absurd HA.out (by simp [spec_MoveOf.l0])
  have H := HA.out
  clear HA
  simp only [spec_MoveOf.l0] at H
  by_cases c6 : x9_1 < (l0_2.length : Int)
  rotate_left
  · rw [if_neg c6] at H
    have c6b0 : decide (x9_1 < (l0_2.length : Int)) = false := decide_eq_false c6
    clear c6
    obtain rfl := Option.some.inj H
    have hcz7 := bc3_ BK158.out
    go_wp2
    go_ret
    exact ⟨er_, pb1_ HB.out GE158.out⟩
  rw [if_pos c6] at H
  have c6b0 : decide (x9_1 < (l0_2.length : Int)) = true := decide_eq_true c6
  clear c6
  by_cases c8 : 0 ≤ x9_1
  rotate_left
  · rw [if_neg c8] at H
    exact absurd H (by simp)
  rw [if_pos c8] at H
  have c8b0 : decide (0 ≤ x9_1) = true := decide_eq_true c8
  clear c8
  have HS_ := Q_ H
  clear H
  have hcz9 := bc3_ BK158.out
  have p159 : 0 ≤ (x9_1 : Int) := dt_
  have q159 : x9_1 < (l0_2.length : Int) := dt_
  obtain ⟨ad159, e159, hx159_0, hx159_1, hx159_2, hx159_3⟩ := at_T78 HR0_2.out x9_1 p159 q159
  cases e159
  replace hx159_0 := bt_ HB hx159_0
  replace hx159_1 := bt_ HB hx159_1
  replace hx159_2 := bt_ HB hx159_2
  replace hx159_3 := bt_ HB hx159_3
  replace p159 := eq_true p159
  replace q159 := eq_true q159
  go_upto_region 5 with (first | ((with_reducible refine gate_dst (N := 10) rfl ?_); refine box_event ?hg (N := 10) ?hd (cs := #[.int .i64 0, .bool false, .int .i64 0, .int .i64 0]) (t := 78) ?hr ?_; (case hd => rfl); (case hg => rfl); (case hr => first | (go_simp; done) | (go_simp; rfl)); intro gb160 hg w10 hbox hb; have n0_ := Q_ (bb_ BK158.out hb); have n1_ := Q_ (below_step (pb1_ HB.out GE158.out) hb); have n2_ := Q_ (hbox); have n3_ := Q_ ((by rw [hg]; exact (below_size (pb1_ HB.out GE158.out)) : w.heap.size ≤ gb160)); have n4_ := n3_; have n5_ := Q_ ((by rw [hg]; exact Nat.ne_of_lt (blk_lt (pk_ BK158.out)) : gb158 ≠ gb160)); have n6_ := Q_ ((by rw [hg]; exact Nat.ne_of_gt (blk_lt (pk_ BK158.out)) : gb160 ≠ gb158)); clear BK158; clear HB; have BK158 := n0_; have HB := n1_; have BK160 := n2_; have GW160 := n3_; have GE160 := n4_; have NB158_160 := n5_; have NB160_158 := n6_; clear n0_ n1_ n2_ n3_ n4_ n5_ n6_; clear hb hbox hg; have hnb11 := NB160_158.out; have hnc11 := NB158_160.out; have hcz12 := bc4_ BK160.out))
  (try simp only [Act.put, List.setIfInBounds_toArray, List.set_cons_zero, List.set_cons_succ])
  have H := HS_.out
  clear HS_
  by_cases c13 : ((rd_T78 l0_2 x9_1).f0) = a1
  rotate_left
  · rw [if_neg c13] at H
    have c13b0 : (((rd_T78 l0_2 x9_1).f0) == a1) = false := beq_eq_false_iff_ne.mpr c13
    have c13b1 : (((rd_T78 l0_2 x9_1).f0) != a1) = true := bne_iff_ne.mpr c13
    (first | rw [c13b0] | (simp only [i64_w, i32_w]; rw [c13b0]) | rw [c13b1] | (have c_ := c13b1; rw [bne] at c_; rw [c_]; clear c_) | skip)
    have H' := Q_ H
    clear H
    have hnb14 := NB160_158.out
    have hnc14 := NB158_160.out
    have hcz15 := bc4_ BK160.out
    go_wp2
    go_roundg k1
    case measure => have := HK1.out; omega
    case rel => exact ⟨(wrap64 (x9_1 + 1)), el_, H', ⟨by have := HK1.out; omega⟩, ⟨pp_ BK158.out⟩, ⟨pb2_ HB.out GE158.out GE160.out⟩⟩
  rw [if_pos c13] at H
  have c13b0 : (((rd_T78 l0_2 x9_1).f0) == a1) = true := beq_iff_eq.mpr c13
  have c13b1 : (((rd_T78 l0_2 x9_1).f0) != a1) = false := bne_eq_false_iff_eq.mpr c13
  clear c13
  (first | rw [c13b0] | (simp only [i64_w, i32_w]; rw [c13b0]) | rw [c13b1] | (have c_ := c13b1; rw [bne] at c_; rw [c_]; clear c_) | skip)
  by_cases c16 : (((rd_T78 l0_2 x9_1).f1) == a2) = true
  rotate_left
  · rw [if_neg c16] at H
    have c16b0 : (((rd_T78 l0_2 x9_1).f1) == a2) = false := by simpa using c16
    (try (have c16b1 : decide (((rd_T78 l0_2 x9_1).f1) = a2) = false := by simpa using c16))
    (try (have c16b2 : (((rd_T78 l0_2 x9_1).f1) == a2) = false := by simpa using c16))
    (try (have c16b3 : ¬ (((rd_T78 l0_2 x9_1).f1) = a2) := by simpa using c16))
    clear c16
    have H' := Q_ H
    clear H
    have hnb17 := NB160_158.out
    have hnc17 := NB158_160.out
    have hcz18 := bc4_ BK160.out
    go_wp2
    go_roundg k1
    case measure => have := HK1.out; omega
    case rel => exact ⟨(wrap64 (x9_1 + 1)), el_, H', ⟨by have := HK1.out; omega⟩, ⟨pp_ BK158.out⟩, ⟨pb2_ HB.out GE158.out GE160.out⟩⟩
  rw [if_pos c16] at H
  have c16b0 : (((rd_T78 l0_2 x9_1).f1) == a2) = true := c16
  (try (have c16b1 : decide (((rd_T78 l0_2 x9_1).f1) = a2) = true := by simpa using c16))
  (try (have c16b2 : (((rd_T78 l0_2 x9_1).f1) == a2) = true := by simpa using c16))
  clear c16
  by_cases c19 : ((rd_T78 l0_2 x9_1).f2) = a3
  rotate_left
  · rw [if_neg c19] at H
    have c19b0 : (((rd_T78 l0_2 x9_1).f2) == a3) = false := beq_eq_false_iff_ne.mpr c19
    have c19b1 : (((rd_T78 l0_2 x9_1).f2) != a3) = true := bne_iff_ne.mpr c19
    have H' := Q_ H
    clear H
    have hnb20 := NB160_158.out
    have hnc20 := NB158_160.out
    have hcz21 := bc4_ BK160.out
    go_wp2
    go_roundg k1
    case measure => have := HK1.out; omega
    case rel => exact ⟨(wrap64 (x9_1 + 1)), el_, H', ⟨by have := HK1.out; omega⟩, ⟨pp_ BK158.out⟩, ⟨pb2_ HB.out GE158.out GE160.out⟩⟩
  rw [if_pos c19] at H
  have c19b0 : (((rd_T78 l0_2 x9_1).f2) == a3) = true := beq_iff_eq.mpr c19
  have c19b1 : (((rd_T78 l0_2 x9_1).f2) != a3) = false := bne_eq_false_iff_eq.mpr c19
  clear c19
  obtain rfl := Option.some.inj H
  have hnb22 := NB160_158.out
  have hnc22 := NB158_160.out
  have hcz23 := bc4_ BK160.out
  go_wp2
  go_ret
  exact ⟨er_, pb2_ HB.out GE158.out GE160.out⟩

end Go.Proofs.Ytldcchjbaglppaa.Print
