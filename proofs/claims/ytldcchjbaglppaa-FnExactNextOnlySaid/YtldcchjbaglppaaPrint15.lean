-- Written by a program of this session (printx.py) out of the translation; Lean checks it.
import Derived.Test.YtldcchjbaglppaaPrint0
import Derived.Test.YtldcchjbaglppaaPrint14
namespace Go.Proofs.Ytldcchjbaglppaa.Print
open Go.RowKit Go.Proofs.YtldcchjbaglppaaW.PrintWords Go.Proofs.YtldcchjbaglppaaW.PrintLast Go.Proofs.YtldcchjbaglppaaW.PrintMore Go.Proofs.Ytldcchjbaglppaa.Short
attribute [local go_sem] max2_int min2_int max_two min_two max_three min_three max_four min_four   -- for this text's walks alone
set_option linter.unusedVariables false
set_option linter.unusedSimpArgs false

/-! ### laws_eqMachine: function 16 -/
def laws_eqMachine.f (k : Nat) (a0_0 : Int) (l0_1 : List Bool) (l0_2 : List (S78)) (a1_0 : Int) (l1_1 : List Bool) (l1_2 : List (S78)) : Option (Bool) := if a0_0 = a1_0 then ((laws_eqBoolS.f k l0_1 l1_1).bind fun t496 => (if t496 = true then ((laws_eqMoveS.f k l0_2 l1_2).bind fun t497 => (if t497 = true then (some true) else (some false))) else (some false))) else (some false)
theorem laws_eqMachine.mono : ∀ a0 a1 a2 a3 a4 a5 k, LeO (laws_eqMachine.f k a0 a1 a2 a3 a4 a5) (laws_eqMachine.f (k + 1) a0 a1 a2 a3 a4 a5) := by
  intro a0 a1 a2 a3 a4 a5 k
  unfold laws_eqMachine.f
  exact mo2_ laws_eqBoolS.mono laws_eqMoveS.mono
set_option maxHeartbeats 8000000 in
set_option maxRecDepth 100000 in
theorem laws_eqMachine.calls (k : Nat) (a0_0 : Int) (A0_1 : Option Addr) (c0_1 : Nat) (l0_1 : List Bool) (A0_2 : Option Addr) (c0_2 : Nat) (l0_2 : List (S78)) (a1_0 : Int) (A1_1 : Option Addr) (c1_1 : Nat) (l1_1 : List Bool) (A1_2 : Option Addr) (c1_2 : Nat) (l1_2 : List (S78)) (r : Bool) (w : World) (hr0_1 : Kd.C Kd.bool w A0_1 l0_1.length l0_1) (hc0_1 : l0_1.length ≤ c0_1) (hr0_2 : Kd.C k78 w A0_2 l0_2.length l0_2) (hc0_2 : l0_2.length ≤ c0_2) (hr1_1 : Kd.C Kd.bool w A1_1 l1_1.length l1_1) (hc1_1 : l1_1.length ≤ c1_1) (hr1_2 : Kd.C k78 w A1_2 l1_2.length l1_2) (hc1_2 : l1_2.length ≤ c1_2) (h : laws_eqMachine.f k a0_0 l0_1 l0_2 a1_0 l1_1 l1_2 = some r) :
    Calls Try.prog 16 #[.agg #[.int .i64 a0_0, .slice A0_1 l0_1.length c0_1, .slice A0_2 l0_2.length c0_2], .agg #[.int .i64 a1_0, .slice A1_1 l1_1.length c1_1, .slice A1_2 l1_2.length c1_2]] w fun e w' => e = .returned (.bool r) ∧ Below w.heap.size w w' := by
  have hu34 := Try.underlying34
  have HR0_1 := Q_ hr0_1
  have HC0_1 := Q_ hc0_1
  clear hr0_1 hc0_1
  have HR0_2 := Q_ hr0_2
  have HC0_2 := Q_ hc0_2
  clear hr0_2 hc0_2
  have HR1_1 := Q_ hr1_1
  have HC1_1 := Q_ hc1_1
  clear hr1_1 hc1_1
  have HR1_2 := Q_ hr1_2
  have HC1_2 := Q_ hc1_2
  clear hr1_2 hc1_2
  have HB := Q_ (Below.refl w.heap.size w)
  have H : (if a0_0 = a1_0 then ((laws_eqBoolS.f k l0_1 l1_1).bind fun t496 => (if t496 = true then ((laws_eqMoveS.f k l0_2 l1_2).bind fun t497 => (if t497 = true then (some true) else (some false))) else (some false))) else (some false)) = some r := h
  clear h
  have HS_ := Q_ H
  clear H
  go_enter Try.func16, Try.ntmps16
  go_upto_region 1 with (first | ((with_reducible refine gate_dst (N := 2) rfl ?_); refine box_event ?hg (N := 2) ?hd (cs := #[.int .i64 a0_0, .slice A0_1 l0_1.length c0_1, .slice A0_2 l0_2.length c0_2]) (t := 34) ?hr ?_; (case hd => rfl); (case hg => rfl); (case hr => first | (go_simp; done) | (go_simp; rfl)); intro gb494 hg w3 hbox hb; have n0_ := Q_ (below_step (pb_ HB.out) hb); have n1_ := Q_ (hbox); have n2_ := Q_ ((by rw [hg]; exact (below_size (pb_ HB.out)) : w.heap.size ≤ gb494)); have n3_ := n2_; clear HB; have HB := n0_; have BK494 := n1_; have GW494 := n2_; have GE494 := n3_; clear n0_ n1_ n2_ n3_; clear hb hbox hg) | ((with_reducible refine gate_dst (N := 3) rfl ?_); refine box_event ?hg (N := 3) ?hd (cs := #[.int .i64 a1_0, .slice A1_1 l1_1.length c1_1, .slice A1_2 l1_2.length c1_2]) (t := 34) ?hr ?_; (case hd => rfl); (case hg => rfl); (case hr => first | (go_simp; done) | (go_simp; rfl)); intro gb495 hg w4 hbox hb; have n0_ := Q_ (bb_ BK494.out hb); have n1_ := Q_ (below_step (pb1_ HB.out GE494.out) hb); have n2_ := Q_ (hbox); have n3_ := Q_ ((by rw [hg]; exact (below_size (pb1_ HB.out GE494.out)) : w.heap.size ≤ gb495)); have n4_ := n3_; have n5_ := Q_ ((by rw [hg]; exact Nat.ne_of_lt (blk_lt (pk_ BK494.out)) : gb494 ≠ gb495)); have n6_ := Q_ ((by rw [hg]; exact Nat.ne_of_gt (blk_lt (pk_ BK494.out)) : gb495 ≠ gb494)); clear BK494; clear HB; have BK494 := n0_; have HB := n1_; have BK495 := n2_; have GW495 := n3_; have GE495 := n4_; have NB494_495 := n5_; have NB495_494 := n6_; clear n0_ n1_ n2_ n3_ n4_ n5_ n6_; clear hb hbox hg))
  (try simp only [Act.put, List.setIfInBounds_toArray, List.set_cons_zero, List.set_cons_succ])
  have H := HS_.out
  clear HS_
  by_cases c5 : a0_0 = a1_0
  rotate_left
  · rw [if_neg c5] at H
    have c5b0 : (a0_0 == a1_0) = false := beq_eq_false_iff_ne.mpr c5
    have c5b1 : (a0_0 != a1_0) = true := bne_iff_ne.mpr c5
    (first | rw [c5b0] | (simp only [i64_w, i32_w]; rw [c5b0]) | rw [c5b1] | (have c_ := c5b1; rw [bne] at c_; rw [c_]; clear c_) | skip)
    obtain rfl := Option.some.inj H
    have hnb6 := NB494_495.out
    have hnc6 := NB495_494.out
    have hcz7 := bc3_ BK494.out
    have hcz8 := bc3_ BK495.out
    go_wp2
    go_ret
    exact ⟨er_, pb2_ HB.out GE494.out GE495.out⟩
  rw [if_pos c5] at H
  have c5b0 : (a0_0 == a1_0) = true := beq_iff_eq.mpr c5
  have c5b1 : (a0_0 != a1_0) = false := bne_eq_false_iff_eq.mpr c5
  clear c5
  (first | rw [c5b0] | (simp only [i64_w, i32_w]; rw [c5b0]) | rw [c5b1] | (have c_ := c5b1; rw [bne] at c_; rw [c_]; clear c_) | skip)
  replace H := Option.bind_eq_some_iff.mp H
  obtain ⟨t496, A90, H⟩ := H
  (try dsimp only at H)
  have A9 := Q_ A90
  clear A90
  have HS_ := Q_ H
  clear H
  have hnb10 := NB494_495.out
  have hnc10 := NB495_494.out
  have hcz11 := bc3_ BK494.out
  have hcz12 := bc3_ BK495.out
  go_upto_if 15 with (first | ((with_reducible refine gate_callee (f := 39) rfl ?_); refine gl_ (some 14) Try.func39 #[.slice A0_1 l0_1.length c0_1, .slice A1_1 l1_1.length c1_1] ?_; (with_reducible refine (laws_eqBoolS.calls k _ _ l0_1 _ _ l1_1 t496 _ ?side1 ?side2 ?side3 ?side4 A9.out).mono ?_); (case side1 => exact cb_ HR0_1 HB); (case side2 => exact HC0_1.out); (case side3 => exact cb_ HR1_1 HB); (case side4 => exact HC1_1.out); rintro e w' ⟨rfl, ⟨nd, rfl⟩⟩; refine ⟨_, rfl, ?_⟩))
  (try simp only [Act.put, List.setIfInBounds_toArray, List.set_cons_zero, List.set_cons_succ])
  have H := HS_.out
  clear HS_
  by_cases c13 : t496 = true
  rotate_left
  · replace c13 := Bool.eq_false_iff.mpr c13
    subst c13
    rw [if_neg (show ¬ (false = true) by decide)] at H
    obtain rfl := Option.some.inj H
    go_wp2
    go_ret
    exact ⟨er_, pb2_ HB.out GE494.out GE495.out⟩
  subst c13
  rw [if_pos rfl] at H
  replace H := Option.bind_eq_some_iff.mp H
  obtain ⟨t497, A140, H⟩ := H
  replace H : (if t497 = true then (some true) else (some false)) = some r := H
  have A14 := Q_ A140
  clear A140
  have HS_ := Q_ H
  clear H
  have hnb15 := NB494_495.out
  have hnc15 := NB495_494.out
  have hcz16 := bc3_ BK494.out
  have hcz17 := bc3_ BK495.out
  go_upto_if 21 with (first | ((with_reducible refine gate_callee (f := 40) rfl ?_); refine gl_ (some 20) Try.func40 #[.slice A0_2 l0_2.length c0_2, .slice A1_2 l1_2.length c1_2] ?_; (with_reducible refine (laws_eqMoveS.calls k _ _ l0_2 _ _ l1_2 t497 _ ?side1 ?side2 ?side3 ?side4 A14.out).mono ?_); (case side1 => exact pc_ (Kd.C_below HR0_2.out (pb2_ HB.out GE494.out GE495.out))); (case side2 => exact HC0_2.out); (case side3 => exact pc_ (Kd.C_below HR1_2.out (pb2_ HB.out GE494.out GE495.out))); (case side4 => exact HC1_2.out); rintro e w18 ⟨rfl, hb⟩; refine ⟨_, rfl, ?_⟩; have _ := Q_ (bb_ BK494.out hb); have _ := Q_ (bb_ BK495.out hb); have _ := Q_ (below_step (pb2_ HB.out GE494.out GE495.out) hb); clear BK494 BK495 HB; rename_i BK494 BK495 HB; (try clear hb); (try clear hb2); (try clear hk); (try clear hi)))
  (try simp only [Act.put, List.setIfInBounds_toArray, List.set_cons_zero, List.set_cons_succ])
  have H := HS_.out
  clear HS_
  by_cases c19 : t497 = true
  rotate_left
  · replace c19 := Bool.eq_false_iff.mpr c19
    subst c19
    rw [if_neg (show ¬ (false = true) by decide)] at H
    obtain rfl := Option.some.inj H
    go_wp2
    go_ret
    exact ⟨er_, pb2_ HB.out GE494.out GE495.out⟩
  subst c19
  rw [if_pos rfl] at H
  obtain rfl := Option.some.inj H
  go_wp2
  go_ret
  exact ⟨er_, pb2_ HB.out GE494.out GE495.out⟩

/-! ### laws_eqMachineS: function 15 -/
def laws_eqMachineS.l0 : Nat → List (S34) → List (S34) → Int → Option (Bool)
  | 0, _, _, _ => none
  | k + 1, x0, x1, x5 => if x5 < (x0.length : Int) then (if 0 ≤ x5 then (if x5 < (x1.length : Int) then ((laws_eqMachine.f k ((rd_T34 x0 x5).f0) ((rd_T34 x0 x5).f1) ((rd_T34 x0 x5).f2) ((rd_T34 x1 x5).f0) ((rd_T34 x1 x5).f1) ((rd_T34 x1 x5).f2)).bind fun t500 => (if t500 = true then (laws_eqMachineS.l0 k x0 x1 (wrap64 (x5 + 1))) else (some false))) else (none)) else (none)) else (some true)
def laws_eqMachineS.f (k : Nat) (l0 : List (S34)) (l1 : List (S34)) : Option (Bool) := if (l0.length : Int) = (l1.length : Int) then (laws_eqMachineS.l0 k l0 l1 0) else (some false)
theorem laws_eqMachineS.mono_l : ∀ k, (∀ y0 y1 y2, LeO (laws_eqMachineS.l0 k y0 y1 y2) (laws_eqMachineS.l0 (k + 1) y0 y1 y2))
  | 0 => fun _ _ _ r h => by simp [laws_eqMachineS.l0] at h
  | k + 1 => by
    have ih0 := laws_eqMachineS.mono_l k
    · intro y0 y1 y2
      unfold laws_eqMachineS.l0
      exact mo2_ ih0 laws_eqMachine.mono
theorem laws_eqMachineS.mono : ∀ a0 a1 k, LeO (laws_eqMachineS.f k a0 a1) (laws_eqMachineS.f (k + 1) a0 a1) := by
  intro a0 a1 k
  have ih0 := laws_eqMachineS.mono_l k
  unfold laws_eqMachineS.f
  exact mo2_ ih0 laws_eqMachine.mono
def laws_eqMachineS.T6 : Bool × List (List Nat × List Nat) := (true, [([], []), ([], []), ([0, 1], [0, 1]), ([2], [2]), ([], []), ([], []), ([4, 5], [4, 5]), ([6], [6]), ([3, 7], [3, 7]), ([8], [8])])
def laws_eqMachineS.B6 : List Nat := [0, 0, 3, 7, 0, 0, 48, 112, 255, 511]
theorem laws_eqMachineS.tab6 : rtab .any (opsOf Try.f15 6) = laws_eqMachineS.T6 := by kernel_rfl
theorem laws_eqMachineS.bits6 : waitsOk laws_eqMachineS.T6.2 laws_eqMachineS.B6 = true := by kernel_rfl
set_option maxHeartbeats 8000000 in
set_option maxRecDepth 100000 in
theorem laws_eqMachineS.calls (k : Nat) (A0 : Option Addr) (c0 : Nat) (l0 : List (S34)) (A1 : Option Addr) (c1 : Nat) (l1 : List (S34)) (r : Bool) (w : World) (hr0 : Kd.C k34 w A0 l0.length l0) (hc0 : l0.length ≤ c0) (hr1 : Kd.C k34 w A1 l1.length l1) (hc1 : l1.length ≤ c1) (h : laws_eqMachineS.f k l0 l1 = some r) :
    Calls Try.prog 15 #[.slice A0 l0.length c0, .slice A1 l1.length c1] w fun e w' => e = .returned (.bool r) ∧ Below w.heap.size w w' := by
  have hu34 := Try.underlying34
  have HR0 := Q_ hr0
  have HC0 := Q_ hc0
  clear hr0 hc0
  have HR1 := Q_ hr1
  have HC1 := Q_ hc1
  clear hr1 hc1
  have HB := Q_ (Below.refl w.heap.size w)
  have H : (if (l0.length : Int) = (l1.length : Int) then (laws_eqMachineS.l0 k l0 l1 0) else (some false)) = some r := h
  clear h
  by_cases c3 : (l0.length : Int) = (l1.length : Int)
  rotate_left
  · rw [if_neg c3] at H
    have c3b0 : ((l0.length : Int) == (l1.length : Int)) = false := beq_eq_false_iff_ne.mpr c3
    have c3b1 : ((l0.length : Int) != (l1.length : Int)) = true := bne_iff_ne.mpr c3
    have c3b2 : (l0.length == l1.length) = false := by first | simpa using c3 | (simp at c3 ⊢; omega)
    obtain rfl := Option.some.inj H
    go_enter Try.func15, Try.ntmps15
    go_wp2
    go_ret
    exact ⟨er_, pb_ HB.out⟩
  rw [if_pos c3] at H
  have c3b0 : ((l0.length : Int) == (l1.length : Int)) = true := beq_iff_eq.mpr c3
  have c3b1 : ((l0.length : Int) != (l1.length : Int)) = false := bne_eq_false_iff_eq.mpr c3
  have c3b2 : (l0.length == l1.length) = true := by first | simpa using c3 | (simp at c3 ⊢; omega)
  clear c3
  have H' := Q_ H
  clear H
  go_enter Try.func15, Try.ntmps15
  go_wp2
  go_loopg [5] k (fun kq v5 w' => ∃ (x5_1 : Int), v5 = .int .i64 x5_1 ∧ Aside0 (laws_eqMachineS.l0 kq l0 l1 x5_1 = some r) ∧ Aside0 (kq ≤ k) ∧ Aside0 (Below w.heap.size w w'))
  case atStart => exact ⟨(0), el_, H', ⟨Nat.le_refl _⟩, ⟨pb_ HB.out⟩⟩
  clear H'
  try clear c1
  try clear p2
  try clear c3
  try clear c3b0
  try clear c3b1
  try clear c3b2
  obtain ⟨x5_1, rfl, HA, HK1, HB⟩ := hrel
  rcases gk with _ | k1
  · exact absurd HA.out (by simp [laws_eqMachineS.l0])
  have H := HA.out
  clear HA
  simp only [laws_eqMachineS.l0] at H
  by_cases c4 : x5_1 < (l0.length : Int)
  rotate_left
  · rw [if_neg c4] at H
    have c4b0 : decide (x5_1 < (l0.length : Int)) = false := decide_eq_false c4
    clear c4
    obtain rfl := Option.some.inj H
    go_wp2
    go_ret
    exact ⟨er_, pb_ HB.out⟩
  rw [if_pos c4] at H
  have c4b0 : decide (x5_1 < (l0.length : Int)) = true := decide_eq_true c4
  clear c4
  by_cases c5 : 0 ≤ x5_1
  rotate_left
  · rw [if_neg c5] at H
    exact absurd H (by simp)
  rw [if_pos c5] at H
  have c5b0 : decide (0 ≤ x5_1) = true := decide_eq_true c5
  clear c5
  by_cases c6 : x5_1 < (l1.length : Int)
  rotate_left
  · rw [if_neg c6] at H
    exact absurd H (by simp)
  rw [if_pos c6] at H
  have c6b0 : decide (x5_1 < (l1.length : Int)) = true := decide_eq_true c6
  clear c6
  replace H := Option.bind_eq_some_iff.mp H
  obtain ⟨t500, A70, H⟩ := H
  (try dsimp only at H)
  have A7 := Q_ A70
  clear A70
  have HS_ := Q_ H
  clear H
  try go_wp2
  have _ := Q_ (below_drew1 HB.out)
  clear HB
  rename_i HB
  have p498 : 0 ≤ (x5_1 : Int) := dt_
  have q498 : x5_1 < (l0.length : Int) := dt_
  obtain ⟨ad498, A498_1, c498_1, A498_2, c498_2, e498, hx498_0, hx498_1, hx498_2, hl498_1, hi498_1, hl498_2, hi498_2⟩ := at_T34 HR0.out x5_1 p498 q498
  have hw498_2 := hx498_2
  have hw498_1 := hx498_1
  have hw498_0 := hx498_0
  cases e498
  replace hx498_0 := bt_ HB hx498_0
  replace hx498_1 := bt_ HB hx498_1
  replace hx498_2 := bt_ HB hx498_2
  have HR498_1 := Q_ hi498_1
  have HC498_1 := Q_ hl498_1
  clear hi498_1 hl498_1
  have HR498_2 := Q_ hi498_2
  have HC498_2 := Q_ hl498_2
  clear hi498_2 hl498_2
  replace p498 := eq_true p498
  replace q498 := eq_true q498
  have p499 : 0 ≤ (x5_1 : Int) := dt_
  have q499 : x5_1 < (l1.length : Int) := dt_
  obtain ⟨ad499, A499_1, c499_1, A499_2, c499_2, e499, hx499_0, hx499_1, hx499_2, hl499_1, hi499_1, hl499_2, hi499_2⟩ := at_T34 HR1.out x5_1 p499 q499
  have hw499_2 := hx499_2
  have hw499_1 := hx499_1
  have hw499_0 := hx499_0
  cases e499
  replace hx499_0 := bt_ HB hx499_0
  replace hx499_1 := bt_ HB hx499_1
  replace hx499_2 := bt_ HB hx499_2
  have HR499_1 := Q_ hi499_1
  have HC499_1 := Q_ hl499_1
  clear hi499_1 hl499_1
  have HR499_2 := Q_ hi499_2
  have HC499_2 := Q_ hl499_2
  clear hi499_2 hl499_2
  replace p499 := eq_true p499
  replace q499 := eq_true q499
  refine start_ (n := 10) (S := fun w' => w'.cell? (ad498.add ((x5_1).toNat * 3)) = some (.int .i64 ((rd_T34 l0 x5_1).f0)) ∧ w'.cell? ⟨(ad498.add ((x5_1).toNat * 3)).block, (ad498.add ((x5_1).toNat * 3)).off + 1, none⟩ = some (.slice A498_1 ((rd_T34 l0 x5_1).f1).length c498_1) ∧ w'.cell? ⟨(ad498.add ((x5_1).toNat * 3)).block, (ad498.add ((x5_1).toNat * 3)).off + 2, none⟩ = some (.slice A498_2 ((rd_T34 l0 x5_1).f2).length c498_2) ∧ w'.cell? (ad499.add ((x5_1).toNat * 3)) = some (.int .i64 ((rd_T34 l1 x5_1).f0)) ∧ w'.cell? ⟨(ad499.add ((x5_1).toNat * 3)).block, (ad499.add ((x5_1).toNat * 3)).off + 1, none⟩ = some (.slice A499_1 ((rd_T34 l1 x5_1).f1).length c499_1) ∧ w'.cell? ⟨(ad499.add ((x5_1).toNat * 3)).block, (ad499.add ((x5_1).toNat * 3)).off + 2, none⟩ = some (.slice A499_2 ((rd_T34 l1 x5_1).f2).length c499_2)) (ds := []) (tf_ 0 10) (by kernel_rfl) rfl rfl ⟨(bt_ HB hw498_0), (bt_ HB hw498_1), (bt_ HB hw498_2), (bt_ HB hw499_0), (bt_ HB hw499_1), (bt_ HB hw499_2)⟩ (fun hHeld => ?_); refine with_tabW laws_eqMachineS.tab6 laws_eqMachineS.bits6 (fun HT_ HW_ => ?_)
  generalize wr.drew = w8 at HB HR498_1 HR498_2 HR499_1 HR499_2 hx498_0 hx498_1 hx498_2 hx499_0 hx499_1 hx499_2 hHeld ⊢
  refine pu_ 0 (some 17) (tf_ 1 10) HT_ ?_
  refine pu_ 1 (some 18) (tf_ 2 10) HT_ ?_
  refine pu_ 2 (some 19) (tf_ 3 10) HT_ ?_
  refine pu_ 4 (some 21) (tm_ 10 23) HT_ ?_
  refine pu_ 5 (some 22) (tm_ 10 55) HT_ ?_
  refine pu_ 6 (some 23) (tm_ 10 119) HT_ ?_
  refine ta_ 3 (some 20) (tf_ 7 10) HT_ HW_ hHeld ?_
  refine ta_ 7 (some 24) (tf_ 8 10) HT_ HW_ hHeld ?_
  refine on_ 8 (some 25) (tf_ 9 10) HT_ (fun K hK => ?_)
  refine goes_ Try.func16 (by kernel_rfl) rfl #[.agg #[.int .i64 ((rd_T34 l0 x5_1).f0), .slice A498_1 ((rd_T34 l0 x5_1).f1).length c498_1, .slice A498_2 ((rd_T34 l0 x5_1).f2).length c498_2], .agg #[.int .i64 ((rd_T34 l1 x5_1).f0), .slice A499_1 ((rd_T34 l1 x5_1).f1).length c499_1, .slice A499_2 ((rd_T34 l1 x5_1).f2).length c499_2]] (by rfl) rfl rfl mp_ ?_
  with_reducible refine (laws_eqMachine.calls k1 ((rd_T34 l0 x5_1).f0) _ _ ((rd_T34 l0 x5_1).f1) _ _ ((rd_T34 l0 x5_1).f2) ((rd_T34 l1 x5_1).f0) _ _ ((rd_T34 l1 x5_1).f1) _ _ ((rd_T34 l1 x5_1).f2) t500 _ ?side1 ?side2 ?side3 ?side4 ?side5 ?side6 ?side7 ?side8 A7.out).mono ?_
  (case side1 => exact cb_ HR498_1 HB)
  (case side2 => exact HC498_1.out)
  (case side3 => exact cb_ HR498_2 HB)
  (case side4 => exact HC498_2.out)
  (case side5 => exact cb_ HR499_1 HB)
  (case side6 => exact HC499_1.out)
  (case side7 => exact cb_ HR499_2 HB)
  (case side8 => exact HC499_2.out)
  rintro e w9 ⟨rfl, hb⟩
  refine ⟨_, rfl, ?_⟩
  have _ := Q_ (below_step (pb_ HB.out) hb)
  clear HB
  rename_i HB
  (try clear hb)
  (try clear hb2)
  (try clear hk)
  (try clear hi)
  refine hK.out _ _ ⟨(bt_ HB hw498_0), (bt_ HB hw498_1), (bt_ HB hw498_2), (bt_ HB hw499_0), (bt_ HB hw499_1), (bt_ HB hw499_2)⟩ (fun hHeld => ?_)
  clear hK K
  refine no_ (some 25) ?_
  refine pu_ 9 (some 26) (tf_ 10 10) HT_ ?_
  refine done_ (done_of HT_.out (by kernel_rfl)) ?_
  go_upto_if 26 with (fail)
  have H := HS_.out
  clear HS_
  by_cases c10 : t500 = true
  rotate_left
  · replace c10 := Bool.eq_false_iff.mpr c10
    subst c10
    rw [if_neg (show ¬ (false = true) by decide)] at H
    obtain rfl := Option.some.inj H
    go_wp2
    go_ret
    exact ⟨er_, pb_ HB.out⟩
  subst c10
  rw [if_pos rfl] at H
  have H' := Q_ H
  clear H
  go_wp2
  go_roundg k1
  case measure => have := HK1.out; omega
  case rel => exact ⟨(wrap64 (x5_1 + 1)), el_, H', ⟨by have := HK1.out; omega⟩, ⟨pb_ HB.out⟩⟩

end Go.Proofs.Ytldcchjbaglppaa.Print
