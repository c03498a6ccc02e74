-- Written by a program of this session (printx.py) out of the translation; Lean checks it.
import Derived.Test.YtldcchjbaglppaaPrint0
import Derived.Test.YtldcchjbaglppaaPrint8
namespace Go.Proofs.Ytldcchjbaglppaa.Print
open Go.RowKit Go.Proofs.YtldcchjbaglppaaW.PrintWords Go.Proofs.YtldcchjbaglppaaW.PrintLast Go.Proofs.YtldcchjbaglppaaW.PrintMore Go.Proofs.Ytldcchjbaglppaa.Short
attribute [local go_sem] max2_int min2_int max_two min_two max_three min_three max_four min_four   -- for this text's walks alone
set_option linter.unusedVariables false
set_option linter.unusedSimpArgs false

/-! ### impl_IsMachine: function 55 -/
mutual
def impl_IsMachine.j0 : Nat → Bool → Int → List Bool → List (S78) → Option (Bool)
  | 0, _, _, _, _ => none
  | k + 1, x24, x345000, x345001, x345002 => if x24 = true then (some false) else (impl_IsMachine.l0 k x345002 (x345002.length : Int) 0 x345000 x345001 x345002)
def impl_IsMachine.l0 : Nat → List (S78) → Int → Int → Int → List Bool → List (S78) → Option (Bool)
  | 0, _, _, _, _, _, _ => none
  | k + 1, x26, x27, x28, x345000, x345001, x345002 => if x28 < x27 then (if 0 ≤ x28 then (if x28 < (x26.length : Int) then ((impl_InRange.f ((rd_T78 x26 x28).f0) 0 (wrap64 (x345000 - 1))).bind fun t348 => (if t348 = true then ((impl_InRange.f ((rd_T78 x26 x28).f3) 0 (wrap64 (x345000 - 1))).bind fun t349 => (if t349 = true then ((impl_InRange.f ((rd_T78 x26 x28).f2) 0 5).bind fun t350 => (impl_IsMachine.j2 k x28 x26 x27 x28 (!t350) x345000 x345001 x345002 ((rd_T78 x26 x28).f0) ((rd_T78 x26 x28).f1) ((rd_T78 x26 x28).f2) ((rd_T78 x26 x28).f3))) else (impl_IsMachine.j2 k x28 x26 x27 x28 true x345000 x345001 x345002 ((rd_T78 x26 x28).f0) ((rd_T78 x26 x28).f1) ((rd_T78 x26 x28).f2) ((rd_T78 x26 x28).f3)))) else (impl_IsMachine.j2 k x28 x26 x27 x28 true x345000 x345001 x345002 ((rd_T78 x26 x28).f0) ((rd_T78 x26 x28).f1) ((rd_T78 x26 x28).f2) ((rd_T78 x26 x28).f3)))) else (none)) else (none)) else (some true)
def impl_IsMachine.j2 : Nat → Int → List (S78) → Int → Int → Bool → Int → List Bool → List (S78) → Int → Bool → Int → Int → Option (Bool)
  | 0, _, _, _, _, _, _, _, _, _, _, _, _ => none
  | k + 1, x3, x26, x27, x28, x54, x345000, x345001, x345002, x348000, x348001, x348002, x348003 => if x54 = true then (some false) else (if 0 ≤ x3 then (if x3 ≤ (x345002.length : Int) then ((some (x345002.take (x3 : Int).toNat : List (S78))).bind fun y351 => (impl_IsMachine.l1 k x26 x27 x28 y351 (y351.length : Int) 0 x345000 x345001 x345002 x348000 x348001 x348002 x348003)) else (none)) else (none))
def impl_IsMachine.l1 : Nat → List (S78) → Int → Int → List (S78) → Int → Int → Int → List Bool → List (S78) → Int → Bool → Int → Int → Option (Bool)
  | 0, _, _, _, _, _, _, _, _, _, _, _, _, _ => none
  | k + 1, x26, x27, x28, x58, x59, x60, x345000, x345001, x345002, x348000, x348001, x348002, x348003 => if x60 < x59 then (if 0 ≤ x60 then (if x60 < (x58.length : Int) then (if ((rd_T78 x58 x60).f0) = x348000 then (if (((rd_T78 x58 x60).f1) != x348001) = true then (some false) else (if ((rd_T78 x58 x60).f2) = x348002 then (some false) else (impl_IsMachine.l1 k x26 x27 x28 x58 x59 (wrap64 (x60 + 1)) x345000 x345001 x345002 x348000 x348001 x348002 x348003))) else (impl_IsMachine.l1 k x26 x27 x28 x58 x59 (wrap64 (x60 + 1)) x345000 x345001 x345002 x348000 x348001 x348002 x348003)) else (none)) else (none)) else (impl_IsMachine.l0 k x26 x27 (wrap64 (x28 + 1)) x345000 x345001 x345002)
end
def impl_IsMachine.f (k : Nat) (a0_0 : Int) (l0_1 : List Bool) (l0_2 : List (S78)) : Option (Bool) := (impl_InRange.f a0_0 1 6).bind fun t345 => (if t345 = true then (if (l0_1.length : Int) = a0_0 then (impl_IsMachine.j0 k (decide ((l0_2.length : Int) > 12)) a0_0 l0_1 l0_2) else (impl_IsMachine.j0 k true a0_0 l0_1 l0_2)) else (impl_IsMachine.j0 k true a0_0 l0_1 l0_2))
theorem impl_IsMachine.mono_l : ∀ k, (∀ y0 y1 y2 y3, LeO (impl_IsMachine.j0 k y0 y1 y2 y3) (impl_IsMachine.j0 (k + 1) y0 y1 y2 y3)) ∧ (∀ y0 y1 y2 y3 y4 y5, LeO (impl_IsMachine.l0 k y0 y1 y2 y3 y4 y5) (impl_IsMachine.l0 (k + 1) y0 y1 y2 y3 y4 y5)) ∧ (∀ y0 y1 y2 y3 y4 y5 y6 y7 y8 y9 y10 y11, LeO (impl_IsMachine.j2 k y0 y1 y2 y3 y4 y5 y6 y7 y8 y9 y10 y11) (impl_IsMachine.j2 (k + 1) y0 y1 y2 y3 y4 y5 y6 y7 y8 y9 y10 y11)) ∧ (∀ y0 y1 y2 y3 y4 y5 y6 y7 y8 y9 y10 y11 y12, LeO (impl_IsMachine.l1 k y0 y1 y2 y3 y4 y5 y6 y7 y8 y9 y10 y11 y12) (impl_IsMachine.l1 (k + 1) y0 y1 y2 y3 y4 y5 y6 y7 y8 y9 y10 y11 y12))
  | 0 => ⟨fun _ _ _ _ r h => by simp [impl_IsMachine.j0] at h, fun _ _ _ _ _ _ r h => by simp [impl_IsMachine.l0] at h, fun _ _ _ _ _ _ _ _ _ _ _ _ r h => by simp [impl_IsMachine.j2] at h, fun _ _ _ _ _ _ _ _ _ _ _ _ _ r h => by simp [impl_IsMachine.l1] at h⟩
  | k + 1 => by
    obtain ⟨ih0, ih1, ih2, ih3⟩ := impl_IsMachine.mono_l k
    refine ⟨?_, ?_, ?_, ?_⟩
    · intro y0 y1 y2 y3
      unfold impl_IsMachine.j0
      exact mo4_ ih0 ih1 ih2 ih3
    · intro y0 y1 y2 y3 y4 y5
      unfold impl_IsMachine.l0
      exact mo4_ ih0 ih1 ih2 ih3
    · intro y0 y1 y2 y3 y4 y5 y6 y7 y8 y9 y10 y11
      unfold impl_IsMachine.j2
      exact mo4_ ih0 ih1 ih2 ih3
    · intro y0 y1 y2 y3 y4 y5 y6 y7 y8 y9 y10 y11 y12
      unfold impl_IsMachine.l1
      exact mo4_ ih0 ih1 ih2 ih3
theorem impl_IsMachine.mono : ∀ a0 a1 a2 k, LeO (impl_IsMachine.f k a0 a1 a2) (impl_IsMachine.f (k + 1) a0 a1 a2) := by
  intro a0 a1 a2 k
  obtain ⟨ih0, ih1, ih2, ih3⟩ := impl_IsMachine.mono_l k
  unfold impl_IsMachine.f
  exact mo4_ ih0 ih1 ih2 ih3
set_option maxHeartbeats 8000000 in
set_option maxRecDepth 100000 in
theorem impl_IsMachine.calls (k : Nat) (a0_0 : Int) (A0_1 : Option Addr) (c0_1 : Nat) (l0_1 : List Bool) (A0_2 : Option Addr) (c0_2 : Nat) (l0_2 : List (S78)) (r : Bool) (w : World) (hr0_1 : Kd.C Kd.bool w A0_1 l0_1.length l0_1) (hc0_1 : l0_1.length ≤ c0_1) (hr0_2 : Kd.C k78 w A0_2 l0_2.length l0_2) (hc0_2 : l0_2.length ≤ c0_2) (h : impl_IsMachine.f k a0_0 l0_1 l0_2 = some r) :
    Calls Try.prog 55 #[.agg #[.int .i64 a0_0, .slice A0_1 l0_1.length c0_1, .slice A0_2 l0_2.length c0_2]] w fun e w' => e = .returned (.bool r) ∧ Below w.heap.size w w' := by
  have hu34 := Try.underlying34
  have hu78 := Try.underlying78
  have HR0_1 := Q_ hr0_1
  have HC0_1 := Q_ hc0_1
  clear hr0_1 hc0_1
  have HR0_2 := Q_ hr0_2
  have HC0_2 := Q_ hc0_2
  clear hr0_2 hc0_2
  have HB := Q_ (Below.refl w.heap.size w)
  have H : ((impl_InRange.f a0_0 1 6).bind fun t345 => (if t345 = true then (if (l0_1.length : Int) = a0_0 then (impl_IsMachine.j0 k (decide ((l0_2.length : Int) > 12)) a0_0 l0_1 l0_2) else (impl_IsMachine.j0 k true a0_0 l0_1 l0_2)) else (impl_IsMachine.j0 k true a0_0 l0_1 l0_2))) = some r := h
  clear h
  have HC2 := Q_ H
  clear H
  go_enter Try.func55, Try.ntmps55
  go_upto_region 1 with (first | ((with_reducible refine gate_dst (N := 1) rfl ?_); (try (refine gate_guard (by rfl) ?_; dsimp only)); refine box_event ?hg (N := 1) ?hd (cs := #[.int .i64 a0_0, .slice A0_1 l0_1.length c0_1, .slice A0_2 l0_2.length c0_2]) (t := 34) ?hr ?_; (case hd => rfl); (case hg => rfl); (case hr => first | (go_simp; done) | (go_simp; rfl)); intro gb344 hg w3 hbox hb; have n0_ := Q_ (below_step (pb_ HB.out) hb); have n1_ := Q_ (hbox); have n2_ := Q_ ((by rw [hg]; exact (below_size (pb_ HB.out)) : w.heap.size ≤ gb344)); have n3_ := n2_; clear HB; have HB := n0_; have BK344 := n1_; have GW344 := n2_; have GE344 := n3_; clear n0_ n1_ n2_ n3_; clear hb hbox hg))
  (try simp only [Act.put, List.setIfInBounds_toArray, List.set_cons_zero, List.set_cons_succ])
  go_cut [24] (fun v24 wc => ∃ (kq : Nat) (x24_1 : Bool), v24 = .bool x24_1 ∧ Aside0 (impl_IsMachine.j0 kq x24_1 a0_0 l0_1 l0_2 = some r) ∧ Aside0 (kq ≤ k) ∧ Aside0 (wc.heap[gb344]? = some (.cells #[.int .i64 a0_0, (.slice A0_1 l0_1.length c0_1), (.slice A0_2 l0_2.length c0_2)] 34 (0, 0))) ∧ Aside0 (Below w.heap.size w wc))
  case first =>
    have H := HC2.out
    clear HC2
    replace H := Option.bind_eq_some_iff.mp H
    obtain ⟨t345, A40, H⟩ := H
    (try dsimp only at H)
    have A4 := Q_ A40
    clear A40
    by_cases c5 : t345 = true
    rotate_left
    · replace c5 := Bool.eq_false_iff.mpr c5
      subst c5
      rw [if_neg (show ¬ (false = true) by decide)] at H
      have H' := Q_ H
      clear H
      have hcz6 := bc3_ BK344.out
      go_wp2_with (first | ((with_reducible refine gate_callee (f := 47) rfl ?_); refine gl_ (some 9) Try.func47 #[.int .i64 a0_0, .int .i64 1, .int .i64 6] ?_; (with_reducible refine (impl_InRange.calls a0_0 1 6 false _ A4.out).mono ?_); rintro e w' ⟨rfl, ⟨nd, rfl⟩⟩; refine ⟨_, rfl, ?_⟩))
      go_meet
      case rel => exact ⟨_, (true), el_, H', ⟨by first | omega | exact Nat.le_refl _⟩, ⟨pk_ BK344.out⟩, ⟨pb1_ HB.out GE344.out⟩⟩
    subst c5
    rw [if_pos rfl] at H
    by_cases c7 : (l0_1.length : Int) = a0_0
    rotate_left
    · rw [if_neg c7] at H
      have c7b0 : ((l0_1.length : Int) == a0_0) = false := beq_eq_false_iff_ne.mpr c7
      have c7b1 : ((l0_1.length : Int) != a0_0) = true := bne_iff_ne.mpr c7
      (first | rw [c7b0] | (simp only [i64_w, i32_w]; rw [c7b0]) | rw [c7b1] | (have c_ := c7b1; rw [bne] at c_; rw [c_]; clear c_) | skip)
      have H' := Q_ H
      clear H
      have hcz8 := bc3_ BK344.out
      go_wp2_with (first | ((with_reducible refine gate_callee (f := 47) rfl ?_); refine gl_ (some 9) Try.func47 #[.int .i64 a0_0, .int .i64 1, .int .i64 6] ?_; (with_reducible refine (impl_InRange.calls a0_0 1 6 true _ A4.out).mono ?_); rintro e w' ⟨rfl, ⟨nd, rfl⟩⟩; refine ⟨_, rfl, ?_⟩))
      go_meet
      case rel => exact ⟨_, (true), el_, H', ⟨by first | omega | exact Nat.le_refl _⟩, ⟨pk_ BK344.out⟩, ⟨pb1_ HB.out GE344.out⟩⟩
    rw [if_pos c7] at H
    have c7b0 : ((l0_1.length : Int) == a0_0) = true := beq_iff_eq.mpr c7
    have c7b1 : ((l0_1.length : Int) != a0_0) = false := bne_eq_false_iff_eq.mpr c7
    clear c7
    (first | rw [c7b0] | (simp only [i64_w, i32_w]; rw [c7b0]) | rw [c7b1] | (have c_ := c7b1; rw [bne] at c_; rw [c_]; clear c_) | skip)
    have H' := Q_ H
    clear H
    have hcz9 := bc3_ BK344.out
    go_wp2_with (first | ((with_reducible refine gate_callee (f := 47) rfl ?_); refine gl_ (some 9) Try.func47 #[.int .i64 a0_0, .int .i64 1, .int .i64 6] ?_; (with_reducible refine (impl_InRange.calls a0_0 1 6 true _ A4.out).mono ?_); rintro e w' ⟨rfl, ⟨nd, rfl⟩⟩; refine ⟨_, rfl, ?_⟩))
    go_meet
    case rel => exact ⟨_, (decide ((l0_2.length : Int) > 12)), el_, H', ⟨by first | omega | exact Nat.le_refl _⟩, ⟨pk_ BK344.out⟩, ⟨pb1_ HB.out GE344.out⟩⟩
  clear HC2
  try clear p2
  try clear c4
  try clear c5
  try clear c7
  try clear c7b0
  try clear c7b1
  try clear hcz6
  try clear hcz8
  try clear hcz9
  obtain ⟨kq, x24_1, rfl, HA, HJ1, BK344, HB⟩ := hcut
  rcases kq with _ | kj1
  · exact absurd HA.out (by simp [impl_IsMachine.j0])
  have H := HA.out
  clear HA
  simp only [impl_IsMachine.j0] at H
  by_cases c10 : x24_1 = true
  · subst c10
    rw [if_pos rfl] at H
    obtain rfl := Option.some.inj H
    go_wp2
    go_ret
    exact ⟨er_, pb1_ HB.out GE344.out⟩
  replace c10 := Bool.eq_false_iff.mpr c10
  subst c10
  rw [if_neg (show ¬ (false = true) by decide)] at H
  have H' := Q_ H
  clear H
  have hcz11 := bc3_ BK344.out
  go_wp2
  go_loopg [28] kj1 (fun kq v28 w' => ∃ (x28_2 : Int), v28 = .int .i64 x28_2 ∧ Aside0 (impl_IsMachine.l0 kq l0_2 (l0_2.length : Int) x28_2 a0_0 l0_1 l0_2 = some r) ∧ Aside0 (kq ≤ kj1) ∧ Aside0 (w'.heap[gb344]? = some (.cells #[.int .i64 a0_0, (.slice A0_1 l0_1.length c0_1), (.slice A0_2 l0_2.length c0_2)] 34 (0, 0))) ∧ Aside0 (Below w.heap.size w w'))
  case atStart => exact ⟨(0), el_, H', ⟨Nat.le_refl _⟩, ⟨pk_ BK344.out⟩, ⟨pb1_ HB.out GE344.out⟩⟩
  clear H'
  try clear c1
  try clear p2
  try clear c4
  try clear c5
  try clear c7
  try clear c7b0
  try clear c7b1
  try clear c10
  try clear hcz11
  try clear p2
  obtain ⟨x28_2, rfl, HA, HK2, BK344, HB⟩ := hrel
  rcases gk with _ | k2
  · exact absurd HA.out (by simp [impl_IsMachine.l0])
  have H := HA.out
  clear HA
  simp only [impl_IsMachine.l0] at H
  by_cases c12 : x28_2 < (l0_2.length : Int)
  rotate_left
  · rw [if_neg c12] at H
    have c12b0 : decide (x28_2 < (l0_2.length : Int)) = false := decide_eq_false c12
    clear c12
    obtain rfl := Option.some.inj H
    go_wp2
    go_ret
    exact ⟨er_, pb1_ HB.out GE344.out⟩
  rw [if_pos c12] at H
  have c12b0 : decide (x28_2 < (l0_2.length : Int)) = true := decide_eq_true c12
  clear c12
  by_cases c13 : 0 ≤ x28_2
  rotate_left
  · rw [if_neg c13] at H
    exact absurd H (by simp)
  rw [if_pos c13] at H
  have c13b0 : decide (0 ≤ x28_2) = true := decide_eq_true c13
  clear c13
  by_cases c14 : x28_2 < (l0_2.length : Int)
  rotate_left
  · rw [if_neg c14] at H
    exact absurd H (by simp)
  rw [if_pos c14] at H
  have c14b0 : decide (x28_2 < (l0_2.length : Int)) = true := decide_eq_true c14
  clear c14
  have HC15 := Q_ H
  clear H
  have p346 : 0 ≤ (x28_2 : Int) := dt_
  have q346 : x28_2 < (l0_2.length : Int) := dt_
  obtain ⟨ad346, e346, hx346_0, hx346_1, hx346_2, hx346_3⟩ := at_T78 HR0_2.out x28_2 p346 q346
  cases e346
  replace hx346_0 := bt_ HB hx346_0
  replace hx346_1 := bt_ HB hx346_1
  replace hx346_2 := bt_ HB hx346_2
  replace hx346_3 := bt_ HB hx346_3
  replace p346 := eq_true p346
  replace q346 := eq_true q346
  go_upto_region 6 with (first | ((with_reducible refine gate_dst (N := 4) rfl ?_); (try (refine gate_guard (by rfl) ?_; dsimp only)); refine box_event ?hg (N := 4) ?hd (cs := #[.int .i64 0, .bool false, .int .i64 0, .int .i64 0]) (t := 78) ?hr ?_; (case hd => rfl); (case hg => rfl); (case hr => first | (go_simp; done) | (go_simp; rfl)); intro gb347 hg w16 hbox hb; have n0_ := Q_ (bb_ BK344.out hb); have n1_ := Q_ (below_step (pb1_ HB.out GE344.out) hb); have n2_ := Q_ (hbox); have n3_ := Q_ ((by rw [hg]; exact (below_size (pb1_ HB.out GE344.out)) : w.heap.size ≤ gb347)); have n4_ := n3_; have n5_ := Q_ ((by rw [hg]; exact Nat.ne_of_lt (blk_lt (pk_ BK344.out)) : gb344 ≠ gb347)); have n6_ := Q_ ((by rw [hg]; exact Nat.ne_of_gt (blk_lt (pk_ BK344.out)) : gb347 ≠ gb344)); clear BK344; clear HB; have BK344 := n0_; have HB := n1_; have BK347 := n2_; have GW347 := n3_; have GE347 := n4_; have NB344_347 := n5_; have NB347_344 := n6_; clear n0_ n1_ n2_ n3_ n4_ n5_ n6_; clear hb hbox hg; have hnb17 := NB347_344.out; have hnc17 := NB344_347.out; have hcz18 := bc4_ BK347.out))
  (try simp only [Act.put, List.setIfInBounds_toArray, List.set_cons_zero, List.set_cons_succ])
  go_cut [54] (fun v54 wc => ∃ (kq : Nat) (x54_14 : Bool), v54 = .bool x54_14 ∧ Aside0 (impl_IsMachine.j2 kq x28_2 l0_2 (l0_2.length : Int) x28_2 x54_14 a0_0 l0_1 l0_2 ((rd_T78 l0_2 x28_2).f0) ((rd_T78 l0_2 x28_2).f1) ((rd_T78 l0_2 x28_2).f2) ((rd_T78 l0_2 x28_2).f3) = some r) ∧ Aside0 (kq ≤ k2) ∧ Aside0 (wc.heap[gb344]? = some (.cells #[.int .i64 a0_0, (.slice A0_1 l0_1.length c0_1), (.slice (some ad346) l0_2.length c0_2)] 34 (0, 0))) ∧ Aside0 (wc.heap[gb347]? = some (.cells #[.int .i64 ((rd_T78 l0_2 x28_2).f0), .bool ((rd_T78 l0_2 x28_2).f1), .int .i64 ((rd_T78 l0_2 x28_2).f2), .int .i64 ((rd_T78 l0_2 x28_2).f3)] 78 (0, 0))) ∧ Aside0 (Below w.heap.size w wc))
  case first =>
    have H := HC15.out
    clear HC15
    replace H := Option.bind_eq_some_iff.mp H
    obtain ⟨t348, A190, H⟩ := H
    (try dsimp only at H)
    have A19 := Q_ A190
    clear A190
    by_cases c20 : t348 = true
    rotate_left
    · replace c20 := Bool.eq_false_iff.mpr c20
      subst c20
      rw [if_neg (show ¬ (false = true) by decide)] at H
      have H' := Q_ H
      clear H
      have hnb21 := NB347_344.out
      have hnc21 := NB344_347.out
      have hcz22 := bc4_ BK347.out
      have hcz23 := bc3_ BK344.out
      go_wp2_with (first | ((with_reducible refine gate_callee (f := 47) rfl ?_); refine gl_ (some 38) Try.func47 #[.int .i64 ((rd_T78 l0_2 x28_2).f0), .int .i64 0, .int .i64 (wrap64 (a0_0 - 1))] ?_; (with_reducible refine (impl_InRange.calls ((rd_T78 l0_2 x28_2).f0) 0 (wrap64 (a0_0 - 1)) false _ A19.out).mono ?_); rintro e w' ⟨rfl, ⟨nd, rfl⟩⟩; refine ⟨_, rfl, ?_⟩))
      go_meet
      case rel => exact ⟨_, (true), el_, H', ⟨by have := HJ1.out; have := HK2.out; first | omega | exact Nat.le_refl _⟩, ⟨pp_ BK344.out⟩, ⟨pp_ BK347.out⟩, ⟨pb2_ HB.out GE344.out GE347.out⟩⟩
    subst c20
    rw [if_pos rfl] at H
    replace H := Option.bind_eq_some_iff.mp H
    obtain ⟨t349, A240, H⟩ := H
    (try dsimp only at H)
    have A24 := Q_ A240
    clear A240
    by_cases c25 : t349 = true
    rotate_left
    · replace c25 := Bool.eq_false_iff.mpr c25
      subst c25
      rw [if_neg (show ¬ (false = true) by decide)] at H
      have H' := Q_ H
      clear H
      have hnb26 := NB347_344.out
      have hnc26 := NB344_347.out
      have hcz27 := bc4_ BK347.out
      have hcz28 := bc3_ BK344.out
      go_wp2_with (first | ((with_reducible refine gate_callee (f := 47) rfl ?_); refine gl_ (some 38) Try.func47 #[.int .i64 ((rd_T78 l0_2 x28_2).f0), .int .i64 0, .int .i64 (wrap64 (a0_0 - 1))] ?_; (with_reducible refine (impl_InRange.calls ((rd_T78 l0_2 x28_2).f0) 0 (wrap64 (a0_0 - 1)) true _ A19.out).mono ?_); rintro e w' ⟨rfl, ⟨nd, rfl⟩⟩; refine ⟨_, rfl, ?_⟩) | (go_at_call 47; (with_reducible refine (impl_InRange.calls ((rd_T78 l0_2 x28_2).f3) 0 (wrap64 (a0_0 - 1)) false _ A24.out).mono ?_); rintro e w' ⟨rfl, ⟨nd, rfl⟩⟩))
      go_meet
      case rel => exact ⟨_, (true), el_, H', ⟨by have := HJ1.out; have := HK2.out; first | omega | exact Nat.le_refl _⟩, ⟨pp_ BK344.out⟩, ⟨pp_ BK347.out⟩, ⟨pb2_ HB.out GE344.out GE347.out⟩⟩
    subst c25
    rw [if_pos rfl] at H
    replace H := Option.bind_eq_some_iff.mp H
    obtain ⟨t350, A290, H⟩ := H
    (try dsimp only at H)
    have A29 := Q_ A290
    clear A290
    have H' := Q_ H
    clear H
    have hnb30 := NB347_344.out
    have hnc30 := NB344_347.out
    have hcz31 := bc4_ BK347.out
    have hcz32 := bc3_ BK344.out
    go_wp2_with (first | ((with_reducible refine gate_callee (f := 47) rfl ?_); refine gl_ (some 38) Try.func47 #[.int .i64 ((rd_T78 l0_2 x28_2).f0), .int .i64 0, .int .i64 (wrap64 (a0_0 - 1))] ?_; (with_reducible refine (impl_InRange.calls ((rd_T78 l0_2 x28_2).f0) 0 (wrap64 (a0_0 - 1)) true _ A19.out).mono ?_); rintro e w' ⟨rfl, ⟨nd, rfl⟩⟩; refine ⟨_, rfl, ?_⟩) | (go_at_call 47; (with_reducible refine (impl_InRange.calls ((rd_T78 l0_2 x28_2).f3) 0 (wrap64 (a0_0 - 1)) true _ A24.out).mono ?_); rintro e w' ⟨rfl, ⟨nd, rfl⟩⟩) | (go_at_call 47; (with_reducible refine (impl_InRange.calls ((rd_T78 l0_2 x28_2).f2) 0 5 t350 _ A29.out).mono ?_); rintro e w' ⟨rfl, ⟨nd, rfl⟩⟩))
    go_meet
    case rel => exact ⟨_, (!t350), el_, H', ⟨by have := HJ1.out; have := HK2.out; first | omega | exact Nat.le_refl _⟩, ⟨pp_ BK344.out⟩, ⟨pp_ BK347.out⟩, ⟨pb2_ HB.out GE344.out GE347.out⟩⟩
  clear HC15
  try clear c1
  try clear c2
  try clear p2
  try clear c3
  try clear p3
  try clear q3
  try clear hx3
  try clear c4
  try clear c5
  try clear p6
  try clear c7
  try clear c7b0
  try clear c7b1
  try clear c10
  try clear c12
  try clear c12b0
  try clear c13
  try clear c13b0
  try clear c14
  try clear c14b0
  try clear c17
  try clear c20
  try clear c21
  try clear c25
  try clear c26
  try clear c30
  try clear hcz18
  try clear hcz22
  try clear hcz23
  try clear hcz27
  try clear hcz28
  try clear hcz31
  try clear hcz32
  try clear hx346_0
  try clear hx346_1
  try clear hx346_2
  try clear hx346_3
  try clear p2
  try clear p346
  try clear q346
  obtain ⟨kq, x54_14, rfl, HA, HJ14, BK344, BK347, HB⟩ := hcut
  rcases kq with _ | kj14
  · exact absurd HA.out (by simp [impl_IsMachine.j2])
  have H := HA.out
  clear HA
  simp only [impl_IsMachine.j2] at H
  by_cases c33 : x54_14 = true
  · subst c33
    rw [if_pos rfl] at H
    obtain rfl := Option.some.inj H
    go_wp2
    go_ret
    exact ⟨er_, pb2_ HB.out GE344.out GE347.out⟩
  replace c33 := Bool.eq_false_iff.mpr c33
  subst c33
  rw [if_neg (show ¬ (false = true) by decide)] at H
  by_cases c34 : 0 ≤ x28_2
  rotate_left
  · rw [if_neg c34] at H
    exact absurd H (by simp)
  rw [if_pos c34] at H
  have c34b0 := eq_true c34
  have c34b1 : decide (0 ≤ x28_2) = true := decide_eq_true c34
  clear c34
  by_cases c35 : x28_2 ≤ (l0_2.length : Int)
  rotate_left
  · rw [if_neg c35] at H
    exact absurd H (by simp)
  rw [if_pos c35] at H
  have c35b0 := eq_true c35
  have c35b1 : decide (x28_2 ≤ (l0_2.length : Int)) = true := decide_eq_true c35
  clear c35
  obtain ⟨y351, hy351⟩ : ∃ y_ : List (S78), y_ = (l0_2.take (x28_2 : Int).toNat) := ⟨_, rfl⟩
  replace H : (impl_IsMachine.l1 kj14 l0_2 (l0_2.length : Int) x28_2 y351 (y351.length : Int) 0 a0_0 l0_1 l0_2 ((rd_T78 l0_2 x28_2).f0) ((rd_T78 l0_2 x28_2).f1) ((rd_T78 l0_2 x28_2).f2) ((rd_T78 l0_2 x28_2).f3)) = some r := by first | (rw [hy351]; with_reducible exact H) | (have H2_ := (Option.bind_some _ _).symm.trans H; rw [hy351]; with_reducible exact H2_) | (have H2_ := (Option.bind_some _ _).symm.trans H; with_reducible exact H2_) | with_reducible exact H | (rw [hy351]; exact H) | exact H
  have Ny351 := Q_ hy351
  clear hy351
  have H' := Q_ H
  clear H
  have hnb36 := NB344_347.out
  have hnc36 := NB347_344.out
  have hcz37 := bc3_ BK344.out
  have q38 : (x28_2 : Int) ≤ ((l0_2.length : Int) : Int) := dt_
  obtain ⟨i038, hi038, _, hsz38, _⟩ := info_parts info78
  have hroom38 : l0_2.length ≤ c0_2 := HC0_2.out
  have hC38 : Kd.C k78 _ (some ad346) l0_2.length l0_2 := HR0_2.out
  have hcut38 := cut_to (P := Try.prog) 32 78 .i64 Try.underlying32 hi038 (some ad346) l0_2.length c0_2 x28_2 dt_ q38 hroom38
  have hr38 := Kd.C_take (m := (x28_2 : Int).toNat) hC38 (by omega)
  have hy38 : y351.length = (x28_2 : Int).toNat := (by rw [Ny351.out, List.length_take]; omega)
  rw [← Ny351.out] at hr38
  rw [← hy38] at hcut38
  have HR354 := Q_ hr38
  have HC354 := Q_ (show y351.length ≤ c0_2 from by omega)
  clear hr38 hC38 hroom38 hi038 hsz38
  have KY38 := Q_ hy38
  clear hy38
  replace q38 := eq_true q38
  go_wp2
  go_loopg [60] kj14 (fun kq v60 w' => ∃ (x60_4 : Int), v60 = .int .i64 x60_4 ∧ Aside0 (impl_IsMachine.l1 kq l0_2 (l0_2.length : Int) x28_2 y351 (y351.length : Int) x60_4 a0_0 l0_1 l0_2 ((rd_T78 l0_2 x28_2).f0) ((rd_T78 l0_2 x28_2).f1) ((rd_T78 l0_2 x28_2).f2) ((rd_T78 l0_2 x28_2).f3) = some r) ∧ Aside0 (kq ≤ kj14) ∧ Aside0 (w'.heap[gb344]? = some (.cells #[.int .i64 a0_0, (.slice A0_1 l0_1.length c0_1), (.slice (some ad346) l0_2.length c0_2)] 34 (0, 0))) ∧ Aside0 (w'.heap[gb347]? = some (.cells #[.int .i64 ((rd_T78 l0_2 x28_2).f0), .bool ((rd_T78 l0_2 x28_2).f1), .int .i64 ((rd_T78 l0_2 x28_2).f2), .int .i64 ((rd_T78 l0_2 x28_2).f3)] 78 (0, 0))) ∧ Aside0 (Below w.heap.size w w'))
  case atStart => exact ⟨(0), el_, H', ⟨Nat.le_refl _⟩, ⟨pk_ BK344.out⟩, ⟨pk_ BK347.out⟩, ⟨pb2_ HB.out GE344.out GE347.out⟩⟩
  clear H'
  try clear c1
  try clear c2
  try clear p2
  try clear c3
  try clear p3
  try clear q3
  try clear hx3
  try clear c4
  try clear c5
  try clear p6
  try clear c7
  try clear c7b0
  try clear c7b1
  try clear c10
  try clear c12
  try clear c12b0
  try clear c13
  try clear c13b0
  try clear c14
  try clear c14b0
  try clear c17
  try clear c20
  try clear c21
  try clear c25
  try clear c26
  try clear c30
  try clear c33
  try clear c34
  try clear c34b0
  try clear c34b1
  try clear p34
  try clear q34
  try clear hx34
  try clear c35
  try clear c35b0
  try clear c35b1
  try clear c36
  try clear q38
  try clear hcz37
  try clear hx346_0
  try clear hx346_1
  try clear hx346_2
  try clear hx346_3
  try clear p2
  try clear p3
  try clear p346
  try clear p6
  try clear q3
  try clear q346
  try clear q38
  obtain ⟨x60_4, rfl, HA, HK4, BK344, BK347, HB⟩ := hrel
  rcases gk with _ | k4
  · exact absurd HA.out (by simp [impl_IsMachine.l1])
  have H := HA.out
  clear HA
  simp only [impl_IsMachine.l1] at H
  by_cases c39 : x60_4 < (y351.length : Int)
  rotate_left
  · rw [if_neg c39] at H
    have c39b0 : decide (x60_4 < (y351.length : Int)) = false := decide_eq_false c39
    clear c39
    have H' := Q_ H
    clear H
    go_wp2
    go_roundg k4
    case measure => have := HJ1.out; have := HK2.out; have := HJ14.out; have := HK4.out; omega
    case rel => exact ⟨(wrap64 (x28_2 + 1)), el_, H', ⟨by have := HJ1.out; have := HK2.out; have := HJ14.out; have := HK4.out; omega⟩, ⟨pk_ BK344.out⟩, ⟨pb2_ HB.out GE344.out GE347.out⟩⟩
  rw [if_pos c39] at H
  have c39b0 : decide (x60_4 < (y351.length : Int)) = true := decide_eq_true c39
  clear c39
  by_cases c40 : 0 ≤ x60_4
  rotate_left
  · rw [if_neg c40] at H
    exact absurd H (by simp)
  rw [if_pos c40] at H
  have c40b0 : decide (0 ≤ x60_4) = true := decide_eq_true c40
  clear c40
  by_cases c41 : x60_4 < (y351.length : Int)
  rotate_left
  · rw [if_neg c41] at H
    exact absurd H (by simp)
  rw [if_pos c41] at H
  have c41b0 : decide (x60_4 < (y351.length : Int)) = true := decide_eq_true c41
  clear c41
  have HS_ := Q_ H
  clear H
  have p355 : 0 ≤ (x60_4 : Int) := dt_
  have q355 : x60_4 < (y351.length : Int) := dt_
  obtain ⟨ad355, e355, hx355_0, hx355_1, hx355_2, hx355_3⟩ := at_T78 HR354.out x60_4 p355 q355
  obtain rfl : ad346 = ad355 := (by injection e355)
  replace hx355_0 := bt_ HB hx355_0
  replace hx355_1 := bt_ HB hx355_1
  replace hx355_2 := bt_ HB hx355_2
  replace hx355_3 := bt_ HB hx355_3
  replace p355 := eq_true p355
  replace q355 := eq_true q355
  go_upto_region 11 with (first | ((with_reducible refine gate_dst (N := 6) rfl ?_); (try (refine gate_guard (by rfl) ?_; dsimp only)); refine box_event ?hg (N := 6) ?hd (cs := #[.int .i64 0, .bool false, .int .i64 0, .int .i64 0]) (t := 78) ?hr ?_; (case hd => rfl); (case hg => rfl); (case hr => first | (go_simp; done) | (go_simp; rfl)); intro gb356 hg w42 hbox hb; have n0_ := Q_ (bb_ BK344.out hb); have n1_ := Q_ (bb_ BK347.out hb); have n2_ := Q_ (below_step (pb2_ HB.out GE344.out GE347.out) hb); have n3_ := Q_ (hbox); have n4_ := Q_ ((by rw [hg]; exact (below_size (pb2_ HB.out GE344.out GE347.out)) : w.heap.size ≤ gb356)); have n5_ := n4_; have n6_ := Q_ ((by rw [hg]; exact Nat.ne_of_lt (blk_lt (pk_ BK344.out)) : gb344 ≠ gb356)); have n7_ := Q_ ((by rw [hg]; exact Nat.ne_of_gt (blk_lt (pk_ BK344.out)) : gb356 ≠ gb344)); have n8_ := Q_ ((by rw [hg]; exact Nat.ne_of_lt (blk_lt (pk_ BK347.out)) : gb347 ≠ gb356)); have n9_ := Q_ ((by rw [hg]; exact Nat.ne_of_gt (blk_lt (pk_ BK347.out)) : gb356 ≠ gb347)); clear BK344; clear BK347; clear HB; have BK344 := n0_; have BK347 := n1_; have HB := n2_; have BK356 := n3_; have GW356 := n4_; have GE356 := n5_; have NB344_356 := n6_; have NB356_344 := n7_; have NB347_356 := n8_; have NB356_347 := n9_; clear n0_ n1_ n2_ n3_ n4_ n5_ n6_ n7_ n8_ n9_; clear hb hbox hg; have hnb43 := NB356_344.out; have hnc43 := NB344_356.out; have hnb44 := NB356_347.out; have hnc44 := NB347_356.out; have hcz45 := bc4_ BK356.out))
  (try simp only [Act.put, List.setIfInBounds_toArray, List.set_cons_zero, List.set_cons_succ])
  have H := HS_.out
  clear HS_
  by_cases c46 : ((rd_T78 y351 x60_4).f0) = ((rd_T78 l0_2 x28_2).f0)
  rotate_left
  · rw [if_neg c46] at H
    have c46b0 : (((rd_T78 y351 x60_4).f0) == ((rd_T78 l0_2 x28_2).f0)) = false := beq_eq_false_iff_ne.mpr c46
    have c46b1 : (((rd_T78 y351 x60_4).f0) != ((rd_T78 l0_2 x28_2).f0)) = true := bne_iff_ne.mpr c46
    (first | rw [c46b0] | (simp only [i64_w, i32_w]; rw [c46b0]) | rw [c46b1] | (have c_ := c46b1; rw [bne] at c_; rw [c_]; clear c_) | skip)
    have H' := Q_ H
    clear H
    have hnb47 := NB356_344.out
    have hnc47 := NB344_356.out
    have hnb48 := NB356_347.out
    have hnc48 := NB347_356.out
    have hcz49 := bc4_ BK356.out
    have hnb50 := NB347_344.out
    have hnc50 := NB344_347.out
    have hcz51 := bc4_ BK347.out
    go_wp2
    go_roundg k4
    case measure => have := HJ1.out; have := HK2.out; have := HJ14.out; have := HK4.out; omega
    case rel => exact ⟨(wrap64 (x60_4 + 1)), el_, H', ⟨by have := HJ1.out; have := HK2.out; have := HJ14.out; have := HK4.out; omega⟩, ⟨pp_ BK344.out⟩, ⟨pp_ BK347.out⟩, ⟨pb3_ HB.out GE344.out GE347.out GE356.out⟩⟩
  rw [if_pos c46] at H
  have c46b0 : (((rd_T78 y351 x60_4).f0) == ((rd_T78 l0_2 x28_2).f0)) = true := beq_iff_eq.mpr c46
  have c46b1 : (((rd_T78 y351 x60_4).f0) != ((rd_T78 l0_2 x28_2).f0)) = false := bne_eq_false_iff_eq.mpr c46
  clear c46
  (first | rw [c46b0] | (simp only [i64_w, i32_w]; rw [c46b0]) | rw [c46b1] | (have c_ := c46b1; rw [bne] at c_; rw [c_]; clear c_) | skip)
  by_cases c52 : (((rd_T78 y351 x60_4).f1) != ((rd_T78 l0_2 x28_2).f1)) = true
  · rw [if_pos c52] at H
    have c52b0 : (((rd_T78 y351 x60_4).f1) != ((rd_T78 l0_2 x28_2).f1)) = true := c52
    (try (have c52b1 : decide (((rd_T78 y351 x60_4).f1) = ((rd_T78 l0_2 x28_2).f1)) = false := by simpa using c52))
    (try (have c52b2 : (((rd_T78 y351 x60_4).f1) == ((rd_T78 l0_2 x28_2).f1)) = false := by simpa using c52))
    (try (have c52b3 : ¬ (((rd_T78 y351 x60_4).f1) = ((rd_T78 l0_2 x28_2).f1)) := by simpa using c52))
    clear c52
    obtain rfl := Option.some.inj H
    have hnb53 := NB356_344.out
    have hnc53 := NB344_356.out
    have hnb54 := NB356_347.out
    have hnc54 := NB347_356.out
    have hcz55 := bc4_ BK356.out
    have hnb56 := NB347_344.out
    have hnc56 := NB344_347.out
    have hcz57 := bc4_ BK347.out
    go_wp2
    go_ret
    exact ⟨er_, pb3_ HB.out GE344.out GE347.out GE356.out⟩
  rw [if_neg c52] at H
  have c52b0 : (((rd_T78 y351 x60_4).f1) != ((rd_T78 l0_2 x28_2).f1)) = false := by simpa using c52
  (try (have c52b1 : decide (((rd_T78 y351 x60_4).f1) = ((rd_T78 l0_2 x28_2).f1)) = true := by simpa using c52))
  (try (have c52b2 : (((rd_T78 y351 x60_4).f1) == ((rd_T78 l0_2 x28_2).f1)) = true := by simpa using c52))
  clear c52
  by_cases c58 : ((rd_T78 y351 x60_4).f2) = ((rd_T78 l0_2 x28_2).f2)
  rotate_left
  · rw [if_neg c58] at H
    have c58b0 : (((rd_T78 y351 x60_4).f2) == ((rd_T78 l0_2 x28_2).f2)) = false := beq_eq_false_iff_ne.mpr c58
    have c58b1 : (((rd_T78 y351 x60_4).f2) != ((rd_T78 l0_2 x28_2).f2)) = true := bne_iff_ne.mpr c58
    have H' := Q_ H
    clear H
    have hnb59 := NB356_344.out
    have hnc59 := NB344_356.out
    have hnb60 := NB356_347.out
    have hnc60 := NB347_356.out
    have hcz61 := bc4_ BK356.out
    have hnb62 := NB347_344.out
    have hnc62 := NB344_347.out
    have hcz63 := bc4_ BK347.out
    go_wp2
    go_roundg k4
    case measure => have := HJ1.out; have := HK2.out; have := HJ14.out; have := HK4.out; omega
    case rel => exact ⟨(wrap64 (x60_4 + 1)), el_, H', ⟨by have := HJ1.out; have := HK2.out; have := HJ14.out; have := HK4.out; omega⟩, ⟨pp_ BK344.out⟩, ⟨pp_ BK347.out⟩, ⟨pb3_ HB.out GE344.out GE347.out GE356.out⟩⟩
  rw [if_pos c58] at H
  have c58b0 : (((rd_T78 y351 x60_4).f2) == ((rd_T78 l0_2 x28_2).f2)) = true := beq_iff_eq.mpr c58
  have c58b1 : (((rd_T78 y351 x60_4).f2) != ((rd_T78 l0_2 x28_2).f2)) = false := bne_eq_false_iff_eq.mpr c58
  clear c58
  obtain rfl := Option.some.inj H
  have hnb64 := NB356_344.out
  have hnc64 := NB344_356.out
  have hnb65 := NB356_347.out
  have hnc65 := NB347_356.out
  have hcz66 := bc4_ BK356.out
  have hnb67 := NB347_344.out
  have hnc67 := NB344_347.out
  have hcz68 := bc4_ BK347.out
  go_wp2
  go_ret
  exact ⟨er_, pb3_ HB.out GE344.out GE347.out GE356.out⟩

/-! ### slices_Equal_int_int: function 93 -/
def slices_Equal_int_int.l0 : Nat → List Int → List Int → Int → Int → Option (Bool)
  | 0, _, _, _, _ => none
  | k + 1, x0, x1, x12, x13 => if x13 < x12 then (if 0 ≤ x13 then (if x13 < (x0.length : Int) then (if x13 < (x1.length : Int) then (if (rd x0 x13) = (rd x1 x13) then (slices_Equal_int_int.l0 k x0 x1 x12 (wrap64 (x13 + 1))) else (some false)) else (none)) else (none)) else (none)) else (some true)
def slices_Equal_int_int.f (k : Nat) (l0 : List Int) (l1 : List Int) : Option (Bool) := if (l0.length : Int) = (l1.length : Int) then (slices_Equal_int_int.l0 k l0 l1 (l0.length : Int) 0) else (some false)
theorem slices_Equal_int_int.mono_l : ∀ k, (∀ y0 y1 y2 y3, LeO (slices_Equal_int_int.l0 k y0 y1 y2 y3) (slices_Equal_int_int.l0 (k + 1) y0 y1 y2 y3))
  | 0 => fun _ _ _ _ r h => by simp [slices_Equal_int_int.l0] at h
  | k + 1 => by
    have ih0 := slices_Equal_int_int.mono_l k
    · intro y0 y1 y2 y3
      unfold slices_Equal_int_int.l0
      exact mo1_ ih0
theorem slices_Equal_int_int.mono : ∀ a0 a1 k, LeO (slices_Equal_int_int.f k a0 a1) (slices_Equal_int_int.f (k + 1) a0 a1) := by
  intro a0 a1 k
  have ih0 := slices_Equal_int_int.mono_l k
  unfold slices_Equal_int_int.f
  exact mo1_ ih0
set_option maxHeartbeats 8000000 in
set_option maxRecDepth 100000 in
theorem slices_Equal_int_int.calls (k : Nat) (A0 : Option Addr) (c0 : Nat) (l0 : List Int) (A1 : Option Addr) (c1 : Nat) (l1 : List Int) (r : Bool) (w : World) (hr0 : Kd.C (Kd.int .i64) w A0 l0.length l0) (hc0 : l0.length ≤ c0) (hr1 : Kd.C (Kd.int .i64) w A1 l1.length l1) (hc1 : l1.length ≤ c1) (h : slices_Equal_int_int.f k l0 l1 = some r) :
    Calls Try.prog 93 #[.slice A0 l0.length c0, .slice A1 l1.length c1] w fun e w' => e = .returned (.bool r) ∧ Drawn0 w w' := by
  have HR0 := Q_ hr0
  have HC0 := Q_ hc0
  clear hr0 hc0
  have HR1 := Q_ hr1
  have HC1 := Q_ hc1
  clear hr1 hc1
  have H : (if (l0.length : Int) = (l1.length : Int) then (slices_Equal_int_int.l0 k l0 l1 (l0.length : Int) 0) else (some false)) = some r := h
  clear h
  by_cases c3 : (l0.length : Int) = (l1.length : Int)
  rotate_left
  · rw [if_neg c3] at H
    have c3b0 : ((l0.length : Int) == (l1.length : Int)) = false := beq_eq_false_iff_ne.mpr c3
    have c3b1 : ((l0.length : Int) != (l1.length : Int)) = true := bne_iff_ne.mpr c3
    have c3b2 : (l0.length == l1.length) = false := by first | simpa using c3 | (simp at c3 ⊢; omega)
    obtain rfl := Option.some.inj H
    go_enter Try.func93, Try.ntmps93
    go_wp2
    repeat (go_quiet (fail); try go_wp2)
    go_ret
    exact ⟨by first | rfl | (simp; done) | (simp [*]; done), by repeat (first | exact Drawn0.refl _ | apply Drawn0.step)⟩
  rw [if_pos c3] at H
  have c3b0 : ((l0.length : Int) == (l1.length : Int)) = true := beq_iff_eq.mpr c3
  have c3b1 : ((l0.length : Int) != (l1.length : Int)) = false := bne_eq_false_iff_eq.mpr c3
  have c3b2 : (l0.length == l1.length) = true := by first | simpa using c3 | (simp at c3 ⊢; omega)
  clear c3
  have H' := Q_ H
  clear H
  go_enter Try.func93, Try.ntmps93
  go_wp2
  repeat (go_quiet (fail); try go_wp2)
  go_loopg [13] k (fun kq v13 w' => ∃ (x13_1 : Int), v13 = .int .i64 x13_1 ∧ Aside0 (slices_Equal_int_int.l0 kq l0 l1 (l0.length : Int) x13_1 = some r) ∧ Aside0 (kq ≤ k) ∧ Drawn0 w w')
  case atStart => exact ⟨(0), el_, H', ⟨Nat.le_refl _⟩, by repeat (first | exact Drawn0.refl _ | apply Drawn0.step)⟩
  clear H'
  try clear c1
  try clear p2
  try clear c3
  try clear c3b0
  try clear c3b1
  try clear c3b2
  obtain ⟨x13_1, rfl, HA, HK1, ⟨m1, rfl⟩⟩ := hrel
  rcases gk with _ | k1
  · exact absurd HA.out (by simp [slices_Equal_int_int.l0])
  have H := HA.out
  clear HA
  simp only [slices_Equal_int_int.l0] at H
  by_cases c4 : x13_1 < (l0.length : Int)
  rotate_left
  · rw [if_neg c4] at H
    have c4b0 : decide (x13_1 < (l0.length : Int)) = false := decide_eq_false c4
    clear c4
    obtain rfl := Option.some.inj H
    go_wp2
    repeat (go_quiet (fail); try go_wp2)
    go_ret
    exact ⟨by first | rfl | (simp; done) | (simp [*]; done), by repeat (first | exact Drawn0.refl _ | apply Drawn0.step)⟩
  rw [if_pos c4] at H
  have c4b0 : decide (x13_1 < (l0.length : Int)) = true := decide_eq_true c4
  clear c4
  by_cases c5 : 0 ≤ x13_1
  rotate_left
  · rw [if_neg c5] at H
    exact absurd H (by simp)
  rw [if_pos c5] at H
  have c5b0 : decide (0 ≤ x13_1) = true := decide_eq_true c5
  clear c5
  by_cases c6 : x13_1 < (l0.length : Int)
  rotate_left
  · rw [if_neg c6] at H
    exact absurd H (by simp)
  rw [if_pos c6] at H
  have c6b0 : decide (x13_1 < (l0.length : Int)) = true := decide_eq_true c6
  clear c6
  by_cases c7 : x13_1 < (l1.length : Int)
  rotate_left
  · rw [if_neg c7] at H
    exact absurd H (by simp)
  rw [if_pos c7] at H
  have c7b0 : decide (x13_1 < (l1.length : Int)) = true := decide_eq_true c7
  clear c7
  by_cases c8 : (rd l0 x13_1) = (rd l1 x13_1)
  rotate_left
  · rw [if_neg c8] at H
    have c8b0 : ((rd l0 x13_1) == (rd l1 x13_1)) = false := beq_eq_false_iff_ne.mpr c8
    have c8b1 : ((rd l0 x13_1) != (rd l1 x13_1)) = true := bne_iff_ne.mpr c8
    obtain rfl := Option.some.inj H
    have p357 : 0 ≤ (x13_1 : Int) := dt_
    have q357 : x13_1 < (l0.length : Int) := dt_
    obtain ⟨ad357, e357, hx357_0⟩ := Kd.at_int HR0.out x13_1 p357 q357
    cases e357
    replace p357 := eq_true p357
    replace q357 := eq_true q357
    have p358 : 0 ≤ (x13_1 : Int) := dt_
    have q358 : x13_1 < (l1.length : Int) := dt_
    obtain ⟨ad358, e358, hx358_0⟩ := Kd.at_int HR1.out x13_1 p358 q358
    cases e358
    replace p358 := eq_true p358
    replace q358 := eq_true q358
    go_wp2
    repeat (go_quiet (fail); try go_wp2)
    go_ret
    exact ⟨by first | rfl | (simp; done) | (simp [*]; done), by repeat (first | exact Drawn0.refl _ | apply Drawn0.step)⟩
  rw [if_pos c8] at H
  have c8b0 : ((rd l0 x13_1) == (rd l1 x13_1)) = true := beq_iff_eq.mpr c8
  have c8b1 : ((rd l0 x13_1) != (rd l1 x13_1)) = false := bne_eq_false_iff_eq.mpr c8
  clear c8
  have H' := Q_ H
  clear H
  have p357 : 0 ≤ (x13_1 : Int) := dt_
  have q357 : x13_1 < (l0.length : Int) := dt_
  obtain ⟨ad357, e357, hx357_0⟩ := Kd.at_int HR0.out x13_1 p357 q357
  cases e357
  replace p357 := eq_true p357
  replace q357 := eq_true q357
  have p358 : 0 ≤ (x13_1 : Int) := dt_
  have q358 : x13_1 < (l1.length : Int) := dt_
  obtain ⟨ad358, e358, hx358_0⟩ := Kd.at_int HR1.out x13_1 p358 q358
  cases e358
  replace p358 := eq_true p358
  replace q358 := eq_true q358
  go_wp2
  repeat (go_quiet (fail); try go_wp2)
  go_roundg k1
  case measure => have := HK1.out; omega
  case rel => exact ⟨(wrap64 (x13_1 + 1)), el_, H', ⟨by have := HK1.out; omega⟩, by repeat (first | exact Drawn0.refl _ | apply Drawn0.step)⟩

/-! ### cmp_isNaN_int: function 120 -/
def cmp_isNaN_int.f (a0 : Int) : Option (Bool) := some (a0 != a0)
set_option maxHeartbeats 8000000 in
set_option maxRecDepth 100000 in
theorem cmp_isNaN_int.calls (a0 : Int) (r : Bool) (w : World) (h : cmp_isNaN_int.f a0 = some r) :
    Calls Try.prog 120 #[.int .i64 a0] w fun e w' => e = .returned (.bool r) ∧ Drawn0 w w' := by
  have H : (some (a0 != a0)) = some r := h
  clear h
  obtain rfl := Option.some.inj H
  go_enter Try.func120, Try.ntmps120
  go_wp2
  go_ret
  exact ⟨by first | rfl | (simp; done) | (simp [*]; done), by repeat (first | exact Drawn0.refl _ | apply Drawn0.step)⟩

/-! ### cmp_Less_int: function 110 -/
def cmp_Less_int.f (a0 : Int) (a1 : Int) : Option (Bool) := (cmp_isNaN_int.f a0).bind fun t359 => (if t359 = true then ((cmp_isNaN_int.f a1).bind fun t360 => (if t360 = true then (some (decide (a0 < a1))) else (some true))) else (some (decide (a0 < a1))))
set_option maxHeartbeats 8000000 in
set_option maxRecDepth 100000 in
theorem cmp_Less_int.calls (a0 : Int) (a1 : Int) (r : Bool) (w : World) (h : cmp_Less_int.f a0 a1 = some r) :
    Calls Try.prog 110 #[.int .i64 a0, .int .i64 a1] w fun e w' => e = .returned (.bool r) ∧ Drawn0 w w' := by
  have H : ((cmp_isNaN_int.f a0).bind fun t359 => (if t359 = true then ((cmp_isNaN_int.f a1).bind fun t360 => (if t360 = true then (some (decide (a0 < a1))) else (some true))) else (some (decide (a0 < a1))))) = some r := h
  clear h
  replace H := Option.bind_eq_some_iff.mp H
  obtain ⟨t359, A30, H⟩ := H
  (try dsimp only at H)
  have A3 := Q_ A30
  clear A30
  by_cases c4 : t359 = true
  rotate_left
  · replace c4 := Bool.eq_false_iff.mpr c4
    subst c4
    rw [if_neg (show ¬ (false = true) by decide)] at H
    obtain rfl := Option.some.inj H
    go_enter Try.func110, Try.ntmps110
    go_wp2_with (first | ((with_reducible refine gate_callee (f := 120) rfl ?_); refine gl_ (some 6) Try.func120 #[.int .i64 a0] ?_; (with_reducible refine (cmp_isNaN_int.calls a0 false _ A3.out).mono ?_); rintro e w' ⟨rfl, ⟨nd, rfl⟩⟩; refine ⟨_, rfl, ?_⟩))
    go_ret
    exact ⟨by first | rfl | (simp; done) | (simp [*]; done), by repeat (first | exact Drawn0.refl _ | apply Drawn0.step)⟩
  subst c4
  rw [if_pos rfl] at H
  replace H := Option.bind_eq_some_iff.mp H
  obtain ⟨t360, A50, H⟩ := H
  replace H : (if t360 = true then (some (decide (a0 < a1))) else (some true)) = some r := H
  have A5 := Q_ A50
  clear A50
  by_cases c6 : t360 = true
  rotate_left
  · replace c6 := Bool.eq_false_iff.mpr c6
    subst c6
    rw [if_neg (show ¬ (false = true) by decide)] at H
    obtain rfl := Option.some.inj H
    go_enter Try.func110, Try.ntmps110
    go_wp2_with (first | ((with_reducible refine gate_callee (f := 120) rfl ?_); refine gl_ (some 6) Try.func120 #[.int .i64 a0] ?_; (with_reducible refine (cmp_isNaN_int.calls a0 true _ A3.out).mono ?_); rintro e w' ⟨rfl, ⟨nd, rfl⟩⟩; refine ⟨_, rfl, ?_⟩) | (go_at_call 120; (with_reducible refine (cmp_isNaN_int.calls a1 false _ A5.out).mono ?_); rintro e w' ⟨rfl, ⟨nd, rfl⟩⟩))
    go_ret
    exact ⟨by first | rfl | (simp; done) | (simp [*]; done), by repeat (first | exact Drawn0.refl _ | apply Drawn0.step)⟩
  subst c6
  rw [if_pos rfl] at H
  obtain rfl := Option.some.inj H
  go_enter Try.func110, Try.ntmps110
  go_wp2_with (first | ((with_reducible refine gate_callee (f := 120) rfl ?_); refine gl_ (some 6) Try.func120 #[.int .i64 a0] ?_; (with_reducible refine (cmp_isNaN_int.calls a0 true _ A3.out).mono ?_); rintro e w' ⟨rfl, ⟨nd, rfl⟩⟩; refine ⟨_, rfl, ?_⟩) | (go_at_call 120; (with_reducible refine (cmp_isNaN_int.calls a1 true _ A5.out).mono ?_); rintro e w' ⟨rfl, ⟨nd, rfl⟩⟩))
  go_ret
  exact ⟨by first | rfl | (simp; done) | (simp [*]; done), by repeat (first | exact Drawn0.refl _ | apply Drawn0.step)⟩

end Go.Proofs.Ytldcchjbaglppaa.Print
