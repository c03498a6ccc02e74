-- Written by a program of this session (printx.py) out of the translation; Lean checks it.
import Derived.Test.YtldcchjbaglppaaPrint0
import Derived.Test.YtldcchjbaglppaaPrint13
namespace Go.Proofs.Ytldcchjbaglppaa.Print
open Go.RowKit Go.Proofs.YtldcchjbaglppaaW.PrintWords Go.Proofs.YtldcchjbaglppaaW.PrintLast Go.Proofs.YtldcchjbaglppaaW.PrintMore Go.Proofs.Ytldcchjbaglppaa.Short
attribute [local go_sem] max2_int min2_int max_two min_two max_three min_three max_four min_four   -- for this text's walks alone
set_option linter.unusedVariables false
set_option linter.unusedSimpArgs false

/-! ### impl_NextOnly: function 32 -/
mutual
def impl_NextOnly.j0 : Nat → List (S34) → List (S34) → Bool → Option (Bool)
  | 0, _, _, _ => none
  | k + 1, x0, x1, x18 => if x18 = true then (some false) else (impl_NextOnly.l0 k x1 false x0 (x0.length : Int) 0)
def impl_NextOnly.l0 : Nat → List (S34) → Bool → List (S34) → Int → Int → Option (Bool)
  | 0, _, _, _, _, _ => none
  | k + 1, x1, x5, x19, x20, x21 => if x21 < x20 then (if 0 ≤ x21 then (if x21 < (x19.length : Int) then (if x21 < (x1.length : Int) then ((impl_IsSafe.f k ((rd_T34 x19 x21).f0) ((rd_T34 x19 x21).f1) ((rd_T34 x19 x21).f2) ((rd_T34 x1 x21).f0) ((rd_T34 x1 x21).f1) ((rd_T34 x1 x21).f2)).bind fun t542 => (if t542 = true then (if x21 > 0 then (if 0 ≤ (wrap64 (x21 - 1)) then (if (wrap64 (x21 - 1)) < (x1.length : Int) then ((impl_IsSafe.f k ((rd_T34 x19 x21).f0) ((rd_T34 x19 x21).f1) ((rd_T34 x19 x21).f2) ((rd_T34 x1 (wrap64 (x21 - 1))).f0) ((rd_T34 x1 (wrap64 (x21 - 1))).f1) ((rd_T34 x1 (wrap64 (x21 - 1))).f2)).bind fun t544 => (impl_NextOnly.j2 k x1 x5 x21 x19 x20 x21 (!t544) ((rd_T34 x19 x21).f0) ((rd_T34 x19 x21).f1) ((rd_T34 x19 x21).f2))) else (none)) else (none)) else (impl_NextOnly.j2 k x1 x5 x21 x19 x20 x21 false ((rd_T34 x19 x21).f0) ((rd_T34 x19 x21).f1) ((rd_T34 x19 x21).f2))) else (impl_NextOnly.j2 k x1 x5 x21 x19 x20 x21 true ((rd_T34 x19 x21).f0) ((rd_T34 x19 x21).f1) ((rd_T34 x19 x21).f2)))) else (none)) else (none)) else (none)) else (some x5)
def impl_NextOnly.j2 : Nat → List (S34) → Bool → Int → List (S34) → Int → Int → Bool → Int → List Bool → List (S78) → Option (Bool)
  | 0, _, _, _, _, _, _, _, _, _, _ => none
  | k + 1, x1, x5, x6, x19, x20, x21, x46, x541000, x541001, x541002 => if x46 = true then (some false) else (impl_NextOnly.l1 k x1 x5 x19 x20 x21 x6 0 x541000 x541001 x541002)
def impl_NextOnly.l1 : Nat → List (S34) → Bool → List (S34) → Int → Int → Int → Int → Int → List Bool → List (S78) → Option (Bool)
  | 0, _, _, _, _, _, _, _, _, _, _ => none
  | k + 1, x1, x5, x19, x20, x21, x47, x48, x541000, x541001, x541002 => if x48 < x47 then (if x5 = true then (impl_NextOnly.l1 k x1 true x19 x20 x21 x47 (wrap64 (x48 + 1)) x541000 x541001 x541002) else (if 0 ≤ x48 then (if x48 < (x1.length : Int) then ((impl_IsSafe.f k x541000 x541001 x541002 ((rd_T34 x1 x48).f0) ((rd_T34 x1 x48).f1) ((rd_T34 x1 x48).f2)).bind fun t546 => (impl_NextOnly.l1 k x1 (!t546) x19 x20 x21 x47 (wrap64 (x48 + 1)) x541000 x541001 x541002)) else (none)) else (none))) else (impl_NextOnly.l0 k x1 x5 x19 x20 (wrap64 (x21 + 1)))
end
def impl_NextOnly.f (k : Nat) (l0 : List (S34)) (l1 : List (S34)) : Option (Bool) := if (l0.length : Int) = (l1.length : Int) then (impl_NextOnly.j0 k l0 l1 (decide ((l0.length : Int) < 2))) else (impl_NextOnly.j0 k l0 l1 true)
theorem impl_NextOnly.mono_l : ∀ k, (∀ y0 y1 y2, LeO (impl_NextOnly.j0 k y0 y1 y2) (impl_NextOnly.j0 (k + 1) y0 y1 y2)) ∧ (∀ y0 y1 y2 y3 y4, LeO (impl_NextOnly.l0 k y0 y1 y2 y3 y4) (impl_NextOnly.l0 (k + 1) y0 y1 y2 y3 y4)) ∧ (∀ y0 y1 y2 y3 y4 y5 y6 y7 y8 y9, LeO (impl_NextOnly.j2 k y0 y1 y2 y3 y4 y5 y6 y7 y8 y9) (impl_NextOnly.j2 (k + 1) y0 y1 y2 y3 y4 y5 y6 y7 y8 y9)) ∧ (∀ y0 y1 y2 y3 y4 y5 y6 y7 y8 y9, LeO (impl_NextOnly.l1 k y0 y1 y2 y3 y4 y5 y6 y7 y8 y9) (impl_NextOnly.l1 (k + 1) y0 y1 y2 y3 y4 y5 y6 y7 y8 y9))
  | 0 => ⟨fun _ _ _ r h => by simp [impl_NextOnly.j0] at h, fun _ _ _ _ _ r h => by simp [impl_NextOnly.l0] at h, fun _ _ _ _ _ _ _ _ _ _ r h => by simp [impl_NextOnly.j2] at h, fun _ _ _ _ _ _ _ _ _ _ r h => by simp [impl_NextOnly.l1] at h⟩
  | k + 1 => by
    obtain ⟨ih0, ih1, ih2, ih3⟩ := impl_NextOnly.mono_l k
    refine ⟨?_, ?_, ?_, ?_⟩
    · intro y0 y1 y2
      unfold impl_NextOnly.j0
      exact mo5_ ih0 ih1 ih2 ih3 impl_IsSafe.mono
    · intro y0 y1 y2 y3 y4
      unfold impl_NextOnly.l0
      exact mo5_ ih0 ih1 ih2 ih3 impl_IsSafe.mono
    · intro y0 y1 y2 y3 y4 y5 y6 y7 y8 y9
      unfold impl_NextOnly.j2
      exact mo5_ ih0 ih1 ih2 ih3 impl_IsSafe.mono
    · intro y0 y1 y2 y3 y4 y5 y6 y7 y8 y9
      unfold impl_NextOnly.l1
      exact mo5_ ih0 ih1 ih2 ih3 impl_IsSafe.mono
theorem impl_NextOnly.mono : ∀ a0 a1 k, LeO (impl_NextOnly.f k a0 a1) (impl_NextOnly.f (k + 1) a0 a1) := by
  intro a0 a1 k
  obtain ⟨ih0, ih1, ih2, ih3⟩ := impl_NextOnly.mono_l k
  unfold impl_NextOnly.f
  exact mo5_ ih0 ih1 ih2 ih3 impl_IsSafe.mono
def impl_NextOnly.T7 : Bool × List (List Nat × List Nat) := (true, [([], []), ([], []), ([], []), ([1, 2], [1, 2]), ([3], [3]), ([0, 4], [0, 4]), ([5], [5]), ([6, 5], [6]), ([7], [7]), ([8, 7], [7, 8]), ([9, 7, 7], [7, 9]), ([10], [10]), ([10], [10]), ([10], [10]), ([13, 10], [10, 13]), ([12, 14, 10], [10, 12, 14]), ([15, 10], [10, 15]), ([11, 16, 10, 10], [10, 11, 16]), ([17, 10], [10, 17]), ([10, 18, 7], [7, 10, 18]), ([7, 19], [7, 19])])
def impl_NextOnly.B7 : List Nat := [0, 0, 0, 6, 14, 31, 63, 127, 255, 511, 1023, 2047, 2047, 2047, 10239, 30719, 63487, 131071, 262143, 524287, 1048575]
theorem impl_NextOnly.tab7 : rtab .any (opsOf Try.f32 7) = impl_NextOnly.T7 := by kernel_rfl
theorem impl_NextOnly.bits7 : waitsOk impl_NextOnly.T7.2 impl_NextOnly.B7 = true := by kernel_rfl
def impl_NextOnly.T12 : Bool × List (List Nat × List Nat) := (true, [([], []), ([0], [0]), ([1], [1]), ([1], [1]), ([1], [1]), ([3, 4, 1], [1, 3, 4]), ([5, 1], [1, 5]), ([2, 6, 1, 1], [1, 2, 6]), ([7, 1], [1, 7]), ([1, 8], [1, 8]), ([9, 7, 0, 1, 2, 3, 4, 5, 6, 7, 8, 9], [0, 9])])
def impl_NextOnly.B12 : List Nat := [0, 1, 3, 3, 3, 27, 59, 127, 255, 511, 1023]
theorem impl_NextOnly.tab12 : rtab .any (opsOf Try.f32 12) = impl_NextOnly.T12 := by kernel_rfl
theorem impl_NextOnly.bits12 : waitsOk impl_NextOnly.T12.2 impl_NextOnly.B12 = true := by kernel_rfl
set_option maxHeartbeats 8000000 in
set_option maxRecDepth 100000 in
theorem impl_NextOnly.calls (k : Nat) (A0 : Option Addr) (c0 : Nat) (l0 : List (S34)) (A1 : Option Addr) (c1 : Nat) (l1 : List (S34)) (r : Bool) (w : World) (hr0 : Kd.C k34 w A0 l0.length l0) (hc0 : l0.length ≤ c0) (hr1 : Kd.C k34 w A1 l1.length l1) (hc1 : l1.length ≤ c1) (h : impl_NextOnly.f k l0 l1 = some r) :
    Calls Try.prog 32 #[.slice A0 l0.length c0, .slice A1 l1.length c1] w fun e w' => e = .returned (.bool r) ∧ Below w.heap.size w w' := by
  have hu34 := Try.underlying34
  have HR0 := Q_ hr0
  have HC0 := Q_ hc0
  clear hr0 hc0
  have HR1 := Q_ hr1
  have HC1 := Q_ hc1
  clear hr1 hc1
  have HB := Q_ (Below.refl w.heap.size w)
  have H : (if (l0.length : Int) = (l1.length : Int) then (impl_NextOnly.j0 k l0 l1 (decide ((l0.length : Int) < 2))) else (impl_NextOnly.j0 k l0 l1 true)) = some r := h
  clear h
  have HC3 := Q_ H
  clear H
  go_enter Try.func32, Try.ntmps32
  go_upto_region 1 with (fail)
  go_cut [18] (fun v18 wc => ∃ (kq : Nat) (x18_2 : Bool), v18 = .bool x18_2 ∧ Aside0 (impl_NextOnly.j0 kq l0 l1 x18_2 = some r) ∧ Aside0 (kq ≤ k) ∧ Aside0 (Below w.heap.size w wc))
  case first =>
    have H := HC3.out
    clear HC3
    by_cases c4 : (l0.length : Int) = (l1.length : Int)
    rotate_left
    · rw [if_neg c4] at H
      have c4b0 : ((l0.length : Int) == (l1.length : Int)) = false := beq_eq_false_iff_ne.mpr c4
      have c4b1 : ((l0.length : Int) != (l1.length : Int)) = true := bne_iff_ne.mpr c4
      have c4b2 : (l0.length == l1.length) = false := by first | simpa using c4 | (simp at c4 ⊢; omega)
      (first | rw [c4b0] | (simp only [i64_w, i32_w]; rw [c4b0]) | rw [c4b1] | (have c_ := c4b1; rw [bne] at c_; rw [c_]; clear c_) | rw [c4b2] | skip)
      have H' := Q_ H
      clear H
      go_wp2
      go_meet
      case rel => exact ⟨_, (true), el_, H', ⟨by first | omega | exact Nat.le_refl _⟩, ⟨pb_ HB.out⟩⟩
    rw [if_pos c4] at H
    have c4b0 : ((l0.length : Int) == (l1.length : Int)) = true := beq_iff_eq.mpr c4
    have c4b1 : ((l0.length : Int) != (l1.length : Int)) = false := bne_eq_false_iff_eq.mpr c4
    have c4b2 : (l0.length == l1.length) = true := by first | simpa using c4 | (simp at c4 ⊢; omega)
    clear c4
    (first | rw [c4b0] | (simp only [i64_w, i32_w]; rw [c4b0]) | rw [c4b1] | (have c_ := c4b1; rw [bne] at c_; rw [c_]; clear c_) | rw [c4b2] | skip)
    have H' := Q_ H
    clear H
    go_wp2
    go_meet
    case rel => exact ⟨_, (decide ((l0.length : Int) < 2)), el_, H', ⟨by first | omega | exact Nat.le_refl _⟩, ⟨pb_ HB.out⟩⟩
  clear HC3
  try clear c1
  try clear p2
  try clear c3
  try clear c4
  try clear c4b0
  try clear c4b1
  try clear c4b2
  obtain ⟨kq, x18_2, rfl, HA, HJ2, HB⟩ := hcut
  rcases kq with _ | kj2
  · exact absurd HA.out (by simp [impl_NextOnly.j0])
  have H := HA.out
  clear HA
  simp only [impl_NextOnly.j0] at H
  by_cases c5 : x18_2 = true
  rotate_left
  · replace c5 := Bool.eq_false_iff.mpr c5
    subst c5
    rw [if_neg (show ¬ (false = true) by decide)] at H
    have H' := Q_ H
    clear H
    go_wp2
    go_loopg [5, 21] kj2 (fun kq v5 v21 w' => ∃ (x5_2 : Bool) (x21_2 : Int), v5 = .bool x5_2 ∧ v21 = .int .i64 x21_2 ∧ Aside0 (impl_NextOnly.l0 kq l1 x5_2 l0 (l0.length : Int) x21_2 = some r) ∧ Aside0 (kq ≤ kj2) ∧ Aside0 (Below w.heap.size w w'))
    case atStart => exact ⟨(false), (0), el_, el_, H', ⟨Nat.le_refl _⟩, ⟨pb_ HB.out⟩⟩
    clear H'
    try clear c1
    try clear p2
    try clear c3
    try clear c4
    try clear c4b0
    try clear c4b1
    try clear c4b2
    try clear c5
    try clear p2
    obtain ⟨x5_2, x21_2, rfl, rfl, HA, HK2, HB⟩ := hrel
    rcases gk with _ | k2
    · exact absurd HA.out (by simp [impl_NextOnly.l0])
    have H := HA.out
    clear HA
    simp only [impl_NextOnly.l0] at H
    by_cases c6 : x21_2 < (l0.length : Int)
    rotate_left
    · rw [if_neg c6] at H
      have c6b0 : decide (x21_2 < (l0.length : Int)) = false := decide_eq_false c6
      clear c6
      obtain rfl := Option.some.inj H
      go_wp2
      go_ret
      exact ⟨er_, pb_ HB.out⟩
    rw [if_pos c6] at H
    have c6b0 : decide (x21_2 < (l0.length : Int)) = true := decide_eq_true c6
    clear c6
    by_cases c7 : 0 ≤ x21_2
    rotate_left
    · rw [if_neg c7] at H
      exact absurd H (by simp)
    rw [if_pos c7] at H
    have c7b0 : decide (0 ≤ x21_2) = true := decide_eq_true c7
    clear c7
    by_cases c8 : x21_2 < (l0.length : Int)
    rotate_left
    · rw [if_neg c8] at H
      exact absurd H (by simp)
    rw [if_pos c8] at H
    have c8b0 : decide (x21_2 < (l0.length : Int)) = true := decide_eq_true c8
    clear c8
    have HC9 := Q_ H
    clear H
    have p539 : 0 ≤ (x21_2 : Int) := dt_
    have q539 : x21_2 < (l0.length : Int) := dt_
    obtain ⟨ad539, A539_1, c539_1, A539_2, c539_2, e539, hx539_0, hx539_1, hx539_2, hl539_1, hi539_1, hl539_2, hi539_2⟩ := at_T34 HR0.out x21_2 p539 q539
    cases e539
    replace hx539_0 := bt_ HB hx539_0
    replace hx539_1 := bt_ HB hx539_1
    replace hx539_2 := bt_ HB hx539_2
    have HR539_1 := Q_ hi539_1
    have HC539_1 := Q_ hl539_1
    clear hi539_1 hl539_1
    have HR539_2 := Q_ hi539_2
    have HC539_2 := Q_ hl539_2
    clear hi539_2 hl539_2
    replace p539 := eq_true p539
    replace q539 := eq_true q539
    go_upto_region 7 with (first | ((with_reducible refine gate_dst (N := 7) rfl ?_); (try (refine gate_guard (by rfl) ?_; dsimp only)); refine box_event ?hg (N := 7) ?hd (cs := #[.int .i64 0, .slice none 0 0, .slice none 0 0]) (t := 34) ?hr ?_; (case hd => rfl); (case hg => rfl); (case hr => first | (go_simp; done) | (go_simp; rfl)); intro gb540 hg w10 hbox hb; have n0_ := Q_ (below_step (pb_ HB.out) hb); have n1_ := Q_ (hbox); have n2_ := Q_ ((by rw [hg]; exact (below_size (pb_ HB.out)) : w.heap.size ≤ gb540)); have n3_ := n2_; clear HB; have HB := n0_; have BK540 := n1_; have GW540 := n2_; have GE540 := n3_; clear n0_ n1_ n2_ n3_; clear hb hbox hg; have hcz11 := bc3_ BK540.out))
    (try simp only [Act.put, List.setIfInBounds_toArray, List.set_cons_zero, List.set_cons_succ])
    go_cut [46] (fun v46 wc => ∃ (kq : Nat) (x46_8 : Bool), v46 = .bool x46_8 ∧ Aside0 (impl_NextOnly.j2 kq l1 x5_2 x21_2 l0 (l0.length : Int) x21_2 x46_8 ((rd_T34 l0 x21_2).f0) ((rd_T34 l0 x21_2).f1) ((rd_T34 l0 x21_2).f2) = some r) ∧ Aside0 (kq ≤ k2) ∧ Aside0 (wc.heap[gb540]? = some (.cells #[.int .i64 ((rd_T34 l0 x21_2).f0), (.slice A539_1 ((rd_T34 l0 x21_2).f1).length c539_1), (.slice A539_2 ((rd_T34 l0 x21_2).f2).length c539_2)] 34 (0, 0))) ∧ Aside0 (Below w.heap.size w wc))
    case first =>
      have H := HC9.out
      clear HC9
      by_cases c12 : x21_2 < (l1.length : Int)
      rotate_left
      · rw [if_neg c12] at H
        exact absurd H (by simp)
      rw [if_pos c12] at H
      have c12b0 : decide (x21_2 < (l1.length : Int)) = true := decide_eq_true c12
      clear c12
      (first | rw [c12b0] | (simp only [i64_w, i32_w]; rw [c12b0]) | skip)
      replace H := Option.bind_eq_some_iff.mp H
      obtain ⟨t542, A130, H⟩ := H
      (try dsimp only at H)
      have A13 := Q_ A130
      clear A130
      by_cases c14 : t542 = true
      rotate_left
      · replace c14 := Bool.eq_false_iff.mpr c14
        subst c14
        rw [if_neg (show ¬ (false = true) by decide)] at H
        have H' := Q_ H
        clear H
        try go_wp2
        have n0_ : Aside0 ((((w10.setCell ⟨gb540, 0, none⟩ (.int .i64 ((rd_T34 l0 x21_2).f0))).setCell ⟨gb540, 1, none⟩ (.slice A539_1 ((rd_T34 l0 x21_2).f1).length c539_1)).setCell ⟨gb540, 2, none⟩ (.slice A539_2 ((rd_T34 l0 x21_2).f2).length c539_2)).heap[gb540]? = some (.cells #[.int .i64 ((rd_T34 l0 x21_2).f0), .slice A539_1 ((rd_T34 l0 x21_2).f1).length c539_1, .slice A539_2 ((rd_T34 l0 x21_2).f2).length c539_2] 34 (0, 0))) := ⟨pp_ BK540.out⟩
        have n1_ : Aside0 (Below w.heap.size w (((w10.setCell ⟨gb540, 0, none⟩ (.int .i64 ((rd_T34 l0 x21_2).f0))).setCell ⟨gb540, 1, none⟩ (.slice A539_1 ((rd_T34 l0 x21_2).f1).length c539_1)).setCell ⟨gb540, 2, none⟩ (.slice A539_2 ((rd_T34 l0 x21_2).f2).length c539_2))) := ⟨pb1_ HB.out GE540.out⟩
        (try clear BK540)
        (try clear HB)
        generalize (((w10.setCell ⟨gb540, 0, none⟩ (.int .i64 ((rd_T34 l0 x21_2).f0))).setCell ⟨gb540, 1, none⟩ (.slice A539_1 ((rd_T34 l0 x21_2).f1).length c539_1)).setCell ⟨gb540, 2, none⟩ (.slice A539_2 ((rd_T34 l0 x21_2).f2).length c539_2)) = w15 at n0_ n1_ ⊢
        (try (rw [show w15.drewN nd = w15.drewN nd from rfl]; replace n0_ := Q_ (blk_drewN n0_.out nd); replace n1_ := Q_ (pw_below_drewN n1_.out nd); generalize w15.drewN nd = w15 at n0_ n1_ ⊢))
        have BK540 := n0_
        have HB := n1_
        clear n0_ n1_
        have _ := Q_ (blk_drew BK540.out)
        have _ := Q_ (below_drew1 HB.out)
        clear BK540 HB
        rename_i BK540 HB
        have p541 : 0 ≤ (x21_2 : Int) := dt_
        have q541 : x21_2 < (l1.length : Int) := dt_
        obtain ⟨ad541, A541_1, c541_1, A541_2, c541_2, e541, hx541_0, hx541_1, hx541_2, hl541_1, hi541_1, hl541_2, hi541_2⟩ := at_T34 HR1.out x21_2 p541 q541
        have hw541_2 := hx541_2
        have hw541_1 := hx541_1
        have hw541_0 := hx541_0
        cases e541
        replace hx541_0 := bt_ HB hx541_0
        replace hx541_1 := bt_ HB hx541_1
        replace hx541_2 := bt_ HB hx541_2
        have HR541_1 := Q_ hi541_1
        have HC541_1 := Q_ hl541_1
        clear hi541_1 hl541_1
        have HR541_2 := Q_ hi541_2
        have HC541_2 := Q_ hl541_2
        clear hi541_2 hl541_2
        replace p541 := eq_true p541
        replace q541 := eq_true q541
        refine start_ (n := 21) (S := fun w' => w'.cell? ⟨gb540, 0, none⟩ = some (.int .i64 ((rd_T34 l0 x21_2).f0)) ∧ w'.cell? ⟨gb540, 1, none⟩ = some (.slice A539_1 ((rd_T34 l0 x21_2).f1).length c539_1) ∧ w'.cell? ⟨gb540, 2, none⟩ = some (.slice A539_2 ((rd_T34 l0 x21_2).f2).length c539_2) ∧ w'.cell? (ad541.add ((x21_2).toNat * 3)) = some (.int .i64 ((rd_T34 l1 x21_2).f0)) ∧ w'.cell? ⟨(ad541.add ((x21_2).toNat * 3)).block, (ad541.add ((x21_2).toNat * 3)).off + 1, none⟩ = some (.slice A541_1 ((rd_T34 l1 x21_2).f1).length c541_1) ∧ w'.cell? ⟨(ad541.add ((x21_2).toNat * 3)).block, (ad541.add ((x21_2).toNat * 3)).off + 2, none⟩ = some (.slice A541_2 ((rd_T34 l1 x21_2).f2).length c541_2)) (ds := []) (tf_ 0 21) (by kernel_rfl) rfl rfl ⟨(blk_cell BK540.out 0).trans rfl, (blk_cell BK540.out 1).trans rfl, (blk_cell BK540.out 2).trans rfl, (bt_ HB hw541_0), (bt_ HB hw541_1), (bt_ HB hw541_2)⟩ (fun hHeld => ?_); refine with_tabW impl_NextOnly.tab7 impl_NextOnly.bits7 (fun HT_ HW_ => ?_)
        generalize w15.drew = w16 at BK540 HB HR541_1 HR541_2 hx541_0 hx541_1 hx541_2 hHeld ⊢
        refine pu_ 1 (some 27) (tm_ 21 2) HT_ ?_
        refine pu_ 2 (some 28) (tm_ 21 6) HT_ ?_
        refine pu_ 3 (some 29) (tm_ 21 14) HT_ ?_
        refine ta_ 0 (some 26) (tf_ 4 21) HT_ HW_ hHeld ?_
        refine ta_ 4 (some 30) (tf_ 5 21) HT_ HW_ hHeld ?_
        refine on_ 5 (some 31) (tf_ 6 21) HT_ (fun K hK => ?_)
        refine goes_ Try.func42 (by kernel_rfl) rfl #[.agg #[.int .i64 ((rd_T34 l0 x21_2).f0), .slice A539_1 ((rd_T34 l0 x21_2).f1).length c539_1, .slice A539_2 ((rd_T34 l0 x21_2).f2).length c539_2], .agg #[.int .i64 ((rd_T34 l1 x21_2).f0), .slice A541_1 ((rd_T34 l1 x21_2).f1).length c541_1, .slice A541_2 ((rd_T34 l1 x21_2).f2).length c541_2]] (by rfl) rfl rfl mp_ ?_
        with_reducible refine (impl_IsSafe.calls k2 ((rd_T34 l0 x21_2).f0) _ _ ((rd_T34 l0 x21_2).f1) _ _ ((rd_T34 l0 x21_2).f2) ((rd_T34 l1 x21_2).f0) _ _ ((rd_T34 l1 x21_2).f1) _ _ ((rd_T34 l1 x21_2).f2) false _ ?side1 ?side2 ?side3 ?side4 ?side5 ?side6 ?side7 ?side8 A13.out).mono ?_
        (case side1 => exact cb_ HR539_1 HB)
        (case side2 => exact HC539_1.out)
        (case side3 => exact cb_ HR539_2 HB)
        (case side4 => exact HC539_2.out)
        (case side5 => exact cb_ HR541_1 HB)
        (case side6 => exact HC541_1.out)
        (case side7 => exact cb_ HR541_2 HB)
        (case side8 => exact HC541_2.out)
        rintro e w17 ⟨rfl, hb⟩
        refine ⟨_, rfl, ?_⟩
        have _ := Q_ (bb_ BK540.out hb)
        have _ := Q_ (below_step (pb1_ HB.out GE540.out) hb)
        clear BK540 HB
        rename_i BK540 HB
        (try clear hb)
        (try clear hb2)
        (try clear hk)
        (try clear hi)
        refine hK.out _ _ ⟨(blk_cell BK540.out 0).trans rfl, (blk_cell BK540.out 1).trans rfl, (blk_cell BK540.out 2).trans rfl, (bt_ HB hw541_0), (bt_ HB hw541_1), (bt_ HB hw541_2)⟩ (fun hHeld => ?_)
        clear hK K
        refine no_ (some 31) ?_
        refine pu_ 6 (some 32) (tf_ 7 21) HT_ ?_
        refine pu_ 7 (some 33) (tf_ 8 21) HT_ ?_
        refine pn_ 8 (some 34) (tf_ 9 21) HT_ ?_
        refine pn_ 9 (some 35) (tf_ 10 21) HT_ ?_
        refine pn_ 10 (some 36) (tf_ 11 21) HT_ ?_
        refine pn_ 11 (some 37) (tf_ 12 21) HT_ ?_
        refine pn_ 12 (some 38) (tf_ 13 21) HT_ ?_
        refine pn_ 13 (some 39) (tf_ 14 21) HT_ ?_
        refine pn_ 14 (some 40) (tf_ 15 21) HT_ ?_
        refine pn_ 15 (some 41) (tf_ 16 21) HT_ ?_
        refine pn_ 16 (some 42) (tf_ 17 21) HT_ ?_
        refine pn_ 17 (some 43) (tf_ 18 21) HT_ ?_
        refine pn_ 18 (some 44) (tf_ 19 21) HT_ ?_
        refine pn_ 19 (some 45) (tf_ 20 21) HT_ ?_
        refine pu_ 20 (some 46) (tf_ 21 21) HT_ ?_
        refine done_ (done_of HT_.out (by kernel_rfl)) ?_
        try go_wp2
        go_meet
        case rel => exact ⟨_, (true), el_, H', ⟨by have := HJ2.out; have := HK2.out; first | omega | exact Nat.le_refl _⟩, ⟨pk_ BK540.out⟩, ⟨pb1_ HB.out GE540.out⟩⟩
      subst c14
      rw [if_pos rfl] at H
      by_cases c18 : x21_2 > 0
      rotate_left
      · rw [if_neg c18] at H
        have c18b0 : decide (0 < x21_2) = false := decide_eq_false c18
        clear c18
        have H' := Q_ H
        clear H
        try go_wp2
        have n0_ : Aside0 ((((w10.setCell ⟨gb540, 0, none⟩ (.int .i64 ((rd_T34 l0 x21_2).f0))).setCell ⟨gb540, 1, none⟩ (.slice A539_1 ((rd_T34 l0 x21_2).f1).length c539_1)).setCell ⟨gb540, 2, none⟩ (.slice A539_2 ((rd_T34 l0 x21_2).f2).length c539_2)).heap[gb540]? = some (.cells #[.int .i64 ((rd_T34 l0 x21_2).f0), .slice A539_1 ((rd_T34 l0 x21_2).f1).length c539_1, .slice A539_2 ((rd_T34 l0 x21_2).f2).length c539_2] 34 (0, 0))) := ⟨pp_ BK540.out⟩
        have n1_ : Aside0 (Below w.heap.size w (((w10.setCell ⟨gb540, 0, none⟩ (.int .i64 ((rd_T34 l0 x21_2).f0))).setCell ⟨gb540, 1, none⟩ (.slice A539_1 ((rd_T34 l0 x21_2).f1).length c539_1)).setCell ⟨gb540, 2, none⟩ (.slice A539_2 ((rd_T34 l0 x21_2).f2).length c539_2))) := ⟨pb1_ HB.out GE540.out⟩
        (try clear BK540)
        (try clear HB)
        generalize (((w10.setCell ⟨gb540, 0, none⟩ (.int .i64 ((rd_T34 l0 x21_2).f0))).setCell ⟨gb540, 1, none⟩ (.slice A539_1 ((rd_T34 l0 x21_2).f1).length c539_1)).setCell ⟨gb540, 2, none⟩ (.slice A539_2 ((rd_T34 l0 x21_2).f2).length c539_2)) = w19 at n0_ n1_ ⊢
        (try (rw [show w19.drewN nd = w19.drewN nd from rfl]; replace n0_ := Q_ (blk_drewN n0_.out nd); replace n1_ := Q_ (pw_below_drewN n1_.out nd); generalize w19.drewN nd = w19 at n0_ n1_ ⊢))
        have BK540 := n0_
        have HB := n1_
        clear n0_ n1_
        have _ := Q_ (blk_drew BK540.out)
        have _ := Q_ (below_drew1 HB.out)
        clear BK540 HB
        rename_i BK540 HB
        have p541 : 0 ≤ (x21_2 : Int) := dt_
        have q541 : x21_2 < (l1.length : Int) := dt_
        obtain ⟨ad541, A541_1, c541_1, A541_2, c541_2, e541, hx541_0, hx541_1, hx541_2, hl541_1, hi541_1, hl541_2, hi541_2⟩ := at_T34 HR1.out x21_2 p541 q541
        have hw541_2 := hx541_2
        have hw541_1 := hx541_1
        have hw541_0 := hx541_0
        cases e541
        replace hx541_0 := bt_ HB hx541_0
        replace hx541_1 := bt_ HB hx541_1
        replace hx541_2 := bt_ HB hx541_2
        have HR541_1 := Q_ hi541_1
        have HC541_1 := Q_ hl541_1
        clear hi541_1 hl541_1
        have HR541_2 := Q_ hi541_2
        have HC541_2 := Q_ hl541_2
        clear hi541_2 hl541_2
        replace p541 := eq_true p541
        replace q541 := eq_true q541
        refine start_ (n := 21) (S := fun w' => w'.cell? ⟨gb540, 0, none⟩ = some (.int .i64 ((rd_T34 l0 x21_2).f0)) ∧ w'.cell? ⟨gb540, 1, none⟩ = some (.slice A539_1 ((rd_T34 l0 x21_2).f1).length c539_1) ∧ w'.cell? ⟨gb540, 2, none⟩ = some (.slice A539_2 ((rd_T34 l0 x21_2).f2).length c539_2) ∧ w'.cell? (ad541.add ((x21_2).toNat * 3)) = some (.int .i64 ((rd_T34 l1 x21_2).f0)) ∧ w'.cell? ⟨(ad541.add ((x21_2).toNat * 3)).block, (ad541.add ((x21_2).toNat * 3)).off + 1, none⟩ = some (.slice A541_1 ((rd_T34 l1 x21_2).f1).length c541_1) ∧ w'.cell? ⟨(ad541.add ((x21_2).toNat * 3)).block, (ad541.add ((x21_2).toNat * 3)).off + 2, none⟩ = some (.slice A541_2 ((rd_T34 l1 x21_2).f2).length c541_2)) (ds := []) (tf_ 0 21) (by kernel_rfl) rfl rfl ⟨(blk_cell BK540.out 0).trans rfl, (blk_cell BK540.out 1).trans rfl, (blk_cell BK540.out 2).trans rfl, (bt_ HB hw541_0), (bt_ HB hw541_1), (bt_ HB hw541_2)⟩ (fun hHeld => ?_); refine with_tabW impl_NextOnly.tab7 impl_NextOnly.bits7 (fun HT_ HW_ => ?_)
        generalize w19.drew = w20 at BK540 HB HR541_1 HR541_2 hx541_0 hx541_1 hx541_2 hHeld ⊢
        refine pu_ 1 (some 27) (tm_ 21 2) HT_ ?_
        refine pu_ 2 (some 28) (tm_ 21 6) HT_ ?_
        refine pu_ 3 (some 29) (tm_ 21 14) HT_ ?_
        refine ta_ 0 (some 26) (tf_ 4 21) HT_ HW_ hHeld ?_
        refine ta_ 4 (some 30) (tf_ 5 21) HT_ HW_ hHeld ?_
        refine on_ 5 (some 31) (tf_ 6 21) HT_ (fun K hK => ?_)
        refine goes_ Try.func42 (by kernel_rfl) rfl #[.agg #[.int .i64 ((rd_T34 l0 x21_2).f0), .slice A539_1 ((rd_T34 l0 x21_2).f1).length c539_1, .slice A539_2 ((rd_T34 l0 x21_2).f2).length c539_2], .agg #[.int .i64 ((rd_T34 l1 x21_2).f0), .slice A541_1 ((rd_T34 l1 x21_2).f1).length c541_1, .slice A541_2 ((rd_T34 l1 x21_2).f2).length c541_2]] (by rfl) rfl rfl mp_ ?_
        with_reducible refine (impl_IsSafe.calls k2 ((rd_T34 l0 x21_2).f0) _ _ ((rd_T34 l0 x21_2).f1) _ _ ((rd_T34 l0 x21_2).f2) ((rd_T34 l1 x21_2).f0) _ _ ((rd_T34 l1 x21_2).f1) _ _ ((rd_T34 l1 x21_2).f2) true _ ?side1 ?side2 ?side3 ?side4 ?side5 ?side6 ?side7 ?side8 A13.out).mono ?_
        (case side1 => exact cb_ HR539_1 HB)
        (case side2 => exact HC539_1.out)
        (case side3 => exact cb_ HR539_2 HB)
        (case side4 => exact HC539_2.out)
        (case side5 => exact cb_ HR541_1 HB)
        (case side6 => exact HC541_1.out)
        (case side7 => exact cb_ HR541_2 HB)
        (case side8 => exact HC541_2.out)
        rintro e w21 ⟨rfl, hb⟩
        refine ⟨_, rfl, ?_⟩
        have _ := Q_ (bb_ BK540.out hb)
        have _ := Q_ (below_step (pb1_ HB.out GE540.out) hb)
        clear BK540 HB
        rename_i BK540 HB
        (try clear hb)
        (try clear hb2)
        (try clear hk)
        (try clear hi)
        refine hK.out _ _ ⟨(blk_cell BK540.out 0).trans rfl, (blk_cell BK540.out 1).trans rfl, (blk_cell BK540.out 2).trans rfl, (bt_ HB hw541_0), (bt_ HB hw541_1), (bt_ HB hw541_2)⟩ (fun hHeld => ?_)
        clear hK K
        refine no_ (some 31) ?_
        refine pu_ 6 (some 32) (tf_ 7 21) HT_ ?_
        refine pu_ 7 (some 33) (tf_ 8 21) HT_ ?_
        refine pu_ 8 (some 34) (tf_ 9 21) HT_ ?_
        refine pu_ 9 (some 35) (tf_ 10 21) HT_ ?_
        refine pu_ 10 (some 36) (tf_ 11 21) HT_ ?_
        refine pn_ 11 (some 37) (tf_ 12 21) HT_ ?_
        refine pn_ 12 (some 38) (tf_ 13 21) HT_ ?_
        refine pn_ 13 (some 39) (tf_ 14 21) HT_ ?_
        refine pn_ 14 (some 40) (tf_ 15 21) HT_ ?_
        refine pn_ 15 (some 41) (tf_ 16 21) HT_ ?_
        refine pn_ 16 (some 42) (tf_ 17 21) HT_ ?_
        refine pn_ 17 (some 43) (tf_ 18 21) HT_ ?_
        refine pn_ 18 (some 44) (tf_ 19 21) HT_ ?_
        refine pu_ 19 (some 45) (tf_ 20 21) HT_ ?_
        refine pu_ 20 (some 46) (tf_ 21 21) HT_ ?_
        refine done_ (done_of HT_.out (by kernel_rfl)) ?_
        try go_wp2
        go_meet
        case rel => exact ⟨_, (false), el_, H', ⟨by have := HJ2.out; have := HK2.out; first | omega | exact Nat.le_refl _⟩, ⟨pk_ BK540.out⟩, ⟨pb1_ HB.out GE540.out⟩⟩
      rw [if_pos c18] at H
      have c18b0 : decide (0 < x21_2) = true := decide_eq_true c18
      clear c18
      obtain ⟨ji22, hji22⟩ : ∃ j_ : Int, (wrap64 (x21_2 - 1)) = j_ := ⟨_, rfl⟩
      replace H : (if 0 ≤ (ji22) then (if (ji22) < (l1.length : Int) then ((impl_IsSafe.f k2 ((rd_T34 l0 x21_2).f0) ((rd_T34 l0 x21_2).f1) ((rd_T34 l0 x21_2).f2) ((rd_T34 l1 (ji22)).f0) ((rd_T34 l1 (ji22)).f1) ((rd_T34 l1 (ji22)).f2)).bind fun t544 => (impl_NextOnly.j2 k2 l1 x5_2 x21_2 l0 (l0.length : Int) x21_2 (!t544) ((rd_T34 l0 x21_2).f0) ((rd_T34 l0 x21_2).f1) ((rd_T34 l0 x21_2).f2))) else (none)) else (none)) = some r := by first | (rw [hji22] at H; exact H) | (simp only [hji22] at H ⊢; exact H)
      (try rw [hji22] at A13)
      have hji22w : (IntKind.i64.wrap (x21_2 - 1)) = ji22 := (i64_w _).trans hji22
      by_cases c23 : 0 ≤ (ji22)
      rotate_left
      · rw [if_neg c23] at H
        exact absurd H (by simp)
      rw [if_pos c23] at H
      have c23b0 : decide (0 ≤ (ji22)) = true := decide_eq_true c23
      clear c23
      by_cases c24 : (ji22) < (l1.length : Int)
      rotate_left
      · rw [if_neg c24] at H
        exact absurd H (by simp)
      rw [if_pos c24] at H
      have c24b0 : decide ((ji22) < (l1.length : Int)) = true := decide_eq_true c24
      clear c24
      replace H := Option.bind_eq_some_iff.mp H
      obtain ⟨t544, A250, H⟩ := H
      (try dsimp only at H)
      have A25 := Q_ A250
      clear A250
      have H' := Q_ H
      clear H
      try go_wp2
      have n0_ : Aside0 ((((w10.setCell ⟨gb540, 0, none⟩ (.int .i64 ((rd_T34 l0 x21_2).f0))).setCell ⟨gb540, 1, none⟩ (.slice A539_1 ((rd_T34 l0 x21_2).f1).length c539_1)).setCell ⟨gb540, 2, none⟩ (.slice A539_2 ((rd_T34 l0 x21_2).f2).length c539_2)).heap[gb540]? = some (.cells #[.int .i64 ((rd_T34 l0 x21_2).f0), .slice A539_1 ((rd_T34 l0 x21_2).f1).length c539_1, .slice A539_2 ((rd_T34 l0 x21_2).f2).length c539_2] 34 (0, 0))) := ⟨pp_ BK540.out⟩
      have n1_ : Aside0 (Below w.heap.size w (((w10.setCell ⟨gb540, 0, none⟩ (.int .i64 ((rd_T34 l0 x21_2).f0))).setCell ⟨gb540, 1, none⟩ (.slice A539_1 ((rd_T34 l0 x21_2).f1).length c539_1)).setCell ⟨gb540, 2, none⟩ (.slice A539_2 ((rd_T34 l0 x21_2).f2).length c539_2))) := ⟨pb1_ HB.out GE540.out⟩
      (try clear BK540)
      (try clear HB)
      generalize (((w10.setCell ⟨gb540, 0, none⟩ (.int .i64 ((rd_T34 l0 x21_2).f0))).setCell ⟨gb540, 1, none⟩ (.slice A539_1 ((rd_T34 l0 x21_2).f1).length c539_1)).setCell ⟨gb540, 2, none⟩ (.slice A539_2 ((rd_T34 l0 x21_2).f2).length c539_2)) = w26 at n0_ n1_ ⊢
      (try (rw [show w26.drewN nd = w26.drewN nd from rfl]; replace n0_ := Q_ (blk_drewN n0_.out nd); replace n1_ := Q_ (pw_below_drewN n1_.out nd); generalize w26.drewN nd = w26 at n0_ n1_ ⊢))
      have BK540 := n0_
      have HB := n1_
      clear n0_ n1_
      have _ := Q_ (blk_drew BK540.out)
      have _ := Q_ (below_drew1 HB.out)
      clear BK540 HB
      rename_i BK540 HB
      have p541 : 0 ≤ (x21_2 : Int) := dt_
      have q541 : x21_2 < (l1.length : Int) := dt_
      obtain ⟨ad541, A541_1, c541_1, A541_2, c541_2, e541, hx541_0, hx541_1, hx541_2, hl541_1, hi541_1, hl541_2, hi541_2⟩ := at_T34 HR1.out x21_2 p541 q541
      have hw541_2 := hx541_2
      have hw541_1 := hx541_1
      have hw541_0 := hx541_0
      cases e541
      replace hx541_0 := bt_ HB hx541_0
      replace hx541_1 := bt_ HB hx541_1
      replace hx541_2 := bt_ HB hx541_2
      have HR541_1 := Q_ hi541_1
      have HC541_1 := Q_ hl541_1
      clear hi541_1 hl541_1
      have HR541_2 := Q_ hi541_2
      have HC541_2 := Q_ hl541_2
      clear hi541_2 hl541_2
      replace p541 := eq_true p541
      replace q541 := eq_true q541
      have p543 : 0 ≤ ((ji22) : Int) := dt_
      have q543 : (ji22) < (l1.length : Int) := dt_
      obtain ⟨ad543, A543_1, c543_1, A543_2, c543_2, e543, hx543_0, hx543_1, hx543_2, hl543_1, hi543_1, hl543_2, hi543_2⟩ := at_T34 HR1.out (ji22) p543 q543
      have hw543_2 := hx543_2
      have hw543_1 := hx543_1
      have hw543_0 := hx543_0
      obtain rfl : ad541 = ad543 := (by injection e543)
      replace hx543_0 := bt_ HB hx543_0
      replace hx543_1 := bt_ HB hx543_1
      replace hx543_2 := bt_ HB hx543_2
      have HR543_1 := Q_ hi543_1
      have HC543_1 := Q_ hl543_1
      clear hi543_1 hl543_1
      have HR543_2 := Q_ hi543_2
      have HC543_2 := Q_ hl543_2
      clear hi543_2 hl543_2
      replace p543 := eq_true p543
      replace q543 := eq_true q543
      refine start_ (n := 21) (S := fun w' => w'.cell? ⟨gb540, 0, none⟩ = some (.int .i64 ((rd_T34 l0 x21_2).f0)) ∧ w'.cell? ⟨gb540, 1, none⟩ = some (.slice A539_1 ((rd_T34 l0 x21_2).f1).length c539_1) ∧ w'.cell? ⟨gb540, 2, none⟩ = some (.slice A539_2 ((rd_T34 l0 x21_2).f2).length c539_2) ∧ w'.cell? (ad541.add ((x21_2).toNat * 3)) = some (.int .i64 ((rd_T34 l1 x21_2).f0)) ∧ w'.cell? ⟨(ad541.add ((x21_2).toNat * 3)).block, (ad541.add ((x21_2).toNat * 3)).off + 1, none⟩ = some (.slice A541_1 ((rd_T34 l1 x21_2).f1).length c541_1) ∧ w'.cell? ⟨(ad541.add ((x21_2).toNat * 3)).block, (ad541.add ((x21_2).toNat * 3)).off + 2, none⟩ = some (.slice A541_2 ((rd_T34 l1 x21_2).f2).length c541_2) ∧ w'.cell? (ad541.add (((ji22)).toNat * 3)) = some (.int .i64 ((rd_T34 l1 (ji22)).f0)) ∧ w'.cell? ⟨(ad541.add (((ji22)).toNat * 3)).block, (ad541.add (((ji22)).toNat * 3)).off + 1, none⟩ = some (.slice A543_1 ((rd_T34 l1 (ji22)).f1).length c543_1) ∧ w'.cell? ⟨(ad541.add (((ji22)).toNat * 3)).block, (ad541.add (((ji22)).toNat * 3)).off + 2, none⟩ = some (.slice A543_2 ((rd_T34 l1 (ji22)).f2).length c543_2)) (ds := []) (tf_ 0 21) (by kernel_rfl) rfl rfl ⟨(blk_cell BK540.out 0).trans rfl, (blk_cell BK540.out 1).trans rfl, (blk_cell BK540.out 2).trans rfl, (bt_ HB hw541_0), (bt_ HB hw541_1), (bt_ HB hw541_2), (bt_ HB hw543_0), (bt_ HB hw543_1), (bt_ HB hw543_2)⟩ (fun hHeld => ?_); refine with_tabW impl_NextOnly.tab7 impl_NextOnly.bits7 (fun HT_ HW_ => ?_)
      generalize w26.drew = w27 at BK540 HB HR541_1 HR541_2 HR543_1 HR543_2 hx541_0 hx541_1 hx541_2 hx543_0 hx543_1 hx543_2 hHeld ⊢
      refine pu_ 1 (some 27) (tm_ 21 2) HT_ ?_
      refine pu_ 2 (some 28) (tm_ 21 6) HT_ ?_
      refine pu_ 3 (some 29) (tm_ 21 14) HT_ ?_
      refine ta_ 0 (some 26) (tf_ 4 21) HT_ HW_ hHeld ?_
      refine ta_ 4 (some 30) (tf_ 5 21) HT_ HW_ hHeld ?_
      refine on_ 5 (some 31) (tf_ 6 21) HT_ (fun K hK => ?_)
      refine goes_ Try.func42 (by kernel_rfl) rfl #[.agg #[.int .i64 ((rd_T34 l0 x21_2).f0), .slice A539_1 ((rd_T34 l0 x21_2).f1).length c539_1, .slice A539_2 ((rd_T34 l0 x21_2).f2).length c539_2], .agg #[.int .i64 ((rd_T34 l1 x21_2).f0), .slice A541_1 ((rd_T34 l1 x21_2).f1).length c541_1, .slice A541_2 ((rd_T34 l1 x21_2).f2).length c541_2]] (by rfl) rfl rfl mp_ ?_
      with_reducible refine (impl_IsSafe.calls k2 ((rd_T34 l0 x21_2).f0) _ _ ((rd_T34 l0 x21_2).f1) _ _ ((rd_T34 l0 x21_2).f2) ((rd_T34 l1 x21_2).f0) _ _ ((rd_T34 l1 x21_2).f1) _ _ ((rd_T34 l1 x21_2).f2) true _ ?side1 ?side2 ?side3 ?side4 ?side5 ?side6 ?side7 ?side8 A13.out).mono ?_
      (case side1 => exact cb_ HR539_1 HB)
      (case side2 => exact HC539_1.out)
      (case side3 => exact cb_ HR539_2 HB)
      (case side4 => exact HC539_2.out)
      (case side5 => exact cb_ HR541_1 HB)
      (case side6 => exact HC541_1.out)
      (case side7 => exact cb_ HR541_2 HB)
      (case side8 => exact HC541_2.out)
      rintro e w28 ⟨rfl, hb⟩
      refine ⟨_, rfl, ?_⟩
      have _ := Q_ (bb_ BK540.out hb)
      have _ := Q_ (below_step (pb1_ HB.out GE540.out) hb)
      clear BK540 HB
      rename_i BK540 HB
      (try clear hb)
      (try clear hb2)
      (try clear hk)
      (try clear hi)
      refine hK.out _ _ ⟨(blk_cell BK540.out 0).trans rfl, (blk_cell BK540.out 1).trans rfl, (blk_cell BK540.out 2).trans rfl, (bt_ HB hw541_0), (bt_ HB hw541_1), (bt_ HB hw541_2), (bt_ HB hw543_0), (bt_ HB hw543_1), (bt_ HB hw543_2)⟩ (fun hHeld => ?_)
      clear hK K
      refine no_ (some 31) ?_
      refine pu_ 6 (some 32) (tf_ 7 21) HT_ ?_
      refine pu_ 7 (some 33) (tf_ 8 21) HT_ ?_
      refine pu_ 8 (some 34) (tf_ 9 21) HT_ ?_
      refine pu_ 9 (some 35) (tf_ 10 21) HT_ ?_
      refine pu_ 10 (some 36) (tf_ 11 21) HT_ ?_
      refine pu_ 12 (some 38) (tm_ 21 6143) HT_ ?_
      refine pu_ 13 (some 39) (tm_ 21 14335) HT_ ?_
      refine pu_ 14 (some 40) (tm_ 21 30719) HT_ ?_
      refine pu_ 15 (some 41) (tm_ 21 63487) HT_ ?_
      refine ta_ 11 (some 37) (tf_ 16 21) HT_ HW_ hHeld ?_
      refine ta_ 16 (some 42) (tf_ 17 21) HT_ HW_ hHeld ?_
      refine on_ 17 (some 43) (tf_ 18 21) HT_ (fun K hK => ?_)
      refine goes_ Try.func42 (by kernel_rfl) rfl #[.agg #[.int .i64 ((rd_T34 l0 x21_2).f0), .slice A539_1 ((rd_T34 l0 x21_2).f1).length c539_1, .slice A539_2 ((rd_T34 l0 x21_2).f2).length c539_2], .agg #[.int .i64 ((rd_T34 l1 (ji22)).f0), .slice A543_1 ((rd_T34 l1 (ji22)).f1).length c543_1, .slice A543_2 ((rd_T34 l1 (ji22)).f2).length c543_2]] (by rfl) rfl rfl (by (try simp only [List.map_toArray, List.map_cons, List.map_nil]); first | done | (simp only [hji22]; rfl) | rfl | (simp only [List.length_drop, List.length_take]; rfl)) ?_
      with_reducible refine (impl_IsSafe.calls k2 ((rd_T34 l0 x21_2).f0) _ _ ((rd_T34 l0 x21_2).f1) _ _ ((rd_T34 l0 x21_2).f2) ((rd_T34 l1 (ji22)).f0) _ _ ((rd_T34 l1 (ji22)).f1) _ _ ((rd_T34 l1 (ji22)).f2) t544 _ ?side1 ?side2 ?side3 ?side4 ?side5 ?side6 ?side7 ?side8 A25.out).mono ?_
      (case side1 => exact cb_ HR539_1 HB)
      (case side2 => exact HC539_1.out)
      (case side3 => exact cb_ HR539_2 HB)
      (case side4 => exact HC539_2.out)
      (case side5 => exact cb_ HR543_1 HB)
      (case side6 => exact HC543_1.out)
      (case side7 => exact cb_ HR543_2 HB)
      (case side8 => exact HC543_2.out)
      rintro e w29 ⟨rfl, hb⟩
      refine ⟨_, rfl, ?_⟩
      have _ := Q_ (bb_ BK540.out hb)
      have _ := Q_ (below_step (pb1_ HB.out GE540.out) hb)
      clear BK540 HB
      rename_i BK540 HB
      (try clear hb)
      (try clear hb2)
      (try clear hk)
      (try clear hi)
      refine hK.out _ _ ⟨(blk_cell BK540.out 0).trans rfl, (blk_cell BK540.out 1).trans rfl, (blk_cell BK540.out 2).trans rfl, (bt_ HB hw541_0), (bt_ HB hw541_1), (bt_ HB hw541_2), (bt_ HB hw543_0), (bt_ HB hw543_1), (bt_ HB hw543_2)⟩ (fun hHeld => ?_)
      clear hK K
      refine no_ (some 43) ?_
      refine pu_ 18 (some 44) (tf_ 19 21) HT_ ?_
      refine pu_ 19 (some 45) (tf_ 20 21) HT_ ?_
      refine pu_ 20 (some 46) (tf_ 21 21) HT_ ?_
      refine done_ (done_of HT_.out (by kernel_rfl)) ?_
      try go_wp2
      go_meet
      case rel => exact ⟨_, (!t544), el_, H', ⟨by have := HJ2.out; have := HK2.out; first | omega | exact Nat.le_refl _⟩, ⟨pk_ BK540.out⟩, ⟨pb1_ HB.out GE540.out⟩⟩
    clear HC9
    try clear c1
    try clear c2
    try clear p2
    try clear c4
    try clear c5
    try clear p5
    try clear q5
    try clear hx5
    try clear p6
    try clear c14
    try clear c18
    try clear c18b0
    try clear c23
    try clear c23b0
    try clear c24
    try clear c24b0
    try clear hx541_0
    try clear hx541_1
    try clear hx541_2
    try clear hx543_0
    try clear hx543_1
    try clear hx543_2
    try clear p541
    try clear p543
    try clear q541
    try clear q543
    obtain ⟨kq, x46_8, rfl, HA, HJ8, BK540, HB⟩ := hcut
    rcases kq with _ | kj8
    · exact absurd HA.out (by simp [impl_NextOnly.j2])
    have H := HA.out
    clear HA
    simp only [impl_NextOnly.j2] at H
    by_cases c30 : x46_8 = true
    rotate_left
    · replace c30 := Bool.eq_false_iff.mpr c30
      subst c30
      rw [if_neg (show ¬ (false = true) by decide)] at H
      have H' := Q_ H
      clear H
      go_wp2
      go_loopg [5, 48] kj8 (fun kq v5 v48 w' => ∃ (x5_4 : Bool) (x48_4 : Int), v5 = .bool x5_4 ∧ v48 = .int .i64 x48_4 ∧ Aside0 (impl_NextOnly.l1 kq l1 x5_4 l0 (l0.length : Int) x21_2 x21_2 x48_4 ((rd_T34 l0 x21_2).f0) ((rd_T34 l0 x21_2).f1) ((rd_T34 l0 x21_2).f2) = some r) ∧ Aside0 (kq ≤ kj8) ∧ Aside0 (w'.heap[gb540]? = some (.cells #[.int .i64 ((rd_T34 l0 x21_2).f0), (.slice A539_1 ((rd_T34 l0 x21_2).f1).length c539_1), (.slice A539_2 ((rd_T34 l0 x21_2).f2).length c539_2)] 34 (0, 0))) ∧ Aside0 (Below w.heap.size w w'))
      case atStart => exact ⟨(x5_2), (0), el_, el_, H', ⟨Nat.le_refl _⟩, ⟨pk_ BK540.out⟩, ⟨pb1_ HB.out GE540.out⟩⟩
      clear H'
      try clear c1
      try clear c2
      try clear p2
      try clear c3
      try clear c4
      try clear c5
      try clear p5
      try clear q5
      try clear hx5
      try clear p6
      try clear c14
      try clear c18
      try clear c18b0
      try clear c23
      try clear c23b0
      try clear c24
      try clear c24b0
      try clear c30
      try clear hx541_0
      try clear hx541_1
      try clear hx541_2
      try clear hx543_0
      try clear hx543_1
      try clear hx543_2
      try clear p2
      try clear p5
      try clear p541
      try clear p543
      try clear p6
      try clear q5
      try clear q541
      try clear q543
      obtain ⟨x5_4, x48_4, rfl, rfl, HA, HK4, BK540, HB⟩ := hrel
      rcases gk with _ | k4
      · exact absurd HA.out (by simp [impl_NextOnly.l1])
      have H := HA.out
      clear HA
      simp only [impl_NextOnly.l1] at H
      by_cases c31 : x48_4 < x21_2
      rotate_left
      · rw [if_neg c31] at H
        have c31b0 : decide (x48_4 < x21_2) = false := decide_eq_false c31
        clear c31
        have H' := Q_ H
        clear H
        go_wp2
        go_roundg k4
        case measure => have := HJ2.out; have := HK2.out; have := HJ8.out; have := HK4.out; omega
        case rel => exact ⟨(x5_4), (wrap64 (x21_2 + 1)), el_, el_, H', ⟨by have := HJ2.out; have := HK2.out; have := HJ8.out; have := HK4.out; omega⟩, ⟨pb1_ HB.out GE540.out⟩⟩
      rw [if_pos c31] at H
      have c31b0 : decide (x48_4 < x21_2) = true := decide_eq_true c31
      clear c31
      by_cases c32 : x5_4 = true
      · subst c32
        rw [if_pos rfl] at H
        have H' := Q_ H
        clear H
        try go_wp2
        have _ := Q_ (blk_drew BK540.out)
        have _ := Q_ (below_drew1 HB.out)
        clear BK540 HB
        rename_i BK540 HB
        refine start_ (n := 11) (S := fun w' => True) (ds := []) (tf_ 0 11) (by kernel_rfl) rfl rfl trivial (fun hHeld => ?_); refine with_tabW impl_NextOnly.tab12 impl_NextOnly.bits12 (fun HT_ HW_ => ?_)
        generalize wr.drew = w33 at BK540 HB hHeld ⊢
        refine pu_ 0 (some 51) (tf_ 1 11) HT_ ?_
        refine pu_ 1 (some 52) (tf_ 2 11) HT_ ?_
        refine pn_ 2 (some 53) (tf_ 3 11) HT_ ?_
        refine pn_ 3 (some 54) (tf_ 4 11) HT_ ?_
        refine pn_ 4 (some 55) (tf_ 5 11) HT_ ?_
        refine pn_ 5 (some 56) (tf_ 6 11) HT_ ?_
        refine pn_ 6 (some 57) (tf_ 7 11) HT_ ?_
        refine pn_ 7 (some 58) (tf_ 8 11) HT_ ?_
        refine pn_ 8 (some 59) (tf_ 9 11) HT_ ?_
        refine pu_ 9 (some 60) (tf_ 10 11) HT_ ?_
        refine pu_ 10 (some 5) (tf_ 11 11) HT_ ?_
        refine done_ (done_of HT_.out (by kernel_rfl)) ?_
        try go_wp2
        go_roundg k4
        case measure => have := HJ2.out; have := HK2.out; have := HJ8.out; have := HK4.out; omega
        case rel => exact ⟨(true), (wrap64 (x48_4 + 1)), el_, el_, H', ⟨by have := HJ2.out; have := HK2.out; have := HJ8.out; have := HK4.out; omega⟩, ⟨pk_ BK540.out⟩, ⟨pb1_ HB.out GE540.out⟩⟩
      replace c32 := Bool.eq_false_iff.mpr c32
      subst c32
      rw [if_neg (show ¬ (false = true) by decide)] at H
      by_cases c34 : 0 ≤ x48_4
      rotate_left
      · rw [if_neg c34] at H
        exact absurd H (by simp)
      rw [if_pos c34] at H
      have c34b0 : decide (0 ≤ x48_4) = true := decide_eq_true c34
      clear c34
      by_cases c35 : x48_4 < (l1.length : Int)
      rotate_left
      · rw [if_neg c35] at H
        exact absurd H (by simp)
      rw [if_pos c35] at H
      have c35b0 : decide (x48_4 < (l1.length : Int)) = true := decide_eq_true c35
      clear c35
      replace H := Option.bind_eq_some_iff.mp H
      obtain ⟨t546, A360, H⟩ := H
      (try dsimp only at H)
      have A36 := Q_ A360
      clear A360
      have H' := Q_ H
      clear H
      try go_wp2
      have _ := Q_ (blk_drew BK540.out)
      have _ := Q_ (below_drew1 HB.out)
      clear BK540 HB
      rename_i BK540 HB
      have p545 : 0 ≤ (x48_4 : Int) := dt_
      have q545 : x48_4 < (l1.length : Int) := dt_
      obtain ⟨ad545, A545_1, c545_1, A545_2, c545_2, e545, hx545_0, hx545_1, hx545_2, hl545_1, hi545_1, hl545_2, hi545_2⟩ := at_T34 HR1.out x48_4 p545 q545
      have hw545_2 := hx545_2
      have hw545_1 := hx545_1
      have hw545_0 := hx545_0
      cases e545
      replace hx545_0 := bt_ HB hx545_0
      replace hx545_1 := bt_ HB hx545_1
      replace hx545_2 := bt_ HB hx545_2
      have HR545_1 := Q_ hi545_1
      have HC545_1 := Q_ hl545_1
      clear hi545_1 hl545_1
      have HR545_2 := Q_ hi545_2
      have HC545_2 := Q_ hl545_2
      clear hi545_2 hl545_2
      replace p545 := eq_true p545
      replace q545 := eq_true q545
      refine start_ (n := 11) (S := fun w' => w'.cell? ⟨gb540, 0, none⟩ = some (.int .i64 ((rd_T34 l0 x21_2).f0)) ∧ w'.cell? ⟨gb540, 1, none⟩ = some (.slice A539_1 ((rd_T34 l0 x21_2).f1).length c539_1) ∧ w'.cell? ⟨gb540, 2, none⟩ = some (.slice A539_2 ((rd_T34 l0 x21_2).f2).length c539_2) ∧ w'.cell? (ad545.add ((x48_4).toNat * 3)) = some (.int .i64 ((rd_T34 l1 x48_4).f0)) ∧ w'.cell? ⟨(ad545.add ((x48_4).toNat * 3)).block, (ad545.add ((x48_4).toNat * 3)).off + 1, none⟩ = some (.slice A545_1 ((rd_T34 l1 x48_4).f1).length c545_1) ∧ w'.cell? ⟨(ad545.add ((x48_4).toNat * 3)).block, (ad545.add ((x48_4).toNat * 3)).off + 2, none⟩ = some (.slice A545_2 ((rd_T34 l1 x48_4).f2).length c545_2)) (ds := []) (tf_ 0 11) (by kernel_rfl) rfl rfl ⟨(blk_cell BK540.out 0).trans rfl, (blk_cell BK540.out 1).trans rfl, (blk_cell BK540.out 2).trans rfl, (bt_ HB hw545_0), (bt_ HB hw545_1), (bt_ HB hw545_2)⟩ (fun hHeld => ?_); refine with_tabW impl_NextOnly.tab12 impl_NextOnly.bits12 (fun HT_ HW_ => ?_)
      generalize wr.drew = w37 at BK540 HB HR545_1 HR545_2 hx545_0 hx545_1 hx545_2 hHeld ⊢
      refine pu_ 0 (some 51) (tf_ 1 11) HT_ ?_
      refine pu_ 1 (some 52) (tf_ 2 11) HT_ ?_
      refine pu_ 3 (some 54) (tm_ 11 11) HT_ ?_
      refine pu_ 4 (some 55) (tm_ 11 27) HT_ ?_
      refine pu_ 5 (some 56) (tm_ 11 59) HT_ ?_
      refine ta_ 2 (some 53) (tf_ 6 11) HT_ HW_ hHeld ?_
      refine ta_ 6 (some 57) (tf_ 7 11) HT_ HW_ hHeld ?_
      refine on_ 7 (some 58) (tf_ 8 11) HT_ (fun K hK => ?_)
      refine goes_ Try.func42 (by kernel_rfl) rfl #[.agg #[.int .i64 ((rd_T34 l0 x21_2).f0), .slice A539_1 ((rd_T34 l0 x21_2).f1).length c539_1, .slice A539_2 ((rd_T34 l0 x21_2).f2).length c539_2], .agg #[.int .i64 ((rd_T34 l1 x48_4).f0), .slice A545_1 ((rd_T34 l1 x48_4).f1).length c545_1, .slice A545_2 ((rd_T34 l1 x48_4).f2).length c545_2]] (by rfl) rfl rfl mp_ ?_
      with_reducible refine (impl_IsSafe.calls k4 ((rd_T34 l0 x21_2).f0) _ _ ((rd_T34 l0 x21_2).f1) _ _ ((rd_T34 l0 x21_2).f2) ((rd_T34 l1 x48_4).f0) _ _ ((rd_T34 l1 x48_4).f1) _ _ ((rd_T34 l1 x48_4).f2) t546 _ ?side1 ?side2 ?side3 ?side4 ?side5 ?side6 ?side7 ?side8 A36.out).mono ?_
      (case side1 => exact cb_ HR539_1 HB)
      (case side2 => exact HC539_1.out)
      (case side3 => exact cb_ HR539_2 HB)
      (case side4 => exact HC539_2.out)
      (case side5 => exact cb_ HR545_1 HB)
      (case side6 => exact HC545_1.out)
      (case side7 => exact cb_ HR545_2 HB)
      (case side8 => exact HC545_2.out)
      rintro e w38 ⟨rfl, hb⟩
      refine ⟨_, rfl, ?_⟩
      have _ := Q_ (bb_ BK540.out hb)
      have _ := Q_ (below_step (pb1_ HB.out GE540.out) hb)
      clear BK540 HB
      rename_i BK540 HB
      (try clear hb)
      (try clear hb2)
      (try clear hk)
      (try clear hi)
      refine hK.out _ _ ⟨(blk_cell BK540.out 0).trans rfl, (blk_cell BK540.out 1).trans rfl, (blk_cell BK540.out 2).trans rfl, (bt_ HB hw545_0), (bt_ HB hw545_1), (bt_ HB hw545_2)⟩ (fun hHeld => ?_)
      clear hK K
      refine no_ (some 58) ?_
      refine pu_ 8 (some 59) (tf_ 9 11) HT_ ?_
      refine pu_ 9 (some 60) (tf_ 10 11) HT_ ?_
      refine pu_ 10 (some 5) (tf_ 11 11) HT_ ?_
      refine done_ (done_of HT_.out (by kernel_rfl)) ?_
      try go_wp2
      go_roundg k4
      case measure => have := HJ2.out; have := HK2.out; have := HJ8.out; have := HK4.out; omega
      case rel => exact ⟨(!t546), (wrap64 (x48_4 + 1)), el_, el_, H', ⟨by have := HJ2.out; have := HK2.out; have := HJ8.out; have := HK4.out; omega⟩, ⟨pk_ BK540.out⟩, ⟨pb1_ HB.out GE540.out⟩⟩
    subst c30
    rw [if_pos rfl] at H
    obtain rfl := Option.some.inj H
    go_wp2
    go_ret
    exact ⟨er_, pb1_ HB.out GE540.out⟩
  subst c5
  rw [if_pos rfl] at H
  obtain rfl := Option.some.inj H
  go_wp2
  go_ret
  exact ⟨er_, pb_ HB.out⟩

end Go.Proofs.Ytldcchjbaglppaa.Print
