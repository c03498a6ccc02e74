-- Written by a program of this session (printx.py) out of the translation; Lean checks it.
import Derived.Test.YtdoefkloanpliaaPrint0
import Derived.Test.YtdoefkloanpliaaPrint2
import Derived.Test.YtdoefkloanpliaaPrint8
import Derived.Test.YtdoefkloanpliaaPrint11
namespace Go.Proofs.Ytdoefkloanpliaa.Print
open Go.RowKit Go.Proofs.YtdoefkloanpliaaW.PrintWords Go.Proofs.YtdoefkloanpliaaW.PrintLast Go.Proofs.YtdoefkloanpliaaW.PrintMore Go.Proofs.Ytdoefkloanpliaa.Short
attribute [local go_sem] max2_int min2_int max_two min_two max_three min_three max_four min_four   -- for this text's walks alone
set_option linter.unusedVariables false
set_option linter.unusedSimpArgs false

/-! ### spec_EqualEndpoints: function 44 -/
mutual
def spec_EqualEndpoints.j0 : Nat → Bool → List Int → List Int → List (S67) → Int → List Int → List Int → List (S67) → Int → Option (Bool)
  | 0, _, _, _, _, _, _, _, _, _ => none
  | k + 1, x19, x609000, x609001, x609002, x609003, x610000, x610001, x610002, x610003 => if x19 = true then (some false) else (spec_EqualEndpoints.l0 k 0 x609000 x609001 x609002 x609003 x610000 x610001 x610002 x610003)
def spec_EqualEndpoints.l0 : Nat → Int → List Int → List Int → List (S67) → Int → List Int → List Int → List (S67) → Int → Option (Bool)
  | 0, _, _, _, _, _, _, _, _, _ => none
  | k + 1, x5, x609000, x609001, x609002, x609003, x610000, x610001, x610002, x610003 => if x5 < (x609002.length : Int) then (if 0 ≤ x5 then (if x5 < (x610002.length : Int) then ((spec_EqualBoxes.f k ((rd_T67 x609002 x5).f0) ((rd_T67 x609002 x5).f1) ((rd_T67 x609002 x5).f2) ((rd_T67 x609002 x5).f3) ((rd_T67 x610002 x5).f0) ((rd_T67 x610002 x5).f1) ((rd_T67 x610002 x5).f2) ((rd_T67 x610002 x5).f3)).bind fun t612 => (if t612 = true then (spec_EqualEndpoints.l0 k (wrap64 (x5 + 1)) x609000 x609001 x609002 x609003 x610000 x610001 x610002 x610003) else (some false))) else (none)) else (none)) else ((spec_EqualInts.f k x609000 x610000).bind fun t613 => (if t613 = true then ((spec_EqualInts.f k x609001 x610001).bind fun t614 => (some t614)) else (some false)))
end
def spec_EqualEndpoints.f (k : Nat) (l0_0 : List Int) (l0_1 : List Int) (l0_2 : List (S67)) (a0_3 : Int) (l1_0 : List Int) (l1_1 : List Int) (l1_2 : List (S67)) (a1_3 : Int) : Option (Bool) := if (l0_2.length : Int) = (l1_2.length : Int) then (spec_EqualEndpoints.j0 k (a0_3 != a1_3) l0_0 l0_1 l0_2 a0_3 l1_0 l1_1 l1_2 a1_3) else (spec_EqualEndpoints.j0 k true l0_0 l0_1 l0_2 a0_3 l1_0 l1_1 l1_2 a1_3)
theorem spec_EqualEndpoints.mono_l : ∀ k, (∀ y0 y1 y2 y3 y4 y5 y6 y7 y8, LeO (spec_EqualEndpoints.j0 k y0 y1 y2 y3 y4 y5 y6 y7 y8) (spec_EqualEndpoints.j0 (k + 1) y0 y1 y2 y3 y4 y5 y6 y7 y8)) ∧ (∀ y0 y1 y2 y3 y4 y5 y6 y7 y8, LeO (spec_EqualEndpoints.l0 k y0 y1 y2 y3 y4 y5 y6 y7 y8) (spec_EqualEndpoints.l0 (k + 1) y0 y1 y2 y3 y4 y5 y6 y7 y8))
  | 0 => ⟨fun _ _ _ _ _ _ _ _ _ r h => by simp [spec_EqualEndpoints.j0] at h, fun _ _ _ _ _ _ _ _ _ r h => by simp [spec_EqualEndpoints.l0] at h⟩
  | k + 1 => by
    obtain ⟨ih0, ih1⟩ := spec_EqualEndpoints.mono_l k
    refine ⟨?_, ?_⟩
    · intro y0 y1 y2 y3 y4 y5 y6 y7 y8
      unfold spec_EqualEndpoints.j0
      repeat' first
      | (with_reducible exact ih0 _ _ _ _ _ _ _ _ _)
      | (with_reducible exact ih1 _ _ _ _ _ _ _ _ _)
      | (with_reducible exact spec_EqualBoxes.mono _ _ _ _ _ _ _ _ _)
      | (with_reducible exact spec_EqualInts.mono _ _ _)
      | (with_reducible exact LeO.refl _)
      | (with_reducible exact LeO.none _)
      | (with_reducible refine LeO.ite ?_ ?_)
      | (with_reducible refine LeO.bind ?_ (fun _ => ?_))
      | exact ih0 _ _ _ _ _ _ _ _ _
      | exact ih1 _ _ _ _ _ _ _ _ _
      | exact spec_EqualBoxes.mono _ _ _ _ _ _ _ _ _
      | exact spec_EqualInts.mono _ _ _
      | exact LeO.none _
      | refine LeO.ite ?_ ?_
      | refine LeO.bind ?_ (fun _ => ?_)
    · intro y0 y1 y2 y3 y4 y5 y6 y7 y8
      unfold spec_EqualEndpoints.l0
      repeat' first
      | (with_reducible exact ih0 _ _ _ _ _ _ _ _ _)
      | (with_reducible exact ih1 _ _ _ _ _ _ _ _ _)
      | (with_reducible exact spec_EqualBoxes.mono _ _ _ _ _ _ _ _ _)
      | (with_reducible exact spec_EqualInts.mono _ _ _)
      | (with_reducible exact LeO.refl _)
      | (with_reducible exact LeO.none _)
      | (with_reducible refine LeO.ite ?_ ?_)
      | (with_reducible refine LeO.bind ?_ (fun _ => ?_))
      | exact ih0 _ _ _ _ _ _ _ _ _
      | exact ih1 _ _ _ _ _ _ _ _ _
      | exact spec_EqualBoxes.mono _ _ _ _ _ _ _ _ _
      | exact spec_EqualInts.mono _ _ _
      | exact LeO.none _
      | refine LeO.ite ?_ ?_
      | refine LeO.bind ?_ (fun _ => ?_)
theorem spec_EqualEndpoints.mono : ∀ a0 a1 a2 a3 a4 a5 a6 a7 k, LeO (spec_EqualEndpoints.f k a0 a1 a2 a3 a4 a5 a6 a7) (spec_EqualEndpoints.f (k + 1) a0 a1 a2 a3 a4 a5 a6 a7) := by
  intro a0 a1 a2 a3 a4 a5 a6 a7 k
  obtain ⟨ih0, ih1⟩ := spec_EqualEndpoints.mono_l k
  unfold spec_EqualEndpoints.f
  repeat' first
      | (with_reducible exact ih0 _ _ _ _ _ _ _ _ _)
      | (with_reducible exact ih1 _ _ _ _ _ _ _ _ _)
      | (with_reducible exact spec_EqualBoxes.mono _ _ _ _ _ _ _ _ _)
      | (with_reducible exact spec_EqualInts.mono _ _ _)
      | (with_reducible exact LeO.refl _)
      | (with_reducible exact LeO.none _)
      | (with_reducible refine LeO.ite ?_ ?_)
      | (with_reducible refine LeO.bind ?_ (fun _ => ?_))
      | exact ih0 _ _ _ _ _ _ _ _ _
      | exact ih1 _ _ _ _ _ _ _ _ _
      | exact spec_EqualBoxes.mono _ _ _ _ _ _ _ _ _
      | exact spec_EqualInts.mono _ _ _
      | exact LeO.none _
      | refine LeO.ite ?_ ?_
      | refine LeO.bind ?_ (fun _ => ?_)
def spec_EqualEndpoints.T6 : Bool × List (List Nat × List Nat) := (true, [([], []), ([0], [0]), ([], []), ([1, 2], [1, 2]), ([3], [3]), ([], []), ([5], [5]), ([], []), ([6, 7], [6, 7]), ([8], [8]), ([4, 9], [4, 9]), ([10], [10])])
def spec_EqualEndpoints.B6 : List Nat := [0, 1, 0, 7, 15, 0, 32, 0, 224, 480, 1023, 2047]
theorem spec_EqualEndpoints.tab6 : rtab .any (opsOf Try.f44 6) = spec_EqualEndpoints.T6 := by kernel_rfl
theorem spec_EqualEndpoints.bits6 : waitsOk spec_EqualEndpoints.T6.2 spec_EqualEndpoints.B6 = true := by kernel_rfl
set_option maxHeartbeats 8000000 in
set_option maxRecDepth 100000 in
theorem spec_EqualEndpoints.calls (k : Nat) (A0_0 : Option Addr) (c0_0 : Nat) (l0_0 : List Int) (A0_1 : Option Addr) (c0_1 : Nat) (l0_1 : List Int) (A0_2 : Option Addr) (c0_2 : Nat) (l0_2 : List (S67)) (a0_3 : Int) (A1_0 : Option Addr) (c1_0 : Nat) (l1_0 : List Int) (A1_1 : Option Addr) (c1_1 : Nat) (l1_1 : List Int) (A1_2 : Option Addr) (c1_2 : Nat) (l1_2 : List (S67)) (a1_3 : Int) (r : Bool) (w : World) (hr0_0 : Kd.C (Kd.int .i64) w A0_0 l0_0.length l0_0) (hc0_0 : l0_0.length ≤ c0_0) (hr0_1 : Kd.C (Kd.int .i64) w A0_1 l0_1.length l0_1) (hc0_1 : l0_1.length ≤ c0_1) (hr0_2 : Kd.C k67 w A0_2 l0_2.length l0_2) (hc0_2 : l0_2.length ≤ c0_2) (hr1_0 : Kd.C (Kd.int .i64) w A1_0 l1_0.length l1_0) (hc1_0 : l1_0.length ≤ c1_0) (hr1_1 : Kd.C (Kd.int .i64) w A1_1 l1_1.length l1_1) (hc1_1 : l1_1.length ≤ c1_1) (hr1_2 : Kd.C k67 w A1_2 l1_2.length l1_2) (hc1_2 : l1_2.length ≤ c1_2) (h : spec_EqualEndpoints.f k l0_0 l0_1 l0_2 a0_3 l1_0 l1_1 l1_2 a1_3 = some r) :
    Calls Try.prog 44 #[.agg #[.slice A0_0 l0_0.length c0_0, .slice A0_1 l0_1.length c0_1, .slice A0_2 l0_2.length c0_2, .int .i64 a0_3], .agg #[.slice A1_0 l1_0.length c1_0, .slice A1_1 l1_1.length c1_1, .slice A1_2 l1_2.length c1_2, .int .i64 a1_3]] w fun e w' => e = .returned (.bool r) ∧ Below w.heap.size w w' := by
  have hu58 := Try.underlying58
  have hu67 := Try.underlying67
  have HR0_0 := Aside0.mk hr0_0
  have HC0_0 := Aside0.mk hc0_0
  clear hr0_0 hc0_0
  have HR0_1 := Aside0.mk hr0_1
  have HC0_1 := Aside0.mk hc0_1
  clear hr0_1 hc0_1
  have HR0_2 := Aside0.mk hr0_2
  have HC0_2 := Aside0.mk hc0_2
  clear hr0_2 hc0_2
  have HR1_0 := Aside0.mk hr1_0
  have HC1_0 := Aside0.mk hc1_0
  clear hr1_0 hc1_0
  have HR1_1 := Aside0.mk hr1_1
  have HC1_1 := Aside0.mk hc1_1
  clear hr1_1 hc1_1
  have HR1_2 := Aside0.mk hr1_2
  have HC1_2 := Aside0.mk hc1_2
  clear hr1_2 hc1_2
  have HB := Aside0.mk (Below.refl w.heap.size w)
  have H : (if (l0_2.length : Int) = (l1_2.length : Int) then (spec_EqualEndpoints.j0 k (a0_3 != a1_3) l0_0 l0_1 l0_2 a0_3 l1_0 l1_1 l1_2 a1_3) else (spec_EqualEndpoints.j0 k true l0_0 l0_1 l0_2 a0_3 l1_0 l1_1 l1_2 a1_3)) = some r := h
  clear h
  have HC3 := Aside0.mk H
  clear H
  go_enter Try.func44, Try.ntmps44
  go_upto_region 1 with (first | ((with_reducible refine gate_dst (N := 2) rfl ?_); refine box_event ?hg (N := 2) ?hd (cs := #[.slice A0_0 l0_0.length c0_0, .slice A0_1 l0_1.length c0_1, .slice A0_2 l0_2.length c0_2, .int .i64 a0_3]) (t := 58) ?hr ?_; (case hd => rfl); (case hg => rfl); (case hr => first | (go_simp; done) | (go_simp; rfl)); intro gb608 hg w4 hbox hb; have n0_ := Aside0.mk (below_step (pb_ HB.out) hb); have n1_ := Aside0.mk (hbox); have n2_ := Aside0.mk ((by rw [hg]; exact (below_size (pb_ HB.out)) : w.heap.size ≤ gb608)); have n3_ := Aside0.mk ((by rw [hg]; exact (below_size (pb_ HB.out)) : w.heap.size ≤ gb608)); clear HB; have HB := n0_; have BK608 := n1_; have GW608 := n2_; have GE608 := n3_; clear n0_ n1_ n2_ n3_; clear hb hbox hg) | ((with_reducible refine gate_dst (N := 3) rfl ?_); refine box_event ?hg (N := 3) ?hd (cs := #[.slice A1_0 l1_0.length c1_0, .slice A1_1 l1_1.length c1_1, .slice A1_2 l1_2.length c1_2, .int .i64 a1_3]) (t := 58) ?hr ?_; (case hd => rfl); (case hg => rfl); (case hr => first | (go_simp; done) | (go_simp; rfl)); intro gb609 hg w5 hbox hb; have n0_ := Aside0.mk (bb_ BK608.out hb); have n1_ := Aside0.mk (below_step (pb1_ HB.out GE608.out) hb); have n2_ := Aside0.mk (hbox); have n3_ := Aside0.mk ((by rw [hg]; exact (below_size (pb1_ HB.out GE608.out)) : w.heap.size ≤ gb609)); have n4_ := Aside0.mk ((by rw [hg]; exact (below_size (pb1_ HB.out GE608.out)) : w.heap.size ≤ gb609)); have n5_ := Aside0.mk ((by rw [hg]; exact Nat.ne_of_lt (blk_lt (pk_ BK608.out)) : gb608 ≠ gb609)); have n6_ := Aside0.mk ((by rw [hg]; exact Nat.ne_of_gt (blk_lt (pk_ BK608.out)) : gb609 ≠ gb608)); clear BK608; clear HB; have BK608 := n0_; have HB := n1_; have BK609 := n2_; have GW609 := n3_; have GE609 := n4_; have NB608_609 := n5_; have NB609_608 := n6_; clear n0_ n1_ n2_ n3_ n4_ n5_ n6_; clear hb hbox hg))
  (try simp only [Act.put, List.setIfInBounds_toArray, List.set_cons_zero, List.set_cons_succ])
  go_cut [19] (fun v19 wc => ∃ (kq : Nat) (x19_2 : Bool), v19 = .bool x19_2 ∧ Aside0 (spec_EqualEndpoints.j0 kq x19_2 l0_0 l0_1 l0_2 a0_3 l1_0 l1_1 l1_2 a1_3 = some r) ∧ Aside0 (kq ≤ k) ∧ Aside0 (wc.heap[gb608]? = some (.cells #[(.slice A0_0 l0_0.length c0_0), (.slice A0_1 l0_1.length c0_1), (.slice A0_2 l0_2.length c0_2), .int .i64 a0_3] 58 (0, 0))) ∧ Aside0 (wc.heap[gb609]? = some (.cells #[(.slice A1_0 l1_0.length c1_0), (.slice A1_1 l1_1.length c1_1), (.slice A1_2 l1_2.length c1_2), .int .i64 a1_3] 58 (0, 0))) ∧ Aside0 (Below w.heap.size w wc))
  case first =>
    have H := HC3.out
    clear HC3
    by_cases c6 : (l0_2.length : Int) = (l1_2.length : Int)
    rotate_left
    · rw [if_neg c6] at H
      have c6b0 : ((l0_2.length : Int) == (l1_2.length : Int)) = false := beq_eq_false_iff_ne.mpr c6
      have c6b1 : ((l0_2.length : Int) != (l1_2.length : Int)) = true := bne_iff_ne.mpr c6
      have c6b2 : (l0_2.length == l1_2.length) = false := by first | simpa using c6 | (simp at c6 ⊢; omega)
      (first | rw [c6b0] | (simp only [i64_w, i32_w]; rw [c6b0]) | rw [c6b1] | (have c_ := c6b1; rw [bne] at c_; rw [c_]; clear c_) | rw [c6b2] | skip)
      have H' := Aside0.mk H
      clear H
      have hnb7 := NB608_609.out
      have hnc7 := NB609_608.out
      obtain ⟨hcz8_0, hcz8_1, hcz8_2, hcz8_3, hfz8_0, hfz8_1, hfz8_2, hfz8_3⟩ := bc4_ BK608.out
      obtain ⟨hcz9_0, hcz9_1, hcz9_2, hcz9_3, hfz9_0, hfz9_1, hfz9_2, hfz9_3⟩ := bc4_ BK609.out
      go_wp2
      go_meet
      case rel => exact ⟨_, (true), el_, H', ⟨by first | omega | exact Nat.le_refl _⟩, ⟨pk_ BK608.out⟩, ⟨pk_ BK609.out⟩, ⟨pb2_ HB.out GE608.out GE609.out⟩⟩
    rw [if_pos c6] at H
    have c6b0 : ((l0_2.length : Int) == (l1_2.length : Int)) = true := beq_iff_eq.mpr c6
    have c6b1 : ((l0_2.length : Int) != (l1_2.length : Int)) = false := bne_eq_false_iff_eq.mpr c6
    have c6b2 : (l0_2.length == l1_2.length) = true := by first | simpa using c6 | (simp at c6 ⊢; omega)
    clear c6
    (first | rw [c6b0] | (simp only [i64_w, i32_w]; rw [c6b0]) | rw [c6b1] | (have c_ := c6b1; rw [bne] at c_; rw [c_]; clear c_) | rw [c6b2] | skip)
    have H' := Aside0.mk H
    clear H
    have hnb10 := NB608_609.out
    have hnc10 := NB609_608.out
    obtain ⟨hcz11_0, hcz11_1, hcz11_2, hcz11_3, hfz11_0, hfz11_1, hfz11_2, hfz11_3⟩ := bc4_ BK608.out
    obtain ⟨hcz12_0, hcz12_1, hcz12_2, hcz12_3, hfz12_0, hfz12_1, hfz12_2, hfz12_3⟩ := bc4_ BK609.out
    go_wp2
    go_meet
    case rel => exact ⟨_, ((a0_3 != a1_3)), el_, H', ⟨by first | omega | exact Nat.le_refl _⟩, ⟨pk_ BK608.out⟩, ⟨pk_ BK609.out⟩, ⟨pb2_ HB.out GE608.out GE609.out⟩⟩
  clear HC3
  try clear c1
  try clear p2
  try clear c4
  try clear c6
  try clear c6b0
  try clear c6b1
  try clear c6b2
  try clear c7
  try clear c10
  try clear hcz11_0
  try clear hcz11_1
  try clear hcz11_2
  try clear hcz11_3
  try clear hcz12_0
  try clear hcz12_1
  try clear hcz12_2
  try clear hcz12_3
  try clear hcz8_0
  try clear hcz8_1
  try clear hcz8_2
  try clear hcz8_3
  try clear hcz9_0
  try clear hcz9_1
  try clear hcz9_2
  try clear hcz9_3
  try clear hfz11_0
  try clear hfz11_1
  try clear hfz11_2
  try clear hfz11_3
  try clear hfz12_0
  try clear hfz12_1
  try clear hfz12_2
  try clear hfz12_3
  try clear hfz8_0
  try clear hfz8_1
  try clear hfz8_2
  try clear hfz8_3
  try clear hfz9_0
  try clear hfz9_1
  try clear hfz9_2
  try clear hfz9_3
  obtain ⟨kq, x19_2, rfl, HA, HJ2, BK608, BK609, HB⟩ := hcut
  rcases kq with _ | kj2
  · exact absurd HA.out (by simp [spec_EqualEndpoints.j0])
  have H := HA.out
  clear HA
  simp only [spec_EqualEndpoints.j0] at H
  by_cases c13 : x19_2 = true
  rotate_left
  · replace c13 := Bool.eq_false_iff.mpr c13
    subst c13
    rw [if_neg (show ¬ (false = true) by decide)] at H
    have H' := Aside0.mk H
    clear H
    go_wp2
    go_loopg [5] kj2 (fun kq v5 w' => ∃ (x5_2 : Int), v5 = .int .i64 x5_2 ∧ Aside0 (spec_EqualEndpoints.l0 kq x5_2 l0_0 l0_1 l0_2 a0_3 l1_0 l1_1 l1_2 a1_3 = some r) ∧ Aside0 (kq ≤ kj2) ∧ Aside0 (w'.heap[gb608]? = some (.cells #[(.slice A0_0 l0_0.length c0_0), (.slice A0_1 l0_1.length c0_1), (.slice A0_2 l0_2.length c0_2), .int .i64 a0_3] 58 (0, 0))) ∧ Aside0 (w'.heap[gb609]? = some (.cells #[(.slice A1_0 l1_0.length c1_0), (.slice A1_1 l1_1.length c1_1), (.slice A1_2 l1_2.length c1_2), .int .i64 a1_3] 58 (0, 0))) ∧ Aside0 (Below w.heap.size w w'))
    case atStart => exact ⟨(0), el_, H', ⟨Nat.le_refl _⟩, ⟨pk_ BK608.out⟩, ⟨pk_ BK609.out⟩, ⟨pb2_ HB.out GE608.out GE609.out⟩⟩
    clear H'
    try clear c1
    try clear p2
    try clear c4
    try clear c6
    try clear c6b0
    try clear c6b1
    try clear c6b2
    try clear c7
    try clear c10
    try clear c13
    try clear hcz11_0
    try clear hcz11_1
    try clear hcz11_2
    try clear hcz11_3
    try clear hcz12_0
    try clear hcz12_1
    try clear hcz12_2
    try clear hcz12_3
    try clear hcz8_0
    try clear hcz8_1
    try clear hcz8_2
    try clear hcz8_3
    try clear hcz9_0
    try clear hcz9_1
    try clear hcz9_2
    try clear hcz9_3
    try clear hfz11_0
    try clear hfz11_1
    try clear hfz11_2
    try clear hfz11_3
    try clear hfz12_0
    try clear hfz12_1
    try clear hfz12_2
    try clear hfz12_3
    try clear hfz8_0
    try clear hfz8_1
    try clear hfz8_2
    try clear hfz8_3
    try clear hfz9_0
    try clear hfz9_1
    try clear hfz9_2
    try clear hfz9_3
    try clear p2
    obtain ⟨x5_2, rfl, HA, HK2, BK608, BK609, HB⟩ := hrel
    rcases gk with _ | k2
    · exact absurd HA.out (by simp [spec_EqualEndpoints.l0])
    have H := HA.out
    clear HA
    simp only [spec_EqualEndpoints.l0] at H
    by_cases c14 : x5_2 < (l0_2.length : Int)
    rotate_left
    · rw [if_neg c14] at H
      have c14b0 : decide (x5_2 < (l0_2.length : Int)) = false := decide_eq_false c14
      clear c14
      replace H := Option.bind_eq_some_iff.mp H
      obtain ⟨t613, A150, H⟩ := H
      (try dsimp only at H)
      have A15 := Aside0.mk A150
      clear A150
      by_cases c16 : t613 = true
      rotate_left
      · replace c16 := Bool.eq_false_iff.mpr c16
        subst c16
        rw [if_neg (show ¬ (false = true) by decide)] at H
        obtain rfl := Option.some.inj H
        have hnb17 := NB608_609.out
        have hnc17 := NB609_608.out
        obtain ⟨hcz18_0, hcz18_1, hcz18_2, hcz18_3, hfz18_0, hfz18_1, hfz18_2, hfz18_3⟩ := bc4_ BK608.out
        obtain ⟨hcz19_0, hcz19_1, hcz19_2, hcz19_3, hfz19_0, hfz19_1, hfz19_2, hfz19_3⟩ := bc4_ BK609.out
        go_wp2_with (first | ((with_reducible refine gate_callee (f := 87) rfl ?_); refine goesL_ (some 43) rfl rfl Try.func87 (by kernel_rfl) rfl #[.slice A0_0 l0_0.length c0_0, .slice A1_0 l1_0.length c1_0] rfl mp_ ?_; (with_reducible refine (spec_EqualInts.calls k2 _ _ l0_0 _ _ l1_0 false _ ?side1 ?side2 ?side3 ?side4 A15.out).mono ?_); (case side1 => exact pc_ (Kd.C_below HR0_0.out HB.out)); (case side2 => exact HC0_0.out); (case side3 => exact pc_ (Kd.C_below HR1_0.out HB.out)); (case side4 => exact HC1_0.out); rintro e w' ⟨rfl, ⟨nd, rfl⟩⟩; refine ⟨_, rfl, ?_⟩))
        go_ret
        exact ⟨er_, pb2_ HB.out GE608.out GE609.out⟩
      subst c16
      rw [if_pos rfl] at H
      replace H := Option.bind_eq_some_iff.mp H
      obtain ⟨t614, A200, H⟩ := H
      replace H : (some t614) = some r := H
      have A20 := Aside0.mk A200
      clear A200
      obtain rfl := Option.some.inj H
      have hnb21 := NB608_609.out
      have hnc21 := NB609_608.out
      obtain ⟨hcz22_0, hcz22_1, hcz22_2, hcz22_3, hfz22_0, hfz22_1, hfz22_2, hfz22_3⟩ := bc4_ BK608.out
      obtain ⟨hcz23_0, hcz23_1, hcz23_2, hcz23_3, hfz23_0, hfz23_1, hfz23_2, hfz23_3⟩ := bc4_ BK609.out
      go_wp2_with (first | ((with_reducible refine gate_callee (f := 87) rfl ?_); refine goesL_ (some 43) rfl rfl Try.func87 (by kernel_rfl) rfl #[.slice A0_0 l0_0.length c0_0, .slice A1_0 l1_0.length c1_0] rfl mp_ ?_; (with_reducible refine (spec_EqualInts.calls k2 _ _ l0_0 _ _ l1_0 true _ ?side1 ?side2 ?side3 ?side4 A15.out).mono ?_); (case side1 => exact pc_ (Kd.C_below HR0_0.out HB.out)); (case side2 => exact HC0_0.out); (case side3 => exact pc_ (Kd.C_below HR1_0.out HB.out)); (case side4 => exact HC1_0.out); rintro e w' ⟨rfl, ⟨nd, rfl⟩⟩; refine ⟨_, rfl, ?_⟩) | (go_at_call 87; (with_reducible refine (spec_EqualInts.calls k2 _ _ l0_1 _ _ l1_1 t614 _ ?side1 ?side2 ?side3 ?side4 A20.out).mono ?_); (case side1 => exact pc_ (Kd.C_below HR0_1.out (pb2_ HB.out GE608.out GE609.out))); (case side2 => exact HC0_1.out); (case side3 => exact pc_ (Kd.C_below HR1_1.out (pb2_ HB.out GE608.out GE609.out))); (case side4 => exact HC1_1.out); rintro e w' ⟨rfl, ⟨nd, rfl⟩⟩))
      go_ret
      exact ⟨er_, pb2_ HB.out GE608.out GE609.out⟩
    rw [if_pos c14] at H
    have c14b0 : decide (x5_2 < (l0_2.length : Int)) = true := decide_eq_true c14
    clear c14
    by_cases c24 : 0 ≤ x5_2
    rotate_left
    · rw [if_neg c24] at H
      exact absurd H (by simp)
    rw [if_pos c24] at H
    have c24b0 : decide (0 ≤ x5_2) = true := decide_eq_true c24
    clear c24
    by_cases c25 : x5_2 < (l1_2.length : Int)
    rotate_left
    · rw [if_neg c25] at H
      exact absurd H (by simp)
    rw [if_pos c25] at H
    have c25b0 : decide (x5_2 < (l1_2.length : Int)) = true := decide_eq_true c25
    clear c25
    replace H := Option.bind_eq_some_iff.mp H
    obtain ⟨t612, A260, H⟩ := H
    (try dsimp only at H)
    have A26 := Aside0.mk A260
    clear A260
    have HS_ := Aside0.mk H
    clear H
    have hnb27 := NB608_609.out
    have hnc27 := NB609_608.out
    obtain ⟨hcz28_0, hcz28_1, hcz28_2, hcz28_3, hfz28_0, hfz28_1, hfz28_2, hfz28_3⟩ := bc4_ BK608.out
    try go_wp2
    have n0_ := Aside0.mk (blk_drew BK608.out)
    have n1_ := Aside0.mk (blk_drew BK609.out)
    have n2_ := Aside0.mk (below_drew1 HB.out)
    clear BK608
    clear BK609
    clear HB
    have BK608 := n0_
    have BK609 := n1_
    have HB := n2_
    clear n0_ n1_ n2_
    have p610 : 0 ≤ (x5_2 : Int) := dt_
    have q610 : x5_2 < (l0_2.length : Int) := dt_
    obtain ⟨ad610, A610_1, c610_1, A610_2, c610_2, e610, hx610_0, hx610_1, hx610_2, hx610_3, hl610_1, hi610_1, hl610_2, hi610_2⟩ := at_T67 HR0_2.out x5_2 p610 q610
    have hw610_3 := hx610_3
    have hw610_2 := hx610_2
    have hw610_1 := hx610_1
    have hw610_0 := hx610_0
    cases e610
    replace hx610_0 := (HB.out.cell (World.block_lt_of_cell? w _ hx610_0)).trans hx610_0
    replace hx610_1 := (HB.out.cell (World.block_lt_of_cell? w _ hx610_1)).trans hx610_1
    replace hx610_2 := (HB.out.cell (World.block_lt_of_cell? w _ hx610_2)).trans hx610_2
    replace hx610_3 := (HB.out.cell (World.block_lt_of_cell? w _ hx610_3)).trans hx610_3
    have HR610_1 := Aside0.mk hi610_1
    have HC610_1 := Aside0.mk hl610_1
    clear hi610_1 hl610_1
    have HR610_2 := Aside0.mk hi610_2
    have HC610_2 := Aside0.mk hl610_2
    clear hi610_2 hl610_2
    replace p610 := eq_true p610
    replace q610 := eq_true q610
    have p611 : 0 ≤ (x5_2 : Int) := dt_
    have q611 : x5_2 < (l1_2.length : Int) := dt_
    obtain ⟨ad611, A611_1, c611_1, A611_2, c611_2, e611, hx611_0, hx611_1, hx611_2, hx611_3, hl611_1, hi611_1, hl611_2, hi611_2⟩ := at_T67 HR1_2.out x5_2 p611 q611
    have hw611_3 := hx611_3
    have hw611_2 := hx611_2
    have hw611_1 := hx611_1
    have hw611_0 := hx611_0
    cases e611
    replace hx611_0 := (HB.out.cell (World.block_lt_of_cell? w _ hx611_0)).trans hx611_0
    replace hx611_1 := (HB.out.cell (World.block_lt_of_cell? w _ hx611_1)).trans hx611_1
    replace hx611_2 := (HB.out.cell (World.block_lt_of_cell? w _ hx611_2)).trans hx611_2
    replace hx611_3 := (HB.out.cell (World.block_lt_of_cell? w _ hx611_3)).trans hx611_3
    have HR611_1 := Aside0.mk hi611_1
    have HC611_1 := Aside0.mk hl611_1
    clear hi611_1 hl611_1
    have HR611_2 := Aside0.mk hi611_2
    have HC611_2 := Aside0.mk hl611_2
    clear hi611_2 hl611_2
    replace p611 := eq_true p611
    replace q611 := eq_true q611
    refine start_ (n := 12) (S := fun w' => w'.cell? ⟨gb608, 0, none⟩ = some (.slice A0_0 l0_0.length c0_0) ∧ w'.cell? ⟨gb608, 1, none⟩ = some (.slice A0_1 l0_1.length c0_1) ∧ w'.cell? ⟨gb608, 2, none⟩ = some (.slice (some ad610) l0_2.length c0_2) ∧ w'.cell? ⟨gb608, 3, none⟩ = some (.int .i64 a0_3) ∧ w'.cell? ⟨gb609, 0, none⟩ = some (.slice A1_0 l1_0.length c1_0) ∧ w'.cell? ⟨gb609, 1, none⟩ = some (.slice A1_1 l1_1.length c1_1) ∧ w'.cell? ⟨gb609, 2, none⟩ = some (.slice (some ad611) l1_2.length c1_2) ∧ w'.cell? ⟨gb609, 3, none⟩ = some (.int .i64 a1_3) ∧ w'.cell? (ad610.add ((x5_2).toNat * 4)) = some (.int .i64 ((rd_T67 l0_2 x5_2).f0)) ∧ w'.cell? ⟨(ad610.add ((x5_2).toNat * 4)).block, (ad610.add ((x5_2).toNat * 4)).off + 1, none⟩ = some (.slice A610_1 ((rd_T67 l0_2 x5_2).f1).length c610_1) ∧ w'.cell? ⟨(ad610.add ((x5_2).toNat * 4)).block, (ad610.add ((x5_2).toNat * 4)).off + 2, none⟩ = some (.slice A610_2 ((rd_T67 l0_2 x5_2).f2).length c610_2) ∧ w'.cell? ⟨(ad610.add ((x5_2).toNat * 4)).block, (ad610.add ((x5_2).toNat * 4)).off + 3, none⟩ = some (.bool ((rd_T67 l0_2 x5_2).f3)) ∧ w'.cell? (ad611.add ((x5_2).toNat * 4)) = some (.int .i64 ((rd_T67 l1_2 x5_2).f0)) ∧ w'.cell? ⟨(ad611.add ((x5_2).toNat * 4)).block, (ad611.add ((x5_2).toNat * 4)).off + 1, none⟩ = some (.slice A611_1 ((rd_T67 l1_2 x5_2).f1).length c611_1) ∧ w'.cell? ⟨(ad611.add ((x5_2).toNat * 4)).block, (ad611.add ((x5_2).toNat * 4)).off + 2, none⟩ = some (.slice A611_2 ((rd_T67 l1_2 x5_2).f2).length c611_2) ∧ w'.cell? ⟨(ad611.add ((x5_2).toNat * 4)).block, (ad611.add ((x5_2).toNat * 4)).off + 3, none⟩ = some (.bool ((rd_T67 l1_2 x5_2).f3))) (ds := []) #[false, false, false, false, false, false, false, false, false, false, false, false] (by kernel_rfl) rfl rfl ⟨(blk_cell BK608.out 0).trans rfl, (blk_cell BK608.out 1).trans rfl, (blk_cell BK608.out 2).trans rfl, (blk_cell BK608.out 3).trans rfl, (blk_cell BK609.out 0).trans rfl, (blk_cell BK609.out 1).trans rfl, (blk_cell BK609.out 2).trans rfl, (blk_cell BK609.out 3).trans rfl, ((HB.out.cell (World.block_lt_of_cell? w _ hw610_0)).trans hw610_0), ((HB.out.cell (World.block_lt_of_cell? w _ hw610_1)).trans hw610_1), ((HB.out.cell (World.block_lt_of_cell? w _ hw610_2)).trans hw610_2), ((HB.out.cell (World.block_lt_of_cell? w _ hw610_3)).trans hw610_3), ((HB.out.cell (World.block_lt_of_cell? w _ hw611_0)).trans hw611_0), ((HB.out.cell (World.block_lt_of_cell? w _ hw611_1)).trans hw611_1), ((HB.out.cell (World.block_lt_of_cell? w _ hw611_2)).trans hw611_2), ((HB.out.cell (World.block_lt_of_cell? w _ hw611_3)).trans hw611_3)⟩ (fun hHeld => ?_); refine with_tabW spec_EqualEndpoints.tab6 spec_EqualEndpoints.bits6 (fun HT_ HW_ => ?_)
    generalize wr.drew = w29 at BK608 BK609 HB HR610_1 HR610_2 HR611_1 HR611_2 hx610_0 hx610_1 hx610_2 hx610_3 hx611_0 hx611_1 hx611_2 hx611_3 hHeld ⊢
    refine pure_ (i := 0) (N := some 27) (v := ?_) (a' := ?_) #[true, false, false, false, false, false, false, false, false, false, false, false] rfl rfl (any_of HT_.out (by kernel_rfl)) (fun _ _ _ h => h) (Or.inl ⟨by rfl, ?_⟩) ?_ ?_
    rotate_left
    · intro w'
      go_simp
      (try (simp only [Instr.field]; simp only [underlying, hu58, hu67]; go_simp; simp only [asAgg]; go_simp))
      with_reducible rfl
    rotate_left
    · simp only [Act.put, List.setIfInBounds_toArray, List.set_cons_zero, List.set_cons_succ, i64_w, i32_w]
      rfl
    refine pure_ (i := 2) (N := some 29) (v := ?_) (a' := ?_) #[true, false, true, false, false, false, false, false, false, false, false, false] rfl rfl (any_of HT_.out (by kernel_rfl)) (fun _ _ _ h => h) (Or.inl ⟨by rfl, ?_⟩) ?_ ?_
    rotate_left
    · intro w'
      go_simp
      (try (simp only [Instr.field]; simp only [underlying, hu58, hu67]; go_simp; simp only [asAgg]; go_simp))
      with_reducible rfl
    rotate_left
    · simp only [Act.put, List.setIfInBounds_toArray, List.set_cons_zero, List.set_cons_succ, i64_w, i32_w]
      rfl
    refine pure_ (i := 5) (N := some 32) (v := ?_) (a' := ?_) #[true, false, true, false, false, true, false, false, false, false, false, false] rfl rfl (any_of HT_.out (by kernel_rfl)) (fun _ _ _ h => h) (Or.inl ⟨by rfl, ?_⟩) ?_ ?_
    rotate_left
    · intro w'
      go_simp
      (try (simp only [Instr.field]; simp only [underlying, hu58, hu67]; go_simp; simp only [asAgg]; go_simp))
      with_reducible rfl
    rotate_left
    · simp only [Act.put, List.setIfInBounds_toArray, List.set_cons_zero, List.set_cons_succ, i64_w, i32_w]
      rfl
    refine pure_ (i := 7) (N := some 34) (v := ?_) (a' := ?_) #[true, false, true, false, false, true, false, true, false, false, false, false] rfl rfl (any_of HT_.out (by kernel_rfl)) (fun _ _ _ h => h) (Or.inl ⟨by rfl, ?_⟩) ?_ ?_
    rotate_left
    · intro w'
      go_simp
      (try (simp only [Instr.field]; simp only [underlying, hu58, hu67]; go_simp; simp only [asAgg]; go_simp))
      with_reducible rfl
    rotate_left
    · simp only [Act.put, List.setIfInBounds_toArray, List.set_cons_zero, List.set_cons_succ, i64_w, i32_w]
      rfl
    refine take_ (i := 1) (N := some 28) (v := ?_) (a' := ?_) #[true, true, true, false, false, true, false, true, false, false, false, false] rfl rfl (take_ofW HT_.out HW_.out (by kernel_rfl)) (fun _ _ _ h => h) (Or.inl ⟨by rfl, ?_⟩) hHeld ?_ ?_
    rotate_left
    · rintro w' ⟨s0, s1, s2, s3, s4, s5, s6, s7, s8, s9, s10, s11, s12, s13, s14, s15⟩
      go_simp
      (try (simp only [Instr.field]; simp only [underlying, hu58, hu67]; go_simp; simp only [asAgg]; go_simp))
      with_reducible rfl
    rotate_left
    · simp only [Act.put, List.setIfInBounds_toArray, List.set_cons_zero, List.set_cons_succ, i64_w, i32_w]
      rfl
    refine pure_ (i := 3) (N := some 30) (v := ?_) (a' := ?_) #[true, true, true, true, false, true, false, true, false, false, false, false] rfl rfl (any_of HT_.out (by kernel_rfl)) (fun _ _ _ h => h) (Or.inl ⟨by rfl, ?_⟩) ?_ ?_
    rotate_left
    · intro w'
      go_simp
      (try (simp only [Instr.field]; simp only [underlying, hu58, hu67]; go_simp; simp only [asAgg]; go_simp))
      with_reducible rfl
    rotate_left
    · simp only [Act.put, List.setIfInBounds_toArray, List.set_cons_zero, List.set_cons_succ, i64_w, i32_w]
      rfl
    refine take_ (i := 4) (N := some 31) (v := ?_) (a' := ?_) #[true, true, true, true, true, true, false, true, false, false, false, false] rfl rfl (take_ofW HT_.out HW_.out (by kernel_rfl)) (fun _ _ _ h => h) (Or.inl ⟨by rfl, ?_⟩) hHeld ?_ ?_
    rotate_left
    · rintro w' ⟨s0, s1, s2, s3, s4, s5, s6, s7, s8, s9, s10, s11, s12, s13, s14, s15⟩
      go_simp
      (try (simp only [Instr.field]; simp only [underlying, hu58, hu67]; go_simp; simp only [asAgg]; go_simp))
      with_reducible rfl
    rotate_left
    · simp only [Act.put, List.setIfInBounds_toArray, List.set_cons_zero, List.set_cons_succ, i64_w, i32_w]
      rfl
    refine take_ (i := 6) (N := some 33) (v := ?_) (a' := ?_) #[true, true, true, true, true, true, true, true, false, false, false, false] rfl rfl (take_ofW HT_.out HW_.out (by kernel_rfl)) (fun _ _ _ h => h) (Or.inl ⟨by rfl, ?_⟩) hHeld ?_ ?_
    rotate_left
    · rintro w' ⟨s0, s1, s2, s3, s4, s5, s6, s7, s8, s9, s10, s11, s12, s13, s14, s15⟩
      go_simp
      (try (simp only [Instr.field]; simp only [underlying, hu58, hu67]; go_simp; simp only [asAgg]; go_simp))
      with_reducible rfl
    rotate_left
    · simp only [Act.put, List.setIfInBounds_toArray, List.set_cons_zero, List.set_cons_succ, i64_w, i32_w]
      rfl
    refine pure_ (i := 8) (N := some 35) (v := ?_) (a' := ?_) #[true, true, true, true, true, true, true, true, true, false, false, false] rfl rfl (any_of HT_.out (by kernel_rfl)) (fun _ _ _ h => h) (Or.inl ⟨by rfl, ?_⟩) ?_ ?_
    rotate_left
    · intro w'
      go_simp
      (try (simp only [Instr.field]; simp only [underlying, hu58, hu67]; go_simp; simp only [asAgg]; go_simp))
      with_reducible rfl
    rotate_left
    · simp only [Act.put, List.setIfInBounds_toArray, List.set_cons_zero, List.set_cons_succ, i64_w, i32_w]
      rfl
    refine take_ (i := 9) (N := some 36) (v := ?_) (a' := ?_) #[true, true, true, true, true, true, true, true, true, true, false, false] rfl rfl (take_ofW HT_.out HW_.out (by kernel_rfl)) (fun _ _ _ h => h) (Or.inl ⟨by rfl, ?_⟩) hHeld ?_ ?_
    rotate_left
    · rintro w' ⟨s0, s1, s2, s3, s4, s5, s6, s7, s8, s9, s10, s11, s12, s13, s14, s15⟩
      go_simp
      (try (simp only [Instr.field]; simp only [underlying, hu58, hu67]; go_simp; simp only [asAgg]; go_simp))
      with_reducible rfl
    rotate_left
    · simp only [Act.put, List.setIfInBounds_toArray, List.set_cons_zero, List.set_cons_succ, i64_w, i32_w]
      rfl
    refine one_ (i := 10) (N := some 37) #[true, true, true, true, true, true, true, true, true, true, true, false] rfl rfl (one_of HT_.out (by kernel_rfl)) (by decide) (fun K hK => ?_)
    refine goes_ Try.func86 (by kernel_rfl) rfl #[.agg #[.int .i64 ((rd_T67 l0_2 x5_2).f0), .slice A610_1 ((rd_T67 l0_2 x5_2).f1).length c610_1, .slice A610_2 ((rd_T67 l0_2 x5_2).f2).length c610_2, .bool ((rd_T67 l0_2 x5_2).f3)], .agg #[.int .i64 ((rd_T67 l1_2 x5_2).f0), .slice A611_1 ((rd_T67 l1_2 x5_2).f1).length c611_1, .slice A611_2 ((rd_T67 l1_2 x5_2).f2).length c611_2, .bool ((rd_T67 l1_2 x5_2).f3)]] (by rfl) rfl rfl mp_ ?_
    with_reducible refine (spec_EqualBoxes.calls k2 ((rd_T67 l0_2 x5_2).f0) _ _ ((rd_T67 l0_2 x5_2).f1) _ _ ((rd_T67 l0_2 x5_2).f2) ((rd_T67 l0_2 x5_2).f3) ((rd_T67 l1_2 x5_2).f0) _ _ ((rd_T67 l1_2 x5_2).f1) _ _ ((rd_T67 l1_2 x5_2).f2) ((rd_T67 l1_2 x5_2).f3) t612 _ ?side1 ?side2 ?side3 ?side4 ?side5 ?side6 ?side7 ?side8 A26.out).mono ?_
    (case side1 => exact pc_ (Kd.C_below HR610_1.out HB.out))
    (case side2 => exact HC610_1.out)
    (case side3 => exact pc_ (Kd.C_below HR610_2.out HB.out))
    (case side4 => exact HC610_2.out)
    (case side5 => exact pc_ (Kd.C_below HR611_1.out HB.out))
    (case side6 => exact HC611_1.out)
    (case side7 => exact pc_ (Kd.C_below HR611_2.out HB.out))
    (case side8 => exact HC611_2.out)
    rintro e w30 ⟨rfl, hb⟩
    refine ⟨_, rfl, ?_⟩
    have n0_ := Aside0.mk (bb_ BK608.out hb)
    have n1_ := Aside0.mk (bb_ BK609.out hb)
    have n2_ := Aside0.mk (below_step (pb2_ HB.out GE608.out GE609.out) hb)
    clear BK608
    clear BK609
    clear HB
    have BK608 := n0_
    have BK609 := n1_
    have HB := n2_
    clear n0_ n1_ n2_
    (try clear hb)
    (try clear hb2)
    (try clear hk)
    (try clear hi)
    refine hK.out _ _ ⟨(blk_cell BK608.out 0).trans rfl, (blk_cell BK608.out 1).trans rfl, (blk_cell BK608.out 2).trans rfl, (blk_cell BK608.out 3).trans rfl, (blk_cell BK609.out 0).trans rfl, (blk_cell BK609.out 1).trans rfl, (blk_cell BK609.out 2).trans rfl, (blk_cell BK609.out 3).trans rfl, ((HB.out.cell (World.block_lt_of_cell? w _ hw610_0)).trans hw610_0), ((HB.out.cell (World.block_lt_of_cell? w _ hw610_1)).trans hw610_1), ((HB.out.cell (World.block_lt_of_cell? w _ hw610_2)).trans hw610_2), ((HB.out.cell (World.block_lt_of_cell? w _ hw610_3)).trans hw610_3), ((HB.out.cell (World.block_lt_of_cell? w _ hw611_0)).trans hw611_0), ((HB.out.cell (World.block_lt_of_cell? w _ hw611_1)).trans hw611_1), ((HB.out.cell (World.block_lt_of_cell? w _ hw611_2)).trans hw611_2), ((HB.out.cell (World.block_lt_of_cell? w _ hw611_3)).trans hw611_3)⟩ (fun hHeld => ?_)
    clear hK K
    refine norm_ (a' := ?_) ?_ ?_
    rotate_left
    · show Act.put _ (some 37) _ = _
      simp only [Act.put, List.setIfInBounds_toArray, List.set_cons_zero, List.set_cons_succ, i64_w, i32_w]
      rfl
    refine pure_ (i := 11) (N := some 38) (v := ?_) (a' := ?_) #[true, true, true, true, true, true, true, true, true, true, true, true] rfl rfl (any_of HT_.out (by kernel_rfl)) (fun _ _ _ h => h) (Or.inl ⟨by rfl, ?_⟩) ?_ ?_
    rotate_left
    · intro w'
      go_simp
      (try (simp only [Instr.field]; simp only [underlying, hu58, hu67]; go_simp; simp only [asAgg]; go_simp))
      with_reducible rfl
    rotate_left
    · simp only [Act.put, List.setIfInBounds_toArray, List.set_cons_zero, List.set_cons_succ, i64_w, i32_w]
      rfl
    refine done_ (done_of HT_.out (by kernel_rfl)) ?_
    go_upto_if 38 with (fail)
    have H := HS_.out
    clear HS_
    by_cases c31 : t612 = true
    rotate_left
    · replace c31 := Bool.eq_false_iff.mpr c31
      subst c31
      rw [if_neg (show ¬ (false = true) by decide)] at H
      obtain rfl := Option.some.inj H
      go_wp2
      go_ret
      exact ⟨er_, pb2_ HB.out GE608.out GE609.out⟩
    subst c31
    rw [if_pos rfl] at H
    have H' := Aside0.mk H
    clear H
    go_wp2
    go_roundg k2
    case measure => have := HJ2.out; have := HK2.out; omega
    case rel => exact ⟨(wrap64 (x5_2 + 1)), el_, H', ⟨by have := HJ2.out; have := HK2.out; omega⟩, ⟨pk_ BK608.out⟩, ⟨pk_ BK609.out⟩, ⟨pb2_ HB.out GE608.out GE609.out⟩⟩
  subst c13
  rw [if_pos rfl] at H
  obtain rfl := Option.some.inj H
  go_wp2
  go_ret
  exact ⟨er_, pb2_ HB.out GE608.out GE609.out⟩

/-! ### laws_toBox: function 52 -/
def laws_toBox.f (k : Nat) (a0_0 : Int) (l0_1 : List Int) (l0_2 : List Int) (a0_3 : Bool) : Option (Int × List Int × List Int × Bool) := (laws_toIntS.f k l0_1).bind fun t618 => ((laws_toIntS.f k l0_2).bind fun t621 => (some (a0_0, t618, t621, a0_3)))
theorem laws_toBox.mono : ∀ a0 a1 a2 a3 k, LeO (laws_toBox.f k a0 a1 a2 a3) (laws_toBox.f (k + 1) a0 a1 a2 a3) := by
  intro a0 a1 a2 a3 k
  unfold laws_toBox.f
  repeat' first
      | (with_reducible exact laws_toIntS.mono _ _)
      | (with_reducible exact LeO.refl _)
      | (with_reducible exact LeO.none _)
      | (with_reducible refine LeO.ite ?_ ?_)
      | (with_reducible refine LeO.bind ?_ (fun _ => ?_))
      | exact laws_toIntS.mono _ _
      | exact LeO.none _
      | refine LeO.ite ?_ ?_
      | refine LeO.bind ?_ (fun _ => ?_)
set_option maxHeartbeats 8000000 in
set_option maxRecDepth 100000 in
theorem laws_toBox.calls (k : Nat) (a0_0 : Int) (A0_1 : Option Addr) (c0_1 : Nat) (l0_1 : List Int) (A0_2 : Option Addr) (c0_2 : Nat) (l0_2 : List Int) (a0_3 : Bool) (r1 : Int) (r2 : List Int) (r3 : List Int) (r4 : Bool) (w : World) (hr0_1 : Kd.C (Kd.int .i64) w A0_1 l0_1.length l0_1) (hc0_1 : l0_1.length ≤ c0_1) (hr0_2 : Kd.C (Kd.int .i64) w A0_2 l0_2.length l0_2) (hc0_2 : l0_2.length ≤ c0_2) (h : laws_toBox.f k a0_0 l0_1 l0_2 a0_3 = some (r1, r2, r3, r4)) :
    Calls Try.prog 52 #[.agg #[.int .i64 a0_0, .slice A0_1 l0_1.length c0_1, .slice A0_2 l0_2.length c0_2, .bool a0_3]] w fun e w' => ∃ v1_ v2_ : Value, e = .returned (.agg #[.int .i64 r1, v1_, v2_, .bool r4]) ∧ Kd.R (Kd.int .i64) 3 w' w.heap.size (fun k_ => some k_ ≠ (v2_ : Value).ownBlock) v1_ r2 ∧ Kd.R (Kd.int .i64) 3 w' w.heap.size (fun k_ => some k_ ≠ (v1_ : Value).ownBlock) v2_ r3 ∧ Below w.heap.size w w' := by
  have hu64 := Try.underlying64
  have hu67 := Try.underlying67
  have HR0_1 := Aside0.mk hr0_1
  have HC0_1 := Aside0.mk hc0_1
  clear hr0_1 hc0_1
  have HR0_2 := Aside0.mk hr0_2
  have HC0_2 := Aside0.mk hc0_2
  clear hr0_2 hc0_2
  have HB := Aside0.mk (Below.refl w.heap.size w)
  have H : ((laws_toIntS.f k l0_1).bind fun t618 => ((laws_toIntS.f k l0_2).bind fun t621 => (some (a0_0, t618, t621, a0_3)))) = some (r1, r2, r3, r4) := h
  clear h
  replace H := Option.bind_eq_some_iff.mp H
  obtain ⟨t618, A20, H⟩ := H
  (try dsimp only at H)
  have A2 := Aside0.mk A20
  clear A20
  replace H := Option.bind_eq_some_iff.mp H
  obtain ⟨t621, A30, H⟩ := H
  replace H : (some (a0_0, t618, t621, a0_3)) = some (r1, r2, r3, r4) := H
  have A3 := Aside0.mk A30
  clear A30
  simp only [Option.some.injEq, Prod.mk.injEq] at H
  obtain ⟨rfl, rfl, rfl, rfl⟩ := H
  go_enter Try.func52, Try.ntmps52
  go_wp2_with (first | ((with_reducible refine gate_dst (N := 1) rfl ?_); refine box_event ?hg (N := 1) ?hd (cs := #[.int .i64 a0_0, .slice A0_1 l0_1.length c0_1, .slice A0_2 l0_2.length c0_2, .bool a0_3]) (t := 64) ?hr ?_; (case hd => rfl); (case hg => rfl); (case hr => first | (go_simp; done) | (go_simp; rfl)); intro gb615 hg w4 hbox hb; have n0_ := Aside0.mk (below_step (pb_ HB.out) hb); have n1_ := Aside0.mk (hbox); have n2_ := Aside0.mk ((by rw [hg]; exact (below_size (pb_ HB.out)) : w.heap.size ≤ gb615)); have n3_ := Aside0.mk ((by rw [hg]; exact (below_size (pb_ HB.out)) : w.heap.size ≤ gb615)); clear HB; have HB := n0_; have BK615 := n1_; have GW615 := n2_; have GE615 := n3_; clear n0_ n1_ n2_ n3_; clear hb hbox hg) | ((with_reducible refine gate_dst (N := 2) rfl ?_); refine box_event ?hg (N := 2) ?hd (cs := #[.int .i64 0, .slice none 0 0, .slice none 0 0, .bool false]) (t := 67) ?hr ?_; (case hd => rfl); (case hg => rfl); (case hr => first | (go_simp; done) | (go_simp; rfl)); intro gb616 hg w5 hbox hb; have n0_ := Aside0.mk (bb_ BK615.out hb); have n1_ := Aside0.mk (below_step (pb1_ HB.out GE615.out) hb); have n2_ := Aside0.mk (hbox); have n3_ := Aside0.mk ((by rw [hg]; exact (below_size (pb1_ HB.out GE615.out)) : w.heap.size ≤ gb616)); have n4_ := Aside0.mk ((by rw [hg]; exact (below_size (pb1_ HB.out GE615.out)) : w.heap.size ≤ gb616)); have n5_ := Aside0.mk ((by rw [hg]; exact Nat.ne_of_lt (blk_lt (pk_ BK615.out)) : gb615 ≠ gb616)); have n6_ := Aside0.mk ((by rw [hg]; exact Nat.ne_of_gt (blk_lt (pk_ BK615.out)) : gb616 ≠ gb615)); clear BK615; clear HB; have BK615 := n0_; have HB := n1_; have BK616 := n2_; have GW616 := n3_; have GE616 := n4_; have NB615_616 := n5_; have NB616_615 := n6_; clear n0_ n1_ n2_ n3_ n4_ n5_ n6_; clear hb hbox hg) | ((with_reducible refine gate_dst (N := 3) rfl ?_); refine box_event ?hg (N := 3) ?hd (cs := #[.int .i64 0, .slice none 0 0, .slice none 0 0, .bool false]) (t := 67) ?hr ?_; (case hd => rfl); (case hg => rfl); (case hr => first | (go_simp; done) | (go_simp; rfl)); intro gb617 hg w6 hbox hb; have n0_ := Aside0.mk (bb_ BK615.out hb); have n1_ := Aside0.mk (bb_ BK616.out hb); have n2_ := Aside0.mk (below_step (pb2_ HB.out GE615.out GE616.out) hb); have n3_ := Aside0.mk (hbox); have n4_ := Aside0.mk ((by rw [hg]; exact (below_size (pb2_ HB.out GE615.out GE616.out)) : w.heap.size ≤ gb617)); have n5_ := Aside0.mk ((by rw [hg]; exact (below_size (pb2_ HB.out GE615.out GE616.out)) : w.heap.size ≤ gb617)); have n6_ := Aside0.mk ((by rw [hg]; exact Nat.ne_of_lt (blk_lt (pk_ BK615.out)) : gb615 ≠ gb617)); have n7_ := Aside0.mk ((by rw [hg]; exact Nat.ne_of_gt (blk_lt (pk_ BK615.out)) : gb617 ≠ gb615)); have n8_ := Aside0.mk ((by rw [hg]; exact Nat.ne_of_lt (blk_lt (pk_ BK616.out)) : gb616 ≠ gb617)); have n9_ := Aside0.mk ((by rw [hg]; exact Nat.ne_of_gt (blk_lt (pk_ BK616.out)) : gb617 ≠ gb616)); clear BK615; clear BK616; clear HB; have BK615 := n0_; have BK616 := n1_; have HB := n2_; have BK617 := n3_; have GW617 := n4_; have GE617 := n5_; have NB615_617 := n6_; have NB617_615 := n7_; have NB616_617 := n8_; have NB617_616 := n9_; clear n0_ n1_ n2_ n3_ n4_ n5_ n6_ n7_ n8_ n9_; clear hb hbox hg; have hnb7 := NB615_616.out; have hnc7 := NB616_615.out; have hnb8 := NB615_617.out; have hnc8 := NB617_615.out; have hcz9_0 : w6.cell? ⟨gb615, 0, none⟩ = some (.int .i64 a0_0) := (blk_cell BK615.out 0).trans rfl; have hcz9_1 : w6.cell? ⟨gb615, 1, none⟩ = some (.slice A0_1 l0_1.length c0_1) := (blk_cell BK615.out 1).trans rfl; have hcz9_2 : w6.cell? ⟨gb615, 2, none⟩ = some (.slice A0_2 l0_2.length c0_2) := (blk_cell BK615.out 2).trans rfl; have hcz9_3 : w6.cell? ⟨gb615, 3, none⟩ = some (.bool a0_3) := (blk_cell BK615.out 3).trans rfl; have hfz9_0 := blk_frozen BK615.out 0; have hfz9_1 := blk_frozen BK615.out 1; have hfz9_2 := blk_frozen BK615.out 2; have hfz9_3 := blk_frozen BK615.out 3; have hnb10 := NB617_616.out; have hnc10 := NB616_617.out; have hcz11_0 : w6.cell? ⟨gb617, 0, none⟩ = some (.int .i64 0) := (blk_cell BK617.out 0).trans rfl; have hcz11_1 : w6.cell? ⟨gb617, 1, none⟩ = some (.slice none 0 0) := (blk_cell BK617.out 1).trans rfl; have hcz11_2 : w6.cell? ⟨gb617, 2, none⟩ = some (.slice none 0 0) := (blk_cell BK617.out 2).trans rfl; have hcz11_3 : w6.cell? ⟨gb617, 3, none⟩ = some (.bool false) := (blk_cell BK617.out 3).trans rfl; have hfz11_0 := blk_frozen BK617.out 0; have hfz11_1 := blk_frozen BK617.out 1; have hfz11_2 := blk_frozen BK617.out 2; have hfz11_3 := blk_frozen BK617.out 3) | ((with_reducible refine gate_callee (f := 17) rfl ?_); refine goesL_ (some 9) rfl rfl Try.func17 (by kernel_rfl) rfl #[.slice A0_1 l0_1.length c0_1] rfl mp_ ?_; (with_reducible refine (laws_toIntS.calls k _ _ l0_1 t618 _ ?side1 ?side2 A2.out).mono ?_); (case side1 => exact Kd.C_below HR0_1.out (pb3_ HB.out GE615.out GE616.out GE617.out)); (case side2 => exact HC0_1.out); rintro e w12 ⟨v619, rfl, ho0, hb⟩; refine ⟨_, rfl, ?_⟩; have n0_ := Aside0.mk (Kd.R_lower ho0 (below_size (pb3_ HB.out GE615.out GE616.out GE617.out))); have n1_ := Aside0.mk (blk_below (g := gb615) (o := .cells #[.int .i64 a0_0, .slice A0_1 l0_1.length c0_1, .slice A0_2 l0_2.length c0_2, .bool a0_3] 64 (0, 0)) (pp_ BK615.out) hb); have n2_ := Aside0.mk (blk_below (g := gb616) (o := .cells #[.int .i64 0, .slice none 0 0, .slice none 0 0, .bool false] 67 (0, 0)) (pp_ BK616.out) hb); have n3_ := Aside0.mk (blk_below (g := gb617) (o := .cells #[.int .i64 a0_0, .slice none 0 0, .slice none 0 0, .bool false] 67 (0, 0)) (pp_ BK617.out) hb); have n4_ := Aside0.mk (below_step (pb3_ HB.out GE615.out GE616.out GE617.out) hb); clear BK615; clear BK616; clear BK617; clear HB; have HO620 := n0_; have BK615 := n1_; have BK616 := n2_; have BK617 := n3_; have HB := n4_; clear n0_ n1_ n2_ n3_ n4_; (try clear hb); (try clear hb2); (try clear hk); (try clear hi); (try clear ho0); obtain ⟨Ao13, co13, eo13⟩ := Kd.R_slice HO620.out; subst eo13; have hcz14_0 : w12.cell? ⟨gb617, 0, none⟩ = some (.int .i64 a0_0) := (blk_cell BK617.out 0).trans rfl; have hcz14_1 : w12.cell? ⟨gb617, 1, none⟩ = some (.slice none 0 0) := (blk_cell BK617.out 1).trans rfl; have hcz14_2 : w12.cell? ⟨gb617, 2, none⟩ = some (.slice none 0 0) := (blk_cell BK617.out 2).trans rfl; have hcz14_3 : w12.cell? ⟨gb617, 3, none⟩ = some (.bool false) := (blk_cell BK617.out 3).trans rfl; have hfz14_0 := blk_frozen BK617.out 0; have hfz14_1 := blk_frozen BK617.out 1; have hfz14_2 := blk_frozen BK617.out 2; have hfz14_3 := blk_frozen BK617.out 3; have hcz15_0 : w12.cell? ⟨gb615, 0, none⟩ = some (.int .i64 a0_0) := (blk_cell BK615.out 0).trans rfl; have hcz15_1 : w12.cell? ⟨gb615, 1, none⟩ = some (.slice A0_1 l0_1.length c0_1) := (blk_cell BK615.out 1).trans rfl; have hcz15_2 : w12.cell? ⟨gb615, 2, none⟩ = some (.slice A0_2 l0_2.length c0_2) := (blk_cell BK615.out 2).trans rfl; have hcz15_3 : w12.cell? ⟨gb615, 3, none⟩ = some (.bool a0_3) := (blk_cell BK615.out 3).trans rfl; have hfz15_0 := blk_frozen BK615.out 0; have hfz15_1 := blk_frozen BK615.out 1; have hfz15_2 := blk_frozen BK615.out 2; have hfz15_3 := blk_frozen BK615.out 3) | ((with_reducible refine gate_callee (f := 17) rfl ?_); refine goesL_ (some 13) rfl rfl Try.func17 (by kernel_rfl) rfl #[.slice A0_2 l0_2.length c0_2] rfl mp_ ?_; (with_reducible refine (laws_toIntS.calls k _ _ l0_2 t621 _ ?side1 ?side2 A3.out).mono ?_); (case side1 => exact Kd.C_below HR0_2.out (pb3_ HB.out GE615.out GE616.out GE617.out)); (case side2 => exact HC0_2.out); rintro e w16 ⟨v622, rfl, ho0, hb⟩; refine ⟨_, rfl, ?_⟩; have n0_ := Aside0.mk (Kd.R_elder' (pr_ (Kd.R_mono (Kd.R_far (p := ⟨gb617, 1, none⟩) (Kd.R_types HO620.out BK617.out (by decide)) (fun _ hk => hk.2) (.slice Ao13 t618.length co13)) (fun _ h_ => h_.1))) (Kd.R_base ho0) hb); have n1_ := Aside0.mk (Kd.R_lower (Kd.R_new' ho0 (Kd.R_lt (pr_ (Kd.R_mono (Kd.R_far (p := ⟨gb617, 1, none⟩) (Kd.R_types HO620.out BK617.out (by decide)) (fun _ hk => hk.2) (.slice Ao13 t618.length co13)) (fun _ h_ => h_.1))))) (below_size (pb3_ HB.out GE615.out GE616.out GE617.out))); have n2_ := Aside0.mk (blk_below (g := gb615) (o := .cells #[.int .i64 a0_0, .slice A0_1 l0_1.length c0_1, .slice A0_2 l0_2.length c0_2, .bool a0_3] 64 (0, 0)) (pp_ BK615.out) hb); have n3_ := Aside0.mk (blk_below (g := gb616) (o := .cells #[.int .i64 0, .slice none 0 0, .slice none 0 0, .bool false] 67 (0, 0)) (pp_ BK616.out) hb); have n4_ := Aside0.mk (blk_below (g := gb617) (o := .cells #[.int .i64 a0_0, .slice Ao13 t618.length co13, .slice none 0 0, .bool false] 67 (0, 0)) (pp_ BK617.out) hb); have n5_ := Aside0.mk (below_step (pb3_ HB.out GE615.out GE616.out GE617.out) hb); clear HO620; clear BK615; clear BK616; clear BK617; clear HB; have HO620 := n0_; have HO623 := n1_; have BK615 := n2_; have BK616 := n3_; have BK617 := n4_; have HB := n5_; clear n0_ n1_ n2_ n3_ n4_ n5_; (try clear hb); (try clear hb2); (try clear hk); (try clear hi); (try clear ho0); obtain ⟨Ao17, co17, eo17⟩ := Kd.R_slice HO623.out; subst eo17; have hcz18_0 : w16.cell? ⟨gb617, 0, none⟩ = some (.int .i64 a0_0) := (blk_cell BK617.out 0).trans rfl; have hcz18_1 : w16.cell? ⟨gb617, 1, none⟩ = some (.slice Ao13 t618.length co13) := (blk_cell BK617.out 1).trans rfl; have hcz18_2 : w16.cell? ⟨gb617, 2, none⟩ = some (.slice none 0 0) := (blk_cell BK617.out 2).trans rfl; have hcz18_3 : w16.cell? ⟨gb617, 3, none⟩ = some (.bool false) := (blk_cell BK617.out 3).trans rfl; have hfz18_0 := blk_frozen BK617.out 0; have hfz18_1 := blk_frozen BK617.out 1; have hfz18_2 := blk_frozen BK617.out 2; have hfz18_3 := blk_frozen BK617.out 3; have hcz19_0 : w16.cell? ⟨gb615, 0, none⟩ = some (.int .i64 a0_0) := (blk_cell BK615.out 0).trans rfl; have hcz19_1 : w16.cell? ⟨gb615, 1, none⟩ = some (.slice A0_1 l0_1.length c0_1) := (blk_cell BK615.out 1).trans rfl; have hcz19_2 : w16.cell? ⟨gb615, 2, none⟩ = some (.slice A0_2 l0_2.length c0_2) := (blk_cell BK615.out 2).trans rfl; have hcz19_3 : w16.cell? ⟨gb615, 3, none⟩ = some (.bool a0_3) := (blk_cell BK615.out 3).trans rfl; have hfz19_0 := blk_frozen BK615.out 0; have hfz19_1 := blk_frozen BK615.out 1; have hfz19_2 := blk_frozen BK615.out 2; have hfz19_3 := blk_frozen BK615.out 3; have hcz20_0 : w16.cell? ⟨gb616, 0, none⟩ = some (.int .i64 0) := (blk_cell BK616.out 0).trans rfl; have hcz20_1 : w16.cell? ⟨gb616, 1, none⟩ = some (.slice none 0 0) := (blk_cell BK616.out 1).trans rfl; have hcz20_2 : w16.cell? ⟨gb616, 2, none⟩ = some (.slice none 0 0) := (blk_cell BK616.out 2).trans rfl; have hcz20_3 : w16.cell? ⟨gb616, 3, none⟩ = some (.bool false) := (blk_cell BK616.out 3).trans rfl; have hfz20_0 := blk_frozen BK616.out 0; have hfz20_1 := blk_frozen BK616.out 1; have hfz20_2 := blk_frozen BK616.out 2; have hfz20_3 := blk_frozen BK616.out 3))
  refine bodyPost_ret (results_cell_row rfl _ _ gb616 67 #[.int .i64 a0_0, .slice Ao13 t618.length co13, .slice Ao17 t621.length co17, .bool a0_3] (0, 0) _ rfl (pp_ BK616.out) Try.underlying67 rfl (by kernel_rfl)) rfl ?_
  exact ⟨_, _, er_, pr_ (Kd.R_mono (Kd.R_far (p := ⟨gb616, 3, none⟩) (Kd.R_far (p := ⟨gb616, 2, none⟩) (Kd.R_far (p := ⟨gb616, 1, none⟩) (Kd.R_far (p := ⟨gb616, 0, none⟩) (Kd.R_far (p := ⟨gb617, 3, none⟩) (Kd.R_far (p := ⟨gb617, 2, none⟩) (Kd.R_types (Kd.R_types HO620.out BK617.out (by decide)) BK616.out (by decide)) (fun _ hk => hk.1.2) (.slice Ao17 t621.length co17)) (fun _ hk => hk.1.2) (.bool a0_3)) (fun _ hk => hk.2) (.int .i64 a0_0)) (fun _ hk => hk.2) (.slice Ao13 t618.length co13)) (fun _ hk => hk.2) (.slice Ao17 t621.length co17)) (fun _ hk => hk.2) (.bool a0_3)) (fun _ hk => hk.1.1.2)), pr_ (Kd.R_mono (Kd.R_far (p := ⟨gb616, 3, none⟩) (Kd.R_far (p := ⟨gb616, 2, none⟩) (Kd.R_far (p := ⟨gb616, 1, none⟩) (Kd.R_far (p := ⟨gb616, 0, none⟩) (Kd.R_far (p := ⟨gb617, 3, none⟩) (Kd.R_far (p := ⟨gb617, 2, none⟩) (Kd.R_types (Kd.R_types HO623.out BK617.out (by decide)) BK616.out (by decide)) (fun _ hk => hk.1.2) (.slice Ao17 t621.length co17)) (fun _ hk => hk.1.2) (.bool a0_3)) (fun _ hk => hk.2) (.int .i64 a0_0)) (fun _ hk => hk.2) (.slice Ao13 t618.length co13)) (fun _ hk => hk.2) (.slice Ao17 t621.length co17)) (fun _ hk => hk.2) (.bool a0_3)) (fun _ hk => hk.1.1.2)), pb3_ HB.out GE615.out GE616.out GE617.out⟩

/-! ### laws_toBoxS: function 57 -/
def laws_toBoxS.l0 : Nat → List (S64) → List (S67) → Int → Option ((List (S67)))
  | 0, _, _, _ => none
  | k + 1, x0, x3, x4 => if x4 < (x0.length : Int) then (if 0 ≤ x4 then ((laws_toBox.f k ((rd_T64 x0 x4).f0) ((rd_T64 x0 x4).f1) ((rd_T64 x0 x4).f2) ((rd_T64 x0 x4).f3)).bind fun bt628 => (if x4 < (x3.length : Int) then (laws_toBoxS.l0 k x0 (x3.set (x4 : Int).toNat (⟨bt628.1, bt628.2.1, bt628.2.2.1, bt628.2.2.2⟩ : S67)) (wrap64 (x4 + 1))) else (none))) else (none)) else (some x3)
def laws_toBoxS.f (k : Nat) (l0 : List (S64)) : Option ((List (S67))) := if 0 ≤ (l0.length : Int) then (if ((l0.length : Int) : Int).toNat ≤ 4398046511104 then (laws_toBoxS.l0 k l0 (List.replicate ((l0.length : Int) : Int).toNat z67) 0) else (none)) else (none)
theorem laws_toBoxS.mono_l : ∀ k, (∀ y0 y1 y2, LeO (laws_toBoxS.l0 k y0 y1 y2) (laws_toBoxS.l0 (k + 1) y0 y1 y2))
  | 0 => fun _ _ _ r h => by simp [laws_toBoxS.l0] at h
  | k + 1 => by
    have ih0 := laws_toBoxS.mono_l k
    · intro y0 y1 y2
      unfold laws_toBoxS.l0
      repeat' first
      | (with_reducible exact ih0 _ _ _)
      | (with_reducible exact laws_toBox.mono _ _ _ _ _)
      | (with_reducible exact LeO.refl _)
      | (with_reducible exact LeO.none _)
      | (with_reducible refine LeO.ite ?_ ?_)
      | (with_reducible refine LeO.bind ?_ (fun _ => ?_))
      | exact ih0 _ _ _
      | exact laws_toBox.mono _ _ _ _ _
      | exact LeO.none _
      | refine LeO.ite ?_ ?_
      | refine LeO.bind ?_ (fun _ => ?_)
theorem laws_toBoxS.mono : ∀ a0 k, LeO (laws_toBoxS.f k a0) (laws_toBoxS.f (k + 1) a0) := by
  intro a0 k
  have ih0 := laws_toBoxS.mono_l k
  unfold laws_toBoxS.f
  repeat' first
      | (with_reducible exact ih0 _ _ _)
      | (with_reducible exact laws_toBox.mono _ _ _ _ _)
      | (with_reducible exact LeO.refl _)
      | (with_reducible exact LeO.none _)
      | (with_reducible refine LeO.ite ?_ ?_)
      | (with_reducible refine LeO.bind ?_ (fun _ => ?_))
      | exact ih0 _ _ _
      | exact laws_toBox.mono _ _ _ _ _
      | exact LeO.none _
      | refine LeO.ite ?_ ?_
      | refine LeO.bind ?_ (fun _ => ?_)
set_option maxHeartbeats 8000000 in
set_option maxRecDepth 100000 in
theorem laws_toBoxS.calls (k : Nat) (A0 : Option Addr) (c0 : Nat) (l0 : List (S64)) (r : List (S67)) (w : World) (hr0 : Kd.C k64 w A0 l0.length l0) (hc0 : l0.length ≤ c0) (h : laws_toBoxS.f k l0 = some r) :
    Calls Try.prog 57 #[.slice A0 l0.length c0] w fun e w' => ∃ v0_ : Value, e = .returned (v0_) ∧ Kd.S k67 67 w' w.heap.size (fun _ => True) v0_ r ∧ Below w.heap.size w w' := by
  have hu64 := Try.underlying64
  have hu67 := Try.underlying67
  have HR0 := Aside0.mk hr0
  have HC0 := Aside0.mk hc0
  clear hr0 hc0
  have HB := Aside0.mk (Below.refl w.heap.size w)
  have H : (if 0 ≤ (l0.length : Int) then (if ((l0.length : Int) : Int).toNat ≤ 4398046511104 then (laws_toBoxS.l0 k l0 (List.replicate ((l0.length : Int) : Int).toNat z67) 0) else (none)) else (none)) = some r := h
  clear h
  by_cases c2 : 0 ≤ (l0.length : Int)
  rotate_left
  · rw [if_neg c2] at H
    exact absurd H (by simp)
  rw [if_pos c2] at H
  have c2b0 := eq_true c2
  have c2b1 : decide (0 ≤ (l0.length : Int)) = true := decide_eq_true c2
  clear c2
  by_cases c3 : ((l0.length : Int) : Int).toNat ≤ 4398046511104
  rotate_left
  · rw [if_neg c3] at H
    exact absurd H (by simp)
  rw [if_pos c3] at H
  have c3b0 := eq_true c3
  have c3b1 : decide (((l0.length : Int) : Int).toNat ≤ 4398046511104) = true := decide_eq_true c3
  clear c3
  obtain ⟨y624, hy624⟩ : ∃ y_ : List (S67), y_ = (List.replicate ((l0.length : Int) : Int).toNat z67) := ⟨_, rfl⟩
  replace H : (laws_toBoxS.l0 k l0 y624 0) = some r := by first | (rw [hy624]; with_reducible exact H) | (have H2_ := (Option.bind_some _ _).symm.trans H; rw [hy624]; with_reducible exact H2_) | (have H2_ := (Option.bind_some _ _).symm.trans H; with_reducible exact H2_) | with_reducible exact H | (rw [hy624]; exact H) | exact H
  have Ny624 := Aside0.mk hy624
  clear hy624
  have H' := Aside0.mk H
  clear H
  go_enter Try.func57, Try.ntmps57
  go_wp2_with (first | ((with_reducible refine gate_dst (N := 7) rfl ?_); refine Kd.S_make k67 _ 67 rfl (N := 7) rfl 56 _ _ rfl (l0.length : Int) rfl rfl Try.underlying56 (.agg #[(.int .i64 0), (.slice none 0 0), (.slice none 0 0), (.bool false)]) 64 info67 rfl (by decide) (by omega) z67 (ok := fun _ => True) (okp := fun _ => True) (k67_mkM _ _ _ z67 (Kd.R_nil _ _ _ _ _) (Kd.R_nil _ _ _ _ _)) (fun _ hk => hk) trivial dt_ (Nat.le_trans (Nat.mul_le_mul_right _ (dt_ : (l0.length : Int).toNat ≤ 4398046511104)) (by omega)) (Below.refl _ _) (Nat.le_refl _) ?_; intro v625 w4 ho5 hb hg_ hnew_; clear hg_ hnew_; (first | rw [← Ny624.out] at ho5 | (simp only [Int.reduceToNat] at ho5; rw [← Ny624.out] at ho5)); have n0_ := Aside0.mk (Kd.S_lower ho5 (below_size (pb_ HB.out))); have n1_ := Aside0.mk (below_step (pb_ HB.out) hb); clear HB; have HO626 := n0_; have HB := n1_; clear n0_ n1_; clear hb ho5))
  (try simp only [Act.put, List.setIfInBounds_toArray, List.set_cons_zero, List.set_cons_succ])
  go_loopg [4] k (fun kq v4 w' => ∃ (x3_1 : List (S67)) (x4_1 : Int), v4 = .int .i64 x4_1 ∧ Aside0 (laws_toBoxS.l0 kq l0 x3_1 x4_1 = some r) ∧ Aside0 (kq ≤ k) ∧ Aside0 (Kd.S k67 67 w' w.heap.size (fun _ => True) v625 x3_1) ∧ Aside0 (Below w.heap.size w w'))
  case atStart => exact ⟨(y624), (0), el_, H', ⟨Nat.le_refl _⟩, ⟨ps_ HO626.out⟩, ⟨pb_ HB.out⟩⟩
  clear H'
  try clear c2
  try clear c2b0
  try clear c2b1
  try clear p2
  try clear c3
  try clear c3b0
  try clear c3b1
  try clear c5
  obtain ⟨x3_1, x4_1, rfl, HA, HK1, HO_3, HB⟩ := hrel
  rcases gk with _ | k1
  · exact absurd HA.out (by simp [laws_toBoxS.l0])
  have H := HA.out
  clear HA
  simp only [laws_toBoxS.l0] at H
  by_cases c6 : x4_1 < (l0.length : Int)
  rotate_left
  · rw [if_neg c6] at H
    have c6b0 : decide (x4_1 < (l0.length : Int)) = false := decide_eq_false c6
    clear c6
    obtain rfl := Option.some.inj H
    go_wp2
    go_ret
    exact ⟨_, er_, ps_ HO_3.out, pb_ HB.out⟩
  rw [if_pos c6] at H
  have c6b0 : decide (x4_1 < (l0.length : Int)) = true := decide_eq_true c6
  clear c6
  by_cases c7 : 0 ≤ x4_1
  rotate_left
  · rw [if_neg c7] at H
    exact absurd H (by simp)
  rw [if_pos c7] at H
  have c7b0 : decide (0 ≤ x4_1) = true := decide_eq_true c7
  clear c7
  replace H := Option.bind_eq_some_iff.mp H
  obtain ⟨⟨t628, t629, t632, t635⟩, A80, H⟩ := H
  (try dsimp only at H)
  have A8 := Aside0.mk A80
  clear A80
  by_cases c9 : x4_1 < (x3_1.length : Int)
  rotate_left
  · rw [if_neg c9] at H
    exact absurd H (by simp)
  rw [if_pos c9] at H
  have c9b0 : decide (x4_1 < (x3_1.length : Int)) = true := decide_eq_true c9
  clear c9
  obtain ⟨y636, hy636⟩ : ∃ y_ : List (S67), y_ = (x3_1.set (x4_1 : Int).toNat (⟨t628, t629, t632, t635⟩ : S67)) := ⟨_, rfl⟩
  replace H : (laws_toBoxS.l0 k1 l0 y636 (wrap64 (x4_1 + 1))) = some r := by first | (rw [hy636]; with_reducible exact H) | (have H2_ := (Option.bind_some _ _).symm.trans H; rw [hy636]; with_reducible exact H2_) | (have H2_ := (Option.bind_some _ _).symm.trans H; with_reducible exact H2_) | with_reducible exact H | (rw [hy636]; exact H) | exact H
  have Ny636 := Aside0.mk hy636
  clear hy636
  have H' := Aside0.mk H
  clear H
  have p627 : 0 ≤ (x4_1 : Int) := dt_
  have q627 : x4_1 < (l0.length : Int) := dt_
  obtain ⟨ad627, A627_1, c627_1, A627_2, c627_2, e627, hx627_0, hx627_1, hx627_2, hx627_3, hl627_1, hi627_1, hl627_2, hi627_2⟩ := at_T64 HR0.out x4_1 p627 q627
  cases e627
  replace hx627_0 := (HB.out.cell (World.block_lt_of_cell? w _ hx627_0)).trans hx627_0
  replace hx627_1 := (HB.out.cell (World.block_lt_of_cell? w _ hx627_1)).trans hx627_1
  replace hx627_2 := (HB.out.cell (World.block_lt_of_cell? w _ hx627_2)).trans hx627_2
  replace hx627_3 := (HB.out.cell (World.block_lt_of_cell? w _ hx627_3)).trans hx627_3
  have HR627_1 := Aside0.mk hi627_1
  have HC627_1 := Aside0.mk hl627_1
  clear hi627_1 hl627_1
  have HR627_2 := Aside0.mk hi627_2
  have HC627_2 := Aside0.mk hl627_2
  clear hi627_2 hl627_2
  replace p627 := eq_true p627
  replace q627 := eq_true q627
  go_wp2_with (first | ((with_reducible refine gate_callee (f := 52) rfl ?_); refine goesL_ (some 20) rfl rfl Try.func52 (by kernel_rfl) rfl #[.agg #[.int .i64 ((rd_T64 l0 x4_1).f0), .slice A627_1 ((rd_T64 l0 x4_1).f1).length c627_1, .slice A627_2 ((rd_T64 l0 x4_1).f2).length c627_2, .bool ((rd_T64 l0 x4_1).f3)]] rfl mp_ ?_; (with_reducible refine (laws_toBox.calls k1 ((rd_T64 l0 x4_1).f0) _ _ ((rd_T64 l0 x4_1).f1) _ _ ((rd_T64 l0 x4_1).f2) ((rd_T64 l0 x4_1).f3) t628 t629 t632 t635 _ ?side1 ?side2 ?side3 ?side4 A8.out).mono ?_); (case side1 => exact pc_ (Kd.C_below HR627_1.out HB.out)); (case side2 => exact HC627_1.out); (case side3 => exact pc_ (Kd.C_below HR627_2.out HB.out)); (case side4 => exact HC627_2.out); rintro e w11 ⟨v630, v633, rfl, ho0, ho1, hb⟩; refine ⟨_, rfl, ?_⟩; have n0_ := Aside0.mk (Kd.S_mono (Kd.S_told (Kd.S_told (Kd.S_old (ps_ HO_3.out) hb) (Kd.R_base ho0)) (Kd.R_base ho1)) (fun _ h_ => h_.1)); have n1_ := Aside0.mk (Kd.R_lower ho0 (below_size (pb_ HB.out))); have n2_ := Aside0.mk (Kd.R_lower ho1 (below_size (pb_ HB.out))); have n3_ := Aside0.mk (below_step (pb_ HB.out) hb); clear HO_3; clear HB; have HO_3 := n0_; have HO631 := n1_; have HO634 := n2_; have HB := n3_; clear n0_ n1_ n2_ n3_; (try clear hb); (try clear hb2); (try clear hk); (try clear hi); (try clear ho0); (try clear ho1); have p10 : 0 ≤ (x4_1 : Int) := dt_; have q10 : (x4_1 : Int) < ((x3_1.length : Int) : Int) := dt_; obtain ⟨go10, co10, eo10, gb10, gl10, cl10, HG10⟩ := Kd.S_form HO_3.out (by omega); (first | cases eo10 | (injection eo10 with ea_ en_ ec_; (first | subst ea_ | (injection ea_ with ea_; subst ea_)); subst ec_; clear en_)); have GB10 := Aside0.mk gb10; have GG10 := Aside0.mk HG10; clear gb10 gl10 HG10; obtain ⟨_, ce10, hcl10, hM10, hcc10, hfr10, _, _⟩ := Kd.S_elem HO_3.out z67 (x4_1 : Int) p10 q10; obtain ⟨ve10_1, ve10_2, rfl, ge10_1, ge10_2⟩ := k67_openM hM10; have hx10_0 : w11.cell? ⟨go10, (x4_1 : Int).toNat * 4, none⟩ = some (.int .i64 ((rd_T67 x3_1 x4_1).f0)) := hcc10 0 _ rfl; have hx10_1 : w11.cell? ⟨go10, (x4_1 : Int).toNat * 4 + 1, none⟩ = some (ve10_1) := hcc10 1 _ rfl; have hx10_2 : w11.cell? ⟨go10, (x4_1 : Int).toNat * 4 + 2, none⟩ = some (ve10_2) := hcc10 2 _ rfl; have hx10_3 : w11.cell? ⟨go10, (x4_1 : Int).toNat * 4 + 3, none⟩ = some (.bool ((rd_T67 x3_1 x4_1).f3)) := hcc10 3 _ rfl; have hf10_0 : w11.frozen? ⟨go10, (x4_1 : Int).toNat * 4, none⟩ = false := hfr10 0; have hf10_1 : w11.frozen? ⟨go10, (x4_1 : Int).toNat * 4 + 1, none⟩ = false := hfr10 1; have hf10_2 : w11.frozen? ⟨go10, (x4_1 : Int).toNat * 4 + 2, none⟩ = false := hfr10 2; have hf10_3 : w11.frozen? ⟨go10, (x4_1 : Int).toNat * 4 + 3, none⟩ = false := hfr10 3; clear hcl10 hcc10 hfr10; (try clear hM10); replace p10 := eq_true p10; replace q10 := eq_true q10; have n_ := Aside0.mk (Kd.S_mono (ok' := (fun k_ => some k_ ≠ (v630 : Value).ownBlock ∧ some k_ ≠ (v633 : Value).ownBlock)) HO_3.out (fun k_ hk => ⟨hk.1.2, hk.2⟩)); clear HO_3; have HO_3 := n_; clear n_; have HX12 := Aside0.mk (show Kd.S k67 67 w11 w.heap.size (fun k_ => ((fun _ => True)) k_ ∧ ¬ ((fun k_ => some k_ = (v630 : Value).ownBlock ∨ some k_ = (v633 : Value).ownBlock)) k_) (.slice (some ⟨go10, 0, none⟩) x3_1.length co10) x3_1 from (by (with_reducible repeat (first | apply Kd.S_alloc | apply Kd.S_drewN | apply Kd.S_drew)); exact Kd.S_mono HO_3.out (fun k_ hk => ⟨trivial, fun e_ => e_.elim (fun h_ => hk.1 h_) (fun h_ => hk.2 h_)⟩))); obtain ⟨oki12, ce12, hcl12, hM12, hcc12, hfr12, hoki12, hH12⟩ := Kd.S_elem HX12.out z67 (x4_1 : Int) dt_ (by have h_ : (x4_1 : Int) < ((x3_1.length : Int) : Int) := dt_; first | exact h_ | (have e_ := (Kd.S_reads' HO_3.out).1; omega) | simpa using h_); obtain ⟨ve12_1, ve12_2, rfl, ge12_1, ge12_2⟩ := k67_openM hM12; have HP12 := Kd.S_seg hH12 dt_ (by have h_ : (x4_1 : Int) < ((x3_1.length : Int) : Int) := dt_; first | exact h_ | (have e_ := (Kd.S_reads' HO_3.out).1; omega) | simpa using h_) (seg := [.int .i64 t628, v630, v633, .bool t635]) (j := 0) (show 4 ≤ 4 from by decide) (x' := (⟨t628, t629, t632, t635⟩ : S67)) (k67_mkM _ _ _ (⟨t628, t629, t632, t635⟩ : S67) (Kd.R_mono (Kd.R_tight rfl (Kd.R_mono (ok' := fun k_ => ((fun _ => True)) k_ ∧ k_ ≠ go10) (Kd.R_apart' (HO631.out) (Kd.S_typed HO_3.out) (by decide)) (fun k_ hk => ⟨trivial, fun e_ => (hk.2) (by rw [e_]; rfl)⟩))) (fun _ h_ => Or.inr (Or.inl h_))) (Kd.R_mono (Kd.R_tight rfl (Kd.R_mono (ok' := fun k_ => ((fun _ => True)) k_ ∧ k_ ≠ go10) (Kd.R_apart' (HO634.out) (Kd.S_typed HO_3.out) (by decide)) (fun k_ hk => ⟨trivial, fun e_ => (hk.2) (by rw [e_]; rfl)⟩))) (fun _ h_ => Or.inr (Or.inr (h_))))) (fun _ hk => hk) (fun k_ hk_ => hk_.elim (fun h_ => ((Kd.R_mono (ok' := fun k_ => ((fun _ => True)) k_ ∧ k_ ≠ go10) (Kd.R_apart' (HO631.out) (Kd.S_typed HO_3.out) (by decide)) (fun k_ hk => ⟨trivial, fun e_ => (hk.2) (by rw [e_]; rfl)⟩))).1 k_ h_.symm) (fun h_ => ((Kd.R_mono (ok' := fun k_ => ((fun _ => True)) k_ ∧ k_ ≠ go10) (Kd.R_apart' (HO634.out) (Kd.S_typed HO_3.out) (by decide)) (fun k_ hk => ⟨trivial, fun e_ => (hk.2) (by rw [e_]; rfl)⟩))).1 k_ h_.symm)); have hx12_0 := hcc12 0 _ rfl; (try simp only [show (k67).sz = 4 from rfl, Nat.mul_one, Nat.add_zero] at hx12_0); have hf12_0 := hfr12 0; (try simp only [show (k67).sz = 4 from rfl, Nat.mul_one, Nat.add_zero] at hf12_0); have hx12_1 := hcc12 1 _ rfl; (try simp only [show (k67).sz = 4 from rfl, Nat.mul_one, Nat.add_zero] at hx12_1); have hf12_1 := hfr12 1; (try simp only [show (k67).sz = 4 from rfl, Nat.mul_one, Nat.add_zero] at hf12_1); have hx12_2 := hcc12 2 _ rfl; (try simp only [show (k67).sz = 4 from rfl, Nat.mul_one, Nat.add_zero] at hx12_2); have hf12_2 := hfr12 2; (try simp only [show (k67).sz = 4 from rfl, Nat.mul_one, Nat.add_zero] at hf12_2); have hx12_3 := hcc12 3 _ rfl; (try simp only [show (k67).sz = 4 from rfl, Nat.mul_one, Nat.add_zero] at hx12_3); have hf12_3 := hfr12 3; (try simp only [show (k67).sz = 4 from rfl, Nat.mul_one, Nat.add_zero] at hf12_3); clear hcl12 hcc12 hfr12 hoki12 hH12; (try clear hM12)) | ((with_reducible refine gate_store (t := 67) (p := 21) rfl ?_); refine store_event (t := 67) (p := 21) (v := ?vo_w13) (w1 := ((((w11.setCell ⟨go10, (x4_1 : Int).toNat * 4, none⟩ (.int .i64 t628)).setCell ⟨go10, (x4_1 : Int).toNat * 4 + 1, none⟩ (v630)).setCell ⟨go10, (x4_1 : Int).toNat * 4 + 2, none⟩ (v633)).setCell ⟨go10, (x4_1 : Int).toNat * 4 + 3, none⟩ (.bool t635))) ?hg ?ho ?hn ?hr ?_; (case ho => rfl); (case hg => rfl); (case hn => rfl); (case hr => first | (go_simp; done) | (go_simp; rfl) | (obtain ⟨Ae_, ce_, ee_⟩ := Kd.R_slice HO631.out; subst ee_; obtain ⟨Ae_, ce_, ee_⟩ := Kd.R_slice HO634.out; subst ee_; go_simp; first | done | rfl)); intro w13 hw; have hg : w11.grownBy w13 (some go10) := (by rw [hw]; exact HP12.2); have hp_ : Kd.S k67 67 w13 w.heap.size (fun _ => True) (.slice (some ⟨go10, 0, none⟩) x3_1.length co10) y636 := (by rw [hw, Ny636.out]; exact HP12.1); clear HP12; have n0_ := Aside0.mk (hp_); have n1_ := Aside0.mk ((by rw [hw]; exact below_set (below_set (below_set (below_set (HB.out) GB10.out) GB10.out) GB10.out) GB10.out : Below w.heap.size w w13)); clear HO_3; clear HB; clear HO631; clear HO634; have HO_3 := n0_; have HB := n1_; clear n0_ n1_; clear hg hw hp_))
  go_roundg k1
  case measure => have := HK1.out; omega
  case rel => exact ⟨(y636), (wrap64 (x4_1 + 1)), el_, H', ⟨by have := HK1.out; omega⟩, ⟨ps_ HO_3.out⟩, ⟨pb_ HB.out⟩⟩

/-! ### laws_toEndpoint: function 45 -/
def laws_toEndpoint.f (k : Nat) (l0_0 : List Int) (l0_1 : List Int) (l0_2 : List (S64)) (a0_3 : Int) : Option (List Int × List Int × (List (S67)) × Int) := (laws_toIntS.f k l0_0).bind fun t640 => ((laws_toIntS.f k l0_1).bind fun t643 => ((laws_toBoxS.f k l0_2).bind fun t646 => (some (t640, t643, t646, a0_3))))
theorem laws_toEndpoint.mono : ∀ a0 a1 a2 a3 k, LeO (laws_toEndpoint.f k a0 a1 a2 a3) (laws_toEndpoint.f (k + 1) a0 a1 a2 a3) := by
  intro a0 a1 a2 a3 k
  unfold laws_toEndpoint.f
  repeat' first
      | (with_reducible exact laws_toBoxS.mono _ _)
      | (with_reducible exact laws_toIntS.mono _ _)
      | (with_reducible exact LeO.refl _)
      | (with_reducible exact LeO.none _)
      | (with_reducible refine LeO.ite ?_ ?_)
      | (with_reducible refine LeO.bind ?_ (fun _ => ?_))
      | exact laws_toBoxS.mono _ _
      | exact laws_toIntS.mono _ _
      | exact LeO.none _
      | refine LeO.ite ?_ ?_
      | refine LeO.bind ?_ (fun _ => ?_)
set_option maxHeartbeats 8000000 in
set_option maxRecDepth 100000 in
theorem laws_toEndpoint.calls (k : Nat) (A0_0 : Option Addr) (c0_0 : Nat) (l0_0 : List Int) (A0_1 : Option Addr) (c0_1 : Nat) (l0_1 : List Int) (A0_2 : Option Addr) (c0_2 : Nat) (l0_2 : List (S64)) (a0_3 : Int) (r1 : List Int) (r2 : List Int) (r3 : List (S67)) (r4 : Int) (w : World) (hr0_0 : Kd.C (Kd.int .i64) w A0_0 l0_0.length l0_0) (hc0_0 : l0_0.length ≤ c0_0) (hr0_1 : Kd.C (Kd.int .i64) w A0_1 l0_1.length l0_1) (hc0_1 : l0_1.length ≤ c0_1) (hr0_2 : Kd.C k64 w A0_2 l0_2.length l0_2) (hc0_2 : l0_2.length ≤ c0_2) (h : laws_toEndpoint.f k l0_0 l0_1 l0_2 a0_3 = some (r1, r2, r3, r4)) :
    Calls Try.prog 45 #[.agg #[.slice A0_0 l0_0.length c0_0, .slice A0_1 l0_1.length c0_1, .slice A0_2 l0_2.length c0_2, .int .i64 a0_3]] w fun e w' => ∃ v0_ v1_ v2_ : Value, e = .returned (.agg #[v0_, v1_, v2_, .int .i64 r4]) ∧ Kd.R (Kd.int .i64) 3 w' w.heap.size (fun k_ => some k_ ≠ (v1_ : Value).ownBlock) v0_ r1 ∧ Kd.R (Kd.int .i64) 3 w' w.heap.size (fun k_ => some k_ ≠ (v0_ : Value).ownBlock) v1_ r2 ∧ Kd.S k67 67 w' w.heap.size (fun k_ => some k_ ≠ (v0_ : Value).ownBlock ∧ some k_ ≠ (v1_ : Value).ownBlock) v2_ r3 ∧ Below w.heap.size w w' := by
  have hu53 := Try.underlying53
  have hu58 := Try.underlying58
  have HR0_0 := Aside0.mk hr0_0
  have HC0_0 := Aside0.mk hc0_0
  clear hr0_0 hc0_0
  have HR0_1 := Aside0.mk hr0_1
  have HC0_1 := Aside0.mk hc0_1
  clear hr0_1 hc0_1
  have HR0_2 := Aside0.mk hr0_2
  have HC0_2 := Aside0.mk hc0_2
  clear hr0_2 hc0_2
  have HB := Aside0.mk (Below.refl w.heap.size w)
  have H : ((laws_toIntS.f k l0_0).bind fun t640 => ((laws_toIntS.f k l0_1).bind fun t643 => ((laws_toBoxS.f k l0_2).bind fun t646 => (some (t640, t643, t646, a0_3))))) = some (r1, r2, r3, r4) := h
  clear h
  replace H := Option.bind_eq_some_iff.mp H
  obtain ⟨t640, A20, H⟩ := H
  (try dsimp only at H)
  have A2 := Aside0.mk A20
  clear A20
  replace H := Option.bind_eq_some_iff.mp H
  obtain ⟨t643, A30, H⟩ := H
  (try dsimp only at H)
  have A3 := Aside0.mk A30
  clear A30
  replace H := Option.bind_eq_some_iff.mp H
  obtain ⟨t646, A40, H⟩ := H
  replace H : (some (t640, t643, t646, a0_3)) = some (r1, r2, r3, r4) := H
  have A4 := Aside0.mk A40
  clear A40
  simp only [Option.some.injEq, Prod.mk.injEq] at H
  obtain ⟨rfl, rfl, rfl, rfl⟩ := H
  go_enter Try.func45, Try.ntmps45
  go_wp2_with (first | ((with_reducible refine gate_dst (N := 1) rfl ?_); refine box_event ?hg (N := 1) ?hd (cs := #[.slice A0_0 l0_0.length c0_0, .slice A0_1 l0_1.length c0_1, .slice A0_2 l0_2.length c0_2, .int .i64 a0_3]) (t := 53) ?hr ?_; (case hd => rfl); (case hg => rfl); (case hr => first | (go_simp; done) | (go_simp; rfl)); intro gb637 hg w5 hbox hb; have n0_ := Aside0.mk (below_step (pb_ HB.out) hb); have n1_ := Aside0.mk (hbox); have n2_ := Aside0.mk ((by rw [hg]; exact (below_size (pb_ HB.out)) : w.heap.size ≤ gb637)); have n3_ := Aside0.mk ((by rw [hg]; exact (below_size (pb_ HB.out)) : w.heap.size ≤ gb637)); clear HB; have HB := n0_; have BK637 := n1_; have GW637 := n2_; have GE637 := n3_; clear n0_ n1_ n2_ n3_; clear hb hbox hg) | ((with_reducible refine gate_dst (N := 2) rfl ?_); refine box_event ?hg (N := 2) ?hd (cs := #[.slice none 0 0, .slice none 0 0, .slice none 0 0, .int .i64 0]) (t := 58) ?hr ?_; (case hd => rfl); (case hg => rfl); (case hr => first | (go_simp; done) | (go_simp; rfl)); intro gb638 hg w6 hbox hb; have n0_ := Aside0.mk (bb_ BK637.out hb); have n1_ := Aside0.mk (below_step (pb1_ HB.out GE637.out) hb); have n2_ := Aside0.mk (hbox); have n3_ := Aside0.mk ((by rw [hg]; exact (below_size (pb1_ HB.out GE637.out)) : w.heap.size ≤ gb638)); have n4_ := Aside0.mk ((by rw [hg]; exact (below_size (pb1_ HB.out GE637.out)) : w.heap.size ≤ gb638)); have n5_ := Aside0.mk ((by rw [hg]; exact Nat.ne_of_lt (blk_lt (pk_ BK637.out)) : gb637 ≠ gb638)); have n6_ := Aside0.mk ((by rw [hg]; exact Nat.ne_of_gt (blk_lt (pk_ BK637.out)) : gb638 ≠ gb637)); clear BK637; clear HB; have BK637 := n0_; have HB := n1_; have BK638 := n2_; have GW638 := n3_; have GE638 := n4_; have NB637_638 := n5_; have NB638_637 := n6_; clear n0_ n1_ n2_ n3_ n4_ n5_ n6_; clear hb hbox hg) | ((with_reducible refine gate_dst (N := 3) rfl ?_); refine box_event ?hg (N := 3) ?hd (cs := #[.slice none 0 0, .slice none 0 0, .slice none 0 0, .int .i64 0]) (t := 58) ?hr ?_; (case hd => rfl); (case hg => rfl); (case hr => first | (go_simp; done) | (go_simp; rfl)); intro gb639 hg w7 hbox hb; have n0_ := Aside0.mk (bb_ BK637.out hb); have n1_ := Aside0.mk (bb_ BK638.out hb); have n2_ := Aside0.mk (below_step (pb2_ HB.out GE637.out GE638.out) hb); have n3_ := Aside0.mk (hbox); have n4_ := Aside0.mk ((by rw [hg]; exact (below_size (pb2_ HB.out GE637.out GE638.out)) : w.heap.size ≤ gb639)); have n5_ := Aside0.mk ((by rw [hg]; exact (below_size (pb2_ HB.out GE637.out GE638.out)) : w.heap.size ≤ gb639)); have n6_ := Aside0.mk ((by rw [hg]; exact Nat.ne_of_lt (blk_lt (pk_ BK637.out)) : gb637 ≠ gb639)); have n7_ := Aside0.mk ((by rw [hg]; exact Nat.ne_of_gt (blk_lt (pk_ BK637.out)) : gb639 ≠ gb637)); have n8_ := Aside0.mk ((by rw [hg]; exact Nat.ne_of_lt (blk_lt (pk_ BK638.out)) : gb638 ≠ gb639)); have n9_ := Aside0.mk ((by rw [hg]; exact Nat.ne_of_gt (blk_lt (pk_ BK638.out)) : gb639 ≠ gb638)); clear BK637; clear BK638; clear HB; have BK637 := n0_; have BK638 := n1_; have HB := n2_; have BK639 := n3_; have GW639 := n4_; have GE639 := n5_; have NB637_639 := n6_; have NB639_637 := n7_; have NB638_639 := n8_; have NB639_638 := n9_; clear n0_ n1_ n2_ n3_ n4_ n5_ n6_ n7_ n8_ n9_; clear hb hbox hg; have hnb8 := NB637_638.out; have hnc8 := NB638_637.out; have hnb9 := NB637_639.out; have hnc9 := NB639_637.out; have hcz10_0 : w7.cell? ⟨gb637, 0, none⟩ = some (.slice A0_0 l0_0.length c0_0) := (blk_cell BK637.out 0).trans rfl; have hcz10_1 : w7.cell? ⟨gb637, 1, none⟩ = some (.slice A0_1 l0_1.length c0_1) := (blk_cell BK637.out 1).trans rfl; have hcz10_2 : w7.cell? ⟨gb637, 2, none⟩ = some (.slice A0_2 l0_2.length c0_2) := (blk_cell BK637.out 2).trans rfl; have hcz10_3 : w7.cell? ⟨gb637, 3, none⟩ = some (.int .i64 a0_3) := (blk_cell BK637.out 3).trans rfl; have hfz10_0 := blk_frozen BK637.out 0; have hfz10_1 := blk_frozen BK637.out 1; have hfz10_2 := blk_frozen BK637.out 2; have hfz10_3 := blk_frozen BK637.out 3) | ((with_reducible refine gate_callee (f := 17) rfl ?_); refine goesL_ (some 6) rfl rfl Try.func17 (by kernel_rfl) rfl #[.slice A0_0 l0_0.length c0_0] rfl mp_ ?_; (with_reducible refine (laws_toIntS.calls k _ _ l0_0 t640 _ ?side1 ?side2 A2.out).mono ?_); (case side1 => exact pc_ (Kd.C_below HR0_0.out HB.out)); (case side2 => exact HC0_0.out); rintro e w11 ⟨v641, rfl, ho0, hb⟩; refine ⟨_, rfl, ?_⟩; have n0_ := Aside0.mk (Kd.R_lower ho0 (below_size (pb3_ HB.out GE637.out GE638.out GE639.out))); have n1_ := Aside0.mk (bb_ BK637.out hb); have n2_ := Aside0.mk (bb_ BK638.out hb); have n3_ := Aside0.mk (bb_ BK639.out hb); have n4_ := Aside0.mk (below_step (pb3_ HB.out GE637.out GE638.out GE639.out) hb); clear BK637; clear BK638; clear BK639; clear HB; have HO642 := n0_; have BK637 := n1_; have BK638 := n2_; have BK639 := n3_; have HB := n4_; clear n0_ n1_ n2_ n3_ n4_; (try clear hb); (try clear hb2); (try clear hk); (try clear hi); (try clear ho0); obtain ⟨Ao12, co12, eo12⟩ := Kd.R_slice HO642.out; subst eo12; have hnb13 := NB639_638.out; have hnc13 := NB638_639.out; have hcz14_0 : w11.cell? ⟨gb639, 0, none⟩ = some (.slice none 0 0) := (blk_cell BK639.out 0).trans rfl; have hcz14_1 : w11.cell? ⟨gb639, 1, none⟩ = some (.slice none 0 0) := (blk_cell BK639.out 1).trans rfl; have hcz14_2 : w11.cell? ⟨gb639, 2, none⟩ = some (.slice none 0 0) := (blk_cell BK639.out 2).trans rfl; have hcz14_3 : w11.cell? ⟨gb639, 3, none⟩ = some (.int .i64 0) := (blk_cell BK639.out 3).trans rfl; have hfz14_0 := blk_frozen BK639.out 0; have hfz14_1 := blk_frozen BK639.out 1; have hfz14_2 := blk_frozen BK639.out 2; have hfz14_3 := blk_frozen BK639.out 3; have hcz15_0 : w11.cell? ⟨gb637, 0, none⟩ = some (.slice A0_0 l0_0.length c0_0) := (blk_cell BK637.out 0).trans rfl; have hcz15_1 : w11.cell? ⟨gb637, 1, none⟩ = some (.slice A0_1 l0_1.length c0_1) := (blk_cell BK637.out 1).trans rfl; have hcz15_2 : w11.cell? ⟨gb637, 2, none⟩ = some (.slice A0_2 l0_2.length c0_2) := (blk_cell BK637.out 2).trans rfl; have hcz15_3 : w11.cell? ⟨gb637, 3, none⟩ = some (.int .i64 a0_3) := (blk_cell BK637.out 3).trans rfl; have hfz15_0 := blk_frozen BK637.out 0; have hfz15_1 := blk_frozen BK637.out 1; have hfz15_2 := blk_frozen BK637.out 2; have hfz15_3 := blk_frozen BK637.out 3) | ((with_reducible refine gate_callee (f := 17) rfl ?_); refine goesL_ (some 10) rfl rfl Try.func17 (by kernel_rfl) rfl #[.slice A0_1 l0_1.length c0_1] rfl mp_ ?_; (with_reducible refine (laws_toIntS.calls k _ _ l0_1 t643 _ ?side1 ?side2 A3.out).mono ?_); (case side1 => exact Kd.C_below HR0_1.out (pb3_ HB.out GE637.out GE638.out GE639.out)); (case side2 => exact HC0_1.out); rintro e w16 ⟨v644, rfl, ho0, hb⟩; refine ⟨_, rfl, ?_⟩; have n0_ := Aside0.mk (Kd.R_elder' (pr_ (rf1_ HO642.out BK639.out)) (Kd.R_base ho0) hb); have n1_ := Aside0.mk (Kd.R_lower (Kd.R_new' ho0 (Kd.R_lt (pr_ (rf1_ HO642.out BK639.out)))) (below_size (pb3_ HB.out GE637.out GE638.out GE639.out))); have n2_ := Aside0.mk (blk_below (g := gb637) (o := .cells #[.slice A0_0 l0_0.length c0_0, .slice A0_1 l0_1.length c0_1, .slice A0_2 l0_2.length c0_2, .int .i64 a0_3] 53 (0, 0)) (pp_ BK637.out) hb); have n3_ := Aside0.mk (blk_below (g := gb638) (o := .cells #[.slice none 0 0, .slice none 0 0, .slice none 0 0, .int .i64 0] 58 (0, 0)) (pp_ BK638.out) hb); have n4_ := Aside0.mk (blk_below (g := gb639) (o := .cells #[.slice Ao12 t640.length co12, .slice none 0 0, .slice none 0 0, .int .i64 0] 58 (0, 0)) (pp_ BK639.out) hb); have n5_ := Aside0.mk (below_step (pb3_ HB.out GE637.out GE638.out GE639.out) hb); clear HO642; clear BK637; clear BK638; clear BK639; clear HB; have HO642 := n0_; have HO645 := n1_; have BK637 := n2_; have BK638 := n3_; have BK639 := n4_; have HB := n5_; clear n0_ n1_ n2_ n3_ n4_ n5_; (try clear hb); (try clear hb2); (try clear hk); (try clear hi); (try clear ho0); obtain ⟨Ao17, co17, eo17⟩ := Kd.R_slice HO645.out; subst eo17; have hcz18_0 : w16.cell? ⟨gb639, 0, none⟩ = some (.slice Ao12 t640.length co12) := (blk_cell BK639.out 0).trans rfl; have hcz18_1 : w16.cell? ⟨gb639, 1, none⟩ = some (.slice none 0 0) := (blk_cell BK639.out 1).trans rfl; have hcz18_2 : w16.cell? ⟨gb639, 2, none⟩ = some (.slice none 0 0) := (blk_cell BK639.out 2).trans rfl; have hcz18_3 : w16.cell? ⟨gb639, 3, none⟩ = some (.int .i64 0) := (blk_cell BK639.out 3).trans rfl; have hfz18_0 := blk_frozen BK639.out 0; have hfz18_1 := blk_frozen BK639.out 1; have hfz18_2 := blk_frozen BK639.out 2; have hfz18_3 := blk_frozen BK639.out 3; have hcz19_0 : w16.cell? ⟨gb637, 0, none⟩ = some (.slice A0_0 l0_0.length c0_0) := (blk_cell BK637.out 0).trans rfl; have hcz19_1 : w16.cell? ⟨gb637, 1, none⟩ = some (.slice A0_1 l0_1.length c0_1) := (blk_cell BK637.out 1).trans rfl; have hcz19_2 : w16.cell? ⟨gb637, 2, none⟩ = some (.slice A0_2 l0_2.length c0_2) := (blk_cell BK637.out 2).trans rfl; have hcz19_3 : w16.cell? ⟨gb637, 3, none⟩ = some (.int .i64 a0_3) := (blk_cell BK637.out 3).trans rfl; have hfz19_0 := blk_frozen BK637.out 0; have hfz19_1 := blk_frozen BK637.out 1; have hfz19_2 := blk_frozen BK637.out 2; have hfz19_3 := blk_frozen BK637.out 3) | ((with_reducible refine gate_callee (f := 57) rfl ?_); refine goesL_ (some 14) rfl rfl Try.func57 (by kernel_rfl) rfl #[.slice A0_2 l0_2.length c0_2] rfl mp_ ?_; (with_reducible refine (laws_toBoxS.calls k _ _ l0_2 t646 _ ?side1 ?side2 A4.out).mono ?_); (case side1 => exact Kd.C_below HR0_2.out (pb3_ HB.out GE637.out GE638.out GE639.out)); (case side2 => exact HC0_2.out); rintro e w20 ⟨v647, rfl, ho0, hb⟩; refine ⟨_, rfl, ?_⟩; have n0_ := Aside0.mk (Kd.R_below (pr_ (Kd.R_mono (Kd.R_far (p := ⟨gb639, 1, none⟩) (Kd.R_types HO642.out BK639.out (by decide)) (fun _ hk => hk.2) (.slice Ao17 t643.length co17)) (fun _ h_ => h_.1))) hb); have n1_ := Aside0.mk (Kd.R_below (pr_ (Kd.R_mono (Kd.R_far (p := ⟨gb639, 1, none⟩) (Kd.R_types HO645.out BK639.out (by decide)) (fun _ hk => hk.2) (.slice Ao17 t643.length co17)) (fun _ h_ => h_.1))) hb); have n2_ := Aside0.mk (Kd.S_lower (Kd.S_new' (Kd.S_new' ho0 (Kd.R_lt (pr_ (Kd.R_mono (Kd.R_far (p := ⟨gb639, 1, none⟩) (Kd.R_types HO642.out BK639.out (by decide)) (fun _ hk => hk.2) (.slice Ao17 t643.length co17)) (fun _ h_ => h_.1))))) (Kd.R_lt (pr_ (Kd.R_mono (Kd.R_far (p := ⟨gb639, 1, none⟩) (Kd.R_types HO645.out BK639.out (by decide)) (fun _ hk => hk.2) (.slice Ao17 t643.length co17)) (fun _ h_ => h_.1))))) (below_size (pb3_ HB.out GE637.out GE638.out GE639.out))); have n3_ := Aside0.mk (blk_below (g := gb637) (o := .cells #[.slice A0_0 l0_0.length c0_0, .slice A0_1 l0_1.length c0_1, .slice A0_2 l0_2.length c0_2, .int .i64 a0_3] 53 (0, 0)) (pp_ BK637.out) hb); have n4_ := Aside0.mk (blk_below (g := gb638) (o := .cells #[.slice none 0 0, .slice none 0 0, .slice none 0 0, .int .i64 0] 58 (0, 0)) (pp_ BK638.out) hb); have n5_ := Aside0.mk (blk_below (g := gb639) (o := .cells #[.slice Ao12 t640.length co12, .slice Ao17 t643.length co17, .slice none 0 0, .int .i64 0] 58 (0, 0)) (pp_ BK639.out) hb); have n6_ := Aside0.mk (below_step (pb3_ HB.out GE637.out GE638.out GE639.out) hb); clear HO642; clear HO645; clear BK637; clear BK638; clear BK639; clear HB; have HO642 := n0_; have HO645 := n1_; have HO648 := n2_; have BK637 := n3_; have BK638 := n4_; have BK639 := n5_; have HB := n6_; clear n0_ n1_ n2_ n3_ n4_ n5_ n6_; (try clear hb); (try clear hb2); (try clear hk); (try clear hi); (try clear ho0); obtain ⟨Ao21, co21, eo21⟩ := Kd.S_slice HO648.out; subst eo21; have hcz22_0 : w20.cell? ⟨gb639, 0, none⟩ = some (.slice Ao12 t640.length co12) := (blk_cell BK639.out 0).trans rfl; have hcz22_1 : w20.cell? ⟨gb639, 1, none⟩ = some (.slice Ao17 t643.length co17) := (blk_cell BK639.out 1).trans rfl; have hcz22_2 : w20.cell? ⟨gb639, 2, none⟩ = some (.slice none 0 0) := (blk_cell BK639.out 2).trans rfl; have hcz22_3 : w20.cell? ⟨gb639, 3, none⟩ = some (.int .i64 0) := (blk_cell BK639.out 3).trans rfl; have hfz22_0 := blk_frozen BK639.out 0; have hfz22_1 := blk_frozen BK639.out 1; have hfz22_2 := blk_frozen BK639.out 2; have hfz22_3 := blk_frozen BK639.out 3; have hcz23_0 : w20.cell? ⟨gb637, 0, none⟩ = some (.slice A0_0 l0_0.length c0_0) := (blk_cell BK637.out 0).trans rfl; have hcz23_1 : w20.cell? ⟨gb637, 1, none⟩ = some (.slice A0_1 l0_1.length c0_1) := (blk_cell BK637.out 1).trans rfl; have hcz23_2 : w20.cell? ⟨gb637, 2, none⟩ = some (.slice A0_2 l0_2.length c0_2) := (blk_cell BK637.out 2).trans rfl; have hcz23_3 : w20.cell? ⟨gb637, 3, none⟩ = some (.int .i64 a0_3) := (blk_cell BK637.out 3).trans rfl; have hfz23_0 := blk_frozen BK637.out 0; have hfz23_1 := blk_frozen BK637.out 1; have hfz23_2 := blk_frozen BK637.out 2; have hfz23_3 := blk_frozen BK637.out 3; have hcz24_0 : w20.cell? ⟨gb638, 0, none⟩ = some (.slice none 0 0) := (blk_cell BK638.out 0).trans rfl; have hcz24_1 : w20.cell? ⟨gb638, 1, none⟩ = some (.slice none 0 0) := (blk_cell BK638.out 1).trans rfl; have hcz24_2 : w20.cell? ⟨gb638, 2, none⟩ = some (.slice none 0 0) := (blk_cell BK638.out 2).trans rfl; have hcz24_3 : w20.cell? ⟨gb638, 3, none⟩ = some (.int .i64 0) := (blk_cell BK638.out 3).trans rfl; have hfz24_0 := blk_frozen BK638.out 0; have hfz24_1 := blk_frozen BK638.out 1; have hfz24_2 := blk_frozen BK638.out 2; have hfz24_3 := blk_frozen BK638.out 3))
  refine bodyPost_ret (results_cell_row rfl _ _ gb638 58 #[.slice Ao12 t640.length co12, .slice Ao17 t643.length co17, .slice Ao21 t646.length co21, .int .i64 a0_3] (0, 0) _ rfl (pp_ BK638.out) Try.underlying58 rfl (by kernel_rfl)) rfl ?_
  exact ⟨_, _, _, er_, pr_ (Kd.R_mono (Kd.R_far (p := ⟨gb638, 3, none⟩) (Kd.R_far (p := ⟨gb638, 2, none⟩) (Kd.R_far (p := ⟨gb638, 1, none⟩) (Kd.R_far (p := ⟨gb638, 0, none⟩) (Kd.R_far (p := ⟨gb639, 3, none⟩) (Kd.R_far (p := ⟨gb639, 2, none⟩) (Kd.R_types (Kd.R_types HO642.out BK639.out (by decide)) BK638.out (by decide)) (fun _ hk => hk.1.2) (.slice Ao21 t646.length co21)) (fun _ hk => hk.1.2) (.int .i64 a0_3)) (fun _ hk => hk.2) (.slice Ao12 t640.length co12)) (fun _ hk => hk.2) (.slice Ao17 t643.length co17)) (fun _ hk => hk.2) (.slice Ao21 t646.length co21)) (fun _ hk => hk.2) (.int .i64 a0_3)) (fun _ hk => hk.1.1.2)), pr_ (Kd.R_mono (Kd.R_far (p := ⟨gb638, 3, none⟩) (Kd.R_far (p := ⟨gb638, 2, none⟩) (Kd.R_far (p := ⟨gb638, 1, none⟩) (Kd.R_far (p := ⟨gb638, 0, none⟩) (Kd.R_far (p := ⟨gb639, 3, none⟩) (Kd.R_far (p := ⟨gb639, 2, none⟩) (Kd.R_types (Kd.R_types HO645.out BK639.out (by decide)) BK638.out (by decide)) (fun _ hk => hk.1.2) (.slice Ao21 t646.length co21)) (fun _ hk => hk.1.2) (.int .i64 a0_3)) (fun _ hk => hk.2) (.slice Ao12 t640.length co12)) (fun _ hk => hk.2) (.slice Ao17 t643.length co17)) (fun _ hk => hk.2) (.slice Ao21 t646.length co21)) (fun _ hk => hk.2) (.int .i64 a0_3)) (fun _ hk => hk.1.1.2)), by (with_reducible repeat (first | apply Kd.S_alloc | apply Kd.S_drewN | apply Kd.S_drew)); exact Kd.S_mono (Kd.S_far (p := ⟨gb638, 3, none⟩) (Kd.S_far (p := ⟨gb638, 2, none⟩) (Kd.S_far (p := ⟨gb638, 1, none⟩) (Kd.S_far (p := ⟨gb638, 0, none⟩) (Kd.S_far (p := ⟨gb639, 3, none⟩) (Kd.S_far (p := ⟨gb639, 2, none⟩) (Kd.S_types (Kd.S_types HO648.out BK639.out (by decide)) BK638.out (by decide)) (fun _ hk => hk.1.2) (.slice Ao21 t646.length co21)) (fun _ hk => hk.1.2) (.int .i64 a0_3)) (fun _ hk => hk.2) (.slice Ao12 t640.length co12)) (fun _ hk => hk.2) (.slice Ao17 t643.length co17)) (fun _ hk => hk.2) (.slice Ao21 t646.length co21)) (fun _ hk => hk.2) (.int .i64 a0_3)) (fun _ hk => ⟨hk.1.1.1.2, hk.1.1.2⟩), pb3_ HB.out GE637.out GE638.out GE639.out⟩

/-! ### impl_EqualBoxes: function 89 -/
def impl_EqualBoxes.f (k : Nat) (a0_0 : Int) (l0_1 : List Int) (l0_2 : List Int) (a0_3 : Bool) (a1_0 : Int) (l1_1 : List Int) (l1_2 : List Int) (a1_3 : Bool) : Option (Bool) := if a0_0 = a1_0 then ((slices_Equal_int_int.f k l0_1 l1_1).bind fun t651 => (if t651 = true then ((slices_Equal_int_int.f k l0_2 l1_2).bind fun t652 => (if t652 = true then (some (a0_3 == a1_3)) else (some false))) else (some false))) else (some false)
theorem impl_EqualBoxes.mono : ∀ a0 a1 a2 a3 a4 a5 a6 a7 k, LeO (impl_EqualBoxes.f k a0 a1 a2 a3 a4 a5 a6 a7) (impl_EqualBoxes.f (k + 1) a0 a1 a2 a3 a4 a5 a6 a7) := by
  intro a0 a1 a2 a3 a4 a5 a6 a7 k
  unfold impl_EqualBoxes.f
  repeat' first
      | (with_reducible exact slices_Equal_int_int.mono _ _ _)
      | (with_reducible exact LeO.refl _)
      | (with_reducible exact LeO.none _)
      | (with_reducible refine LeO.ite ?_ ?_)
      | (with_reducible refine LeO.bind ?_ (fun _ => ?_))
      | exact slices_Equal_int_int.mono _ _ _
      | exact LeO.none _
      | refine LeO.ite ?_ ?_
      | refine LeO.bind ?_ (fun _ => ?_)
set_option maxHeartbeats 8000000 in
set_option maxRecDepth 100000 in
theorem impl_EqualBoxes.calls (k : Nat) (a0_0 : Int) (A0_1 : Option Addr) (c0_1 : Nat) (l0_1 : List Int) (A0_2 : Option Addr) (c0_2 : Nat) (l0_2 : List Int) (a0_3 : Bool) (a1_0 : Int) (A1_1 : Option Addr) (c1_1 : Nat) (l1_1 : List Int) (A1_2 : Option Addr) (c1_2 : Nat) (l1_2 : List Int) (a1_3 : Bool) (r : Bool) (w : World) (hr0_1 : Kd.C (Kd.int .i64) w A0_1 l0_1.length l0_1) (hc0_1 : l0_1.length ≤ c0_1) (hr0_2 : Kd.C (Kd.int .i64) w A0_2 l0_2.length l0_2) (hc0_2 : l0_2.length ≤ c0_2) (hr1_1 : Kd.C (Kd.int .i64) w A1_1 l1_1.length l1_1) (hc1_1 : l1_1.length ≤ c1_1) (hr1_2 : Kd.C (Kd.int .i64) w A1_2 l1_2.length l1_2) (hc1_2 : l1_2.length ≤ c1_2) (h : impl_EqualBoxes.f k a0_0 l0_1 l0_2 a0_3 a1_0 l1_1 l1_2 a1_3 = some r) :
    Calls Try.prog 89 #[.agg #[.int .i64 a0_0, .slice A0_1 l0_1.length c0_1, .slice A0_2 l0_2.length c0_2, .bool a0_3], .agg #[.int .i64 a1_0, .slice A1_1 l1_1.length c1_1, .slice A1_2 l1_2.length c1_2, .bool a1_3]] w fun e w' => e = .returned (.bool r) ∧ Below w.heap.size w w' := by
  have hu67 := Try.underlying67
  have HR0_1 := Aside0.mk hr0_1
  have HC0_1 := Aside0.mk hc0_1
  clear hr0_1 hc0_1
  have HR0_2 := Aside0.mk hr0_2
  have HC0_2 := Aside0.mk hc0_2
  clear hr0_2 hc0_2
  have HR1_1 := Aside0.mk hr1_1
  have HC1_1 := Aside0.mk hc1_1
  clear hr1_1 hc1_1
  have HR1_2 := Aside0.mk hr1_2
  have HC1_2 := Aside0.mk hc1_2
  clear hr1_2 hc1_2
  have HB := Aside0.mk (Below.refl w.heap.size w)
  have H : (if a0_0 = a1_0 then ((slices_Equal_int_int.f k l0_1 l1_1).bind fun t651 => (if t651 = true then ((slices_Equal_int_int.f k l0_2 l1_2).bind fun t652 => (if t652 = true then (some (a0_3 == a1_3)) else (some false))) else (some false))) else (some false)) = some r := h
  clear h
  have HS_ := Aside0.mk H
  clear H
  go_enter Try.func89, Try.ntmps89
  go_upto_region 1 with (first | ((with_reducible refine gate_dst (N := 2) rfl ?_); refine box_event ?hg (N := 2) ?hd (cs := #[.int .i64 a0_0, .slice A0_1 l0_1.length c0_1, .slice A0_2 l0_2.length c0_2, .bool a0_3]) (t := 67) ?hr ?_; (case hd => rfl); (case hg => rfl); (case hr => first | (go_simp; done) | (go_simp; rfl)); intro gb649 hg w3 hbox hb; have n0_ := Aside0.mk (below_step (pb_ HB.out) hb); have n1_ := Aside0.mk (hbox); have n2_ := Aside0.mk ((by rw [hg]; exact (below_size (pb_ HB.out)) : w.heap.size ≤ gb649)); have n3_ := Aside0.mk ((by rw [hg]; exact (below_size (pb_ HB.out)) : w.heap.size ≤ gb649)); clear HB; have HB := n0_; have BK649 := n1_; have GW649 := n2_; have GE649 := n3_; clear n0_ n1_ n2_ n3_; clear hb hbox hg) | ((with_reducible refine gate_dst (N := 3) rfl ?_); refine box_event ?hg (N := 3) ?hd (cs := #[.int .i64 a1_0, .slice A1_1 l1_1.length c1_1, .slice A1_2 l1_2.length c1_2, .bool a1_3]) (t := 67) ?hr ?_; (case hd => rfl); (case hg => rfl); (case hr => first | (go_simp; done) | (go_simp; rfl)); intro gb650 hg w4 hbox hb; have n0_ := Aside0.mk (bb_ BK649.out hb); have n1_ := Aside0.mk (below_step (pb1_ HB.out GE649.out) hb); have n2_ := Aside0.mk (hbox); have n3_ := Aside0.mk ((by rw [hg]; exact (below_size (pb1_ HB.out GE649.out)) : w.heap.size ≤ gb650)); have n4_ := Aside0.mk ((by rw [hg]; exact (below_size (pb1_ HB.out GE649.out)) : w.heap.size ≤ gb650)); have n5_ := Aside0.mk ((by rw [hg]; exact Nat.ne_of_lt (blk_lt (pk_ BK649.out)) : gb649 ≠ gb650)); have n6_ := Aside0.mk ((by rw [hg]; exact Nat.ne_of_gt (blk_lt (pk_ BK649.out)) : gb650 ≠ gb649)); clear BK649; clear HB; have BK649 := n0_; have HB := n1_; have BK650 := n2_; have GW650 := n3_; have GE650 := n4_; have NB649_650 := n5_; have NB650_649 := n6_; clear n0_ n1_ n2_ n3_ n4_ n5_ n6_; clear hb hbox hg))
  (try simp only [Act.put, List.setIfInBounds_toArray, List.set_cons_zero, List.set_cons_succ])
  have H := HS_.out
  clear HS_
  by_cases c5 : a0_0 = a1_0
  rotate_left
  · rw [if_neg c5] at H
    have c5b0 : (a0_0 == a1_0) = false := beq_eq_false_iff_ne.mpr c5
    have c5b1 : (a0_0 != a1_0) = true := bne_iff_ne.mpr c5
    (first | rw [c5b0] | (simp only [i64_w, i32_w]; rw [c5b0]) | rw [c5b1] | (have c_ := c5b1; rw [bne] at c_; rw [c_]; clear c_) | skip)
    obtain rfl := Option.some.inj H
    have hnb6 := NB649_650.out
    have hnc6 := NB650_649.out
    obtain ⟨hcz7_0, hcz7_1, hcz7_2, hcz7_3, hfz7_0, hfz7_1, hfz7_2, hfz7_3⟩ := bc4_ BK649.out
    obtain ⟨hcz8_0, hcz8_1, hcz8_2, hcz8_3, hfz8_0, hfz8_1, hfz8_2, hfz8_3⟩ := bc4_ BK650.out
    go_wp2
    go_ret
    exact ⟨er_, pb2_ HB.out GE649.out GE650.out⟩
  rw [if_pos c5] at H
  have c5b0 : (a0_0 == a1_0) = true := beq_iff_eq.mpr c5
  have c5b1 : (a0_0 != a1_0) = false := bne_eq_false_iff_eq.mpr c5
  clear c5
  (first | rw [c5b0] | (simp only [i64_w, i32_w]; rw [c5b0]) | rw [c5b1] | (have c_ := c5b1; rw [bne] at c_; rw [c_]; clear c_) | skip)
  replace H := Option.bind_eq_some_iff.mp H
  obtain ⟨t651, A90, H⟩ := H
  (try dsimp only at H)
  have A9 := Aside0.mk A90
  clear A90
  by_cases c10 : t651 = true
  rotate_left
  · replace c10 := Bool.eq_false_iff.mpr c10
    subst c10
    rw [if_neg (show ¬ (false = true) by decide)] at H
    obtain rfl := Option.some.inj H
    have hnb11 := NB649_650.out
    have hnc11 := NB650_649.out
    obtain ⟨hcz12_0, hcz12_1, hcz12_2, hcz12_3, hfz12_0, hfz12_1, hfz12_2, hfz12_3⟩ := bc4_ BK649.out
    obtain ⟨hcz13_0, hcz13_1, hcz13_2, hcz13_3, hfz13_0, hfz13_1, hfz13_2, hfz13_3⟩ := bc4_ BK650.out
    go_wp2_with (first | (go_at_call 81; (with_reducible refine (slices_Equal_int_int.calls k _ _ l0_1 _ _ l1_1 false _ ?side1 ?side2 ?side3 ?side4 A9.out).mono ?_); (case side1 => exact pc_ (Kd.C_below HR0_1.out HB.out)); (case side2 => exact HC0_1.out); (case side3 => exact pc_ (Kd.C_below HR1_1.out HB.out)); (case side4 => exact HC1_1.out); rintro e w' ⟨rfl, ⟨nd, rfl⟩⟩))
    go_ret
    exact ⟨er_, pb2_ HB.out GE649.out GE650.out⟩
  subst c10
  rw [if_pos rfl] at H
  replace H := Option.bind_eq_some_iff.mp H
  obtain ⟨t652, A140, H⟩ := H
  replace H : (if t652 = true then (some (a0_3 == a1_3)) else (some false)) = some r := H
  have A14 := Aside0.mk A140
  clear A140
  by_cases c15 : t652 = true
  rotate_left
  · replace c15 := Bool.eq_false_iff.mpr c15
    subst c15
    rw [if_neg (show ¬ (false = true) by decide)] at H
    obtain rfl := Option.some.inj H
    have hnb16 := NB649_650.out
    have hnc16 := NB650_649.out
    obtain ⟨hcz17_0, hcz17_1, hcz17_2, hcz17_3, hfz17_0, hfz17_1, hfz17_2, hfz17_3⟩ := bc4_ BK649.out
    obtain ⟨hcz18_0, hcz18_1, hcz18_2, hcz18_3, hfz18_0, hfz18_1, hfz18_2, hfz18_3⟩ := bc4_ BK650.out
    go_wp2_with (first | (go_at_call 81; (with_reducible refine (slices_Equal_int_int.calls k _ _ l0_1 _ _ l1_1 true _ ?side1 ?side2 ?side3 ?side4 A9.out).mono ?_); (case side1 => exact pc_ (Kd.C_below HR0_1.out HB.out)); (case side2 => exact HC0_1.out); (case side3 => exact pc_ (Kd.C_below HR1_1.out HB.out)); (case side4 => exact HC1_1.out); rintro e w' ⟨rfl, ⟨nd, rfl⟩⟩) | (go_at_call 81; (with_reducible refine (slices_Equal_int_int.calls k _ _ l0_2 _ _ l1_2 false _ ?side1 ?side2 ?side3 ?side4 A14.out).mono ?_); (case side1 => exact pc_ (Kd.C_below HR0_2.out (pb2_ HB.out GE649.out GE650.out))); (case side2 => exact HC0_2.out); (case side3 => exact pc_ (Kd.C_below HR1_2.out (pb2_ HB.out GE649.out GE650.out))); (case side4 => exact HC1_2.out); rintro e w' ⟨rfl, ⟨nd, rfl⟩⟩))
    go_ret
    exact ⟨er_, pb2_ HB.out GE649.out GE650.out⟩
  subst c15
  rw [if_pos rfl] at H
  obtain rfl := Option.some.inj H
  have hnb19 := NB649_650.out
  have hnc19 := NB650_649.out
  obtain ⟨hcz20_0, hcz20_1, hcz20_2, hcz20_3, hfz20_0, hfz20_1, hfz20_2, hfz20_3⟩ := bc4_ BK649.out
  obtain ⟨hcz21_0, hcz21_1, hcz21_2, hcz21_3, hfz21_0, hfz21_1, hfz21_2, hfz21_3⟩ := bc4_ BK650.out
  go_wp2_with (first | (go_at_call 81; (with_reducible refine (slices_Equal_int_int.calls k _ _ l0_1 _ _ l1_1 true _ ?side1 ?side2 ?side3 ?side4 A9.out).mono ?_); (case side1 => exact pc_ (Kd.C_below HR0_1.out HB.out)); (case side2 => exact HC0_1.out); (case side3 => exact pc_ (Kd.C_below HR1_1.out HB.out)); (case side4 => exact HC1_1.out); rintro e w' ⟨rfl, ⟨nd, rfl⟩⟩) | (go_at_call 81; (with_reducible refine (slices_Equal_int_int.calls k _ _ l0_2 _ _ l1_2 true _ ?side1 ?side2 ?side3 ?side4 A14.out).mono ?_); (case side1 => exact pc_ (Kd.C_below HR0_2.out (pb2_ HB.out GE649.out GE650.out))); (case side2 => exact HC0_2.out); (case side3 => exact pc_ (Kd.C_below HR1_2.out (pb2_ HB.out GE649.out GE650.out))); (case side4 => exact HC1_2.out); rintro e w' ⟨rfl, ⟨nd, rfl⟩⟩))
  go_ret
  exact ⟨er_, pb2_ HB.out GE649.out GE650.out⟩

end Go.Proofs.Ytdoefkloanpliaa.Print
