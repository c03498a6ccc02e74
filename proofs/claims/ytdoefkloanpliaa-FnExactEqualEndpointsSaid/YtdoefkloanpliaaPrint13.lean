-- Written by a program of this session (printx.py) out of the translation; Lean checks it.
import Derived.Test.YtdoefkloanpliaaPrint0
import Derived.Test.YtdoefkloanpliaaPrint3
import Derived.Test.YtdoefkloanpliaaPrint8
import Derived.Test.YtdoefkloanpliaaPrint12
namespace Go.Proofs.Ytdoefkloanpliaa.Print
open Go.RowKit Go.Proofs.YtdoefkloanpliaaW.PrintWords Go.Proofs.YtdoefkloanpliaaW.PrintLast Go.Proofs.YtdoefkloanpliaaW.PrintMore Go.Proofs.Ytdoefkloanpliaa.Short
attribute [local go_sem] max2_int min2_int max_two min_two max_three min_three max_four min_four   -- for this text's walks alone
set_option linter.unusedVariables false
set_option linter.unusedSimpArgs false

/-! ### slices_EqualFunc_impl_Box_impl_Box_impl_Box_impl_Box_with_impl_EqualBoxes: function 100003 -/
def slices_EqualFunc_impl_Box_impl_Box_impl_Box_impl_Box_with_impl_EqualBoxes.l0 : Nat → List (S67) → List (S67) → Int → Int → Option (Bool)
  | 0, _, _, _, _ => none
  | k + 1, x1, x15, x16, x17 => if x17 < x16 then (if 0 ≤ x17 then (if x17 < (x15.length : Int) then (if x17 < (x1.length : Int) then ((impl_EqualBoxes.f k ((rd_T67 x15 x17).f0) ((rd_T67 x15 x17).f1) ((rd_T67 x15 x17).f2) ((rd_T67 x15 x17).f3) ((rd_T67 x1 x17).f0) ((rd_T67 x1 x17).f1) ((rd_T67 x1 x17).f2) ((rd_T67 x1 x17).f3)).bind fun t657 => (if t657 = true then (slices_EqualFunc_impl_Box_impl_Box_impl_Box_impl_Box_with_impl_EqualBoxes.l0 k x1 x15 x16 (wrap64 (x17 + 1))) else (some false))) else (none)) else (none)) else (none)) else (some true)
def slices_EqualFunc_impl_Box_impl_Box_impl_Box_impl_Box_with_impl_EqualBoxes.f (k : Nat) (l0 : List (S67)) (l1 : List (S67)) : Option (Bool) := if (l0.length : Int) = (l1.length : Int) then (slices_EqualFunc_impl_Box_impl_Box_impl_Box_impl_Box_with_impl_EqualBoxes.l0 k l1 l0 (l0.length : Int) 0) else (some false)
theorem slices_EqualFunc_impl_Box_impl_Box_impl_Box_impl_Box_with_impl_EqualBoxes.mono_l : ∀ k, (∀ y0 y1 y2 y3, LeO (slices_EqualFunc_impl_Box_impl_Box_impl_Box_impl_Box_with_impl_EqualBoxes.l0 k y0 y1 y2 y3) (slices_EqualFunc_impl_Box_impl_Box_impl_Box_impl_Box_with_impl_EqualBoxes.l0 (k + 1) y0 y1 y2 y3))
  | 0 => fun _ _ _ _ r h => by simp [slices_EqualFunc_impl_Box_impl_Box_impl_Box_impl_Box_with_impl_EqualBoxes.l0] at h
  | k + 1 => by
    have ih0 := slices_EqualFunc_impl_Box_impl_Box_impl_Box_impl_Box_with_impl_EqualBoxes.mono_l k
    · intro y0 y1 y2 y3
      unfold slices_EqualFunc_impl_Box_impl_Box_impl_Box_impl_Box_with_impl_EqualBoxes.l0
      repeat' first
      | (with_reducible exact ih0 _ _ _ _)
      | (with_reducible exact impl_EqualBoxes.mono _ _ _ _ _ _ _ _ _)
      | (with_reducible exact LeO.refl _)
      | (with_reducible exact LeO.none _)
      | (with_reducible refine LeO.ite ?_ ?_)
      | (with_reducible refine LeO.bind ?_ (fun _ => ?_))
      | exact ih0 _ _ _ _
      | exact impl_EqualBoxes.mono _ _ _ _ _ _ _ _ _
      | exact LeO.none _
      | refine LeO.ite ?_ ?_
      | refine LeO.bind ?_ (fun _ => ?_)
theorem slices_EqualFunc_impl_Box_impl_Box_impl_Box_impl_Box_with_impl_EqualBoxes.mono : ∀ a0 a1 k, LeO (slices_EqualFunc_impl_Box_impl_Box_impl_Box_impl_Box_with_impl_EqualBoxes.f k a0 a1) (slices_EqualFunc_impl_Box_impl_Box_impl_Box_impl_Box_with_impl_EqualBoxes.f (k + 1) a0 a1) := by
  intro a0 a1 k
  have ih0 := slices_EqualFunc_impl_Box_impl_Box_impl_Box_impl_Box_with_impl_EqualBoxes.mono_l k
  unfold slices_EqualFunc_impl_Box_impl_Box_impl_Box_impl_Box_with_impl_EqualBoxes.f
  repeat' first
      | (with_reducible exact ih0 _ _ _ _)
      | (with_reducible exact impl_EqualBoxes.mono _ _ _ _ _ _ _ _ _)
      | (with_reducible exact LeO.refl _)
      | (with_reducible exact LeO.none _)
      | (with_reducible refine LeO.ite ?_ ?_)
      | (with_reducible refine LeO.bind ?_ (fun _ => ?_))
      | exact ih0 _ _ _ _
      | exact impl_EqualBoxes.mono _ _ _ _ _ _ _ _ _
      | exact LeO.none _
      | refine LeO.ite ?_ ?_
      | refine LeO.bind ?_ (fun _ => ?_)
set_option maxHeartbeats 8000000 in
set_option maxRecDepth 100000 in
theorem slices_EqualFunc_impl_Box_impl_Box_impl_Box_impl_Box_with_impl_EqualBoxes.calls (k : Nat) (A0 : Option Addr) (c0 : Nat) (l0 : List (S67)) (A1 : Option Addr) (c1 : Nat) (l1 : List (S67)) (r : Bool) (w : World) (hr0 : Kd.C k67 w A0 l0.length l0) (hc0 : l0.length ≤ c0) (hr1 : Kd.C k67 w A1 l1.length l1) (hc1 : l1.length ≤ c1) (h : slices_EqualFunc_impl_Box_impl_Box_impl_Box_impl_Box_with_impl_EqualBoxes.f k l0 l1 = some r) :
    Calls Try.prog 88 #[.slice A0 l0.length c0, .slice A1 l1.length c1, .func (.func 89) #[] #[]] w fun e w' => e = .returned (.bool r) ∧ Below w.heap.size w w' := by
  have hu67 := Try.underlying67
  have HR0 := Aside0.mk hr0
  have HC0 := Aside0.mk hc0
  clear hr0 hc0
  have HR1 := Aside0.mk hr1
  have HC1 := Aside0.mk hc1
  clear hr1 hc1
  have HB := Aside0.mk (Below.refl w.heap.size w)
  have H : (if (l0.length : Int) = (l1.length : Int) then (slices_EqualFunc_impl_Box_impl_Box_impl_Box_impl_Box_with_impl_EqualBoxes.l0 k l1 l0 (l0.length : Int) 0) else (some false)) = some r := h
  clear h
  by_cases c3 : (l0.length : Int) = (l1.length : Int)
  rotate_left
  · rw [if_neg c3] at H
    have c3b0 : ((l0.length : Int) == (l1.length : Int)) = false := beq_eq_false_iff_ne.mpr c3
    have c3b1 : ((l0.length : Int) != (l1.length : Int)) = true := bne_iff_ne.mpr c3
    have c3b2 : (l0.length == l1.length) = false := by first | simpa using c3 | (simp at c3 ⊢; omega)
    obtain rfl := Option.some.inj H
    go_enter Try.func88, Try.ntmps88
    go_wp2
    go_ret
    exact ⟨er_, pb_ HB.out⟩
  rw [if_pos c3] at H
  have c3b0 : ((l0.length : Int) == (l1.length : Int)) = true := beq_iff_eq.mpr c3
  have c3b1 : ((l0.length : Int) != (l1.length : Int)) = false := bne_eq_false_iff_eq.mpr c3
  have c3b2 : (l0.length == l1.length) = true := by first | simpa using c3 | (simp at c3 ⊢; omega)
  clear c3
  have H' := Aside0.mk H
  clear H
  go_enter Try.func88, Try.ntmps88
  go_wp2
  go_loopg [17] k (fun kq v17 w' => ∃ (x17_1 : Int), v17 = .int .i64 x17_1 ∧ Aside0 (slices_EqualFunc_impl_Box_impl_Box_impl_Box_impl_Box_with_impl_EqualBoxes.l0 kq l1 l0 (l0.length : Int) x17_1 = some r) ∧ Aside0 (kq ≤ k) ∧ Aside0 (Below w.heap.size w w'))
  case atStart => exact ⟨(0), el_, H', ⟨Nat.le_refl _⟩, ⟨pb_ HB.out⟩⟩
  clear H'
  try clear c1
  try clear p2
  try clear c3
  try clear c3b0
  try clear c3b1
  try clear c3b2
  obtain ⟨x17_1, rfl, HA, HK1, HB⟩ := hrel
  rcases gk with _ | k1
  · exact absurd HA.out (by simp [slices_EqualFunc_impl_Box_impl_Box_impl_Box_impl_Box_with_impl_EqualBoxes.l0])
  have H := HA.out
  clear HA
  simp only [slices_EqualFunc_impl_Box_impl_Box_impl_Box_impl_Box_with_impl_EqualBoxes.l0] at H
  by_cases c4 : x17_1 < (l0.length : Int)
  rotate_left
  · rw [if_neg c4] at H
    have c4b0 : decide (x17_1 < (l0.length : Int)) = false := decide_eq_false c4
    clear c4
    obtain rfl := Option.some.inj H
    go_wp2
    go_ret
    exact ⟨er_, pb_ HB.out⟩
  rw [if_pos c4] at H
  have c4b0 : decide (x17_1 < (l0.length : Int)) = true := decide_eq_true c4
  clear c4
  by_cases c5 : 0 ≤ x17_1
  rotate_left
  · rw [if_neg c5] at H
    exact absurd H (by simp)
  rw [if_pos c5] at H
  have c5b0 : decide (0 ≤ x17_1) = true := decide_eq_true c5
  clear c5
  by_cases c6 : x17_1 < (l0.length : Int)
  rotate_left
  · rw [if_neg c6] at H
    exact absurd H (by simp)
  rw [if_pos c6] at H
  have c6b0 : decide (x17_1 < (l0.length : Int)) = true := decide_eq_true c6
  clear c6
  have HS_ := Aside0.mk H
  clear H
  have p653 : 0 ≤ (x17_1 : Int) := dt_
  have q653 : x17_1 < (l0.length : Int) := dt_
  obtain ⟨ad653, A653_1, c653_1, A653_2, c653_2, e653, hx653_0, hx653_1, hx653_2, hx653_3, hl653_1, hi653_1, hl653_2, hi653_2⟩ := at_T67 HR0.out x17_1 p653 q653
  cases e653
  replace hx653_0 := (HB.out.cell (World.block_lt_of_cell? w _ hx653_0)).trans hx653_0
  replace hx653_1 := (HB.out.cell (World.block_lt_of_cell? w _ hx653_1)).trans hx653_1
  replace hx653_2 := (HB.out.cell (World.block_lt_of_cell? w _ hx653_2)).trans hx653_2
  replace hx653_3 := (HB.out.cell (World.block_lt_of_cell? w _ hx653_3)).trans hx653_3
  have HR653_1 := Aside0.mk hi653_1
  have HC653_1 := Aside0.mk hl653_1
  clear hi653_1 hl653_1
  have HR653_2 := Aside0.mk hi653_2
  have HC653_2 := Aside0.mk hl653_2
  clear hi653_2 hl653_2
  replace p653 := eq_true p653
  replace q653 := eq_true q653
  go_upto_region 6 with (first | ((with_reducible refine gate_dst (N := 8) rfl ?_); refine box_event ?hg (N := 8) ?hd (cs := #[.int .i64 0, .slice none 0 0, .slice none 0 0, .bool false]) (t := 67) ?hr ?_; (case hd => rfl); (case hg => rfl); (case hr => first | (go_simp; done) | (go_simp; rfl)); intro gb654 hg w7 hbox hb; have n0_ := Aside0.mk (below_step (pb_ HB.out) hb); have n1_ := Aside0.mk (hbox); have n2_ := Aside0.mk ((by rw [hg]; exact (below_size (pb_ HB.out)) : w.heap.size ≤ gb654)); have n3_ := Aside0.mk ((by rw [hg]; exact (below_size (pb_ HB.out)) : w.heap.size ≤ gb654)); clear HB; have HB := n0_; have BK654 := n1_; have GW654 := n2_; have GE654 := n3_; clear n0_ n1_ n2_ n3_; clear hb hbox hg; have hcz8_0 : w7.cell? ⟨gb654, 0, none⟩ = some (.int .i64 0) := (blk_cell BK654.out 0).trans rfl; have hcz8_1 : w7.cell? ⟨gb654, 1, none⟩ = some (.slice none 0 0) := (blk_cell BK654.out 1).trans rfl; have hcz8_2 : w7.cell? ⟨gb654, 2, none⟩ = some (.slice none 0 0) := (blk_cell BK654.out 2).trans rfl; have hcz8_3 : w7.cell? ⟨gb654, 3, none⟩ = some (.bool false) := (blk_cell BK654.out 3).trans rfl; have hfz8_0 := blk_frozen BK654.out 0; have hfz8_1 := blk_frozen BK654.out 1; have hfz8_2 := blk_frozen BK654.out 2; have hfz8_3 := blk_frozen BK654.out 3))
  (try simp only [Act.put, List.setIfInBounds_toArray, List.set_cons_zero, List.set_cons_succ])
  have H := HS_.out
  clear HS_
  by_cases c9 : x17_1 < (l1.length : Int)
  rotate_left
  · rw [if_neg c9] at H
    exact absurd H (by simp)
  rw [if_pos c9] at H
  have c9b0 : decide (x17_1 < (l1.length : Int)) = true := decide_eq_true c9
  clear c9
  (first | rw [c9b0] | (simp only [i64_w, i32_w]; rw [c9b0]) | skip)
  have HS_ := Aside0.mk H
  clear H
  have p655 : 0 ≤ (x17_1 : Int) := dt_
  have q655 : x17_1 < (l1.length : Int) := dt_
  obtain ⟨ad655, A655_1, c655_1, A655_2, c655_2, e655, hx655_0, hx655_1, hx655_2, hx655_3, hl655_1, hi655_1, hl655_2, hi655_2⟩ := at_T67 HR1.out x17_1 p655 q655
  cases e655
  have hn655_0 : ad655.block ≠ gb654 := Nat.ne_of_lt (Nat.lt_of_lt_of_le (by have := World.block_lt_of_cell? _ _ hx655_0; first | rwa [add_block] at this | exact this) GW654.out)
  have hn655_1 : ad655.block ≠ gb654 := Nat.ne_of_lt (Nat.lt_of_lt_of_le (by have := World.block_lt_of_cell? _ _ hx655_0; first | rwa [add_block] at this | exact this) GW654.out)
  have hn655_2 : ad655.block ≠ gb654 := Nat.ne_of_lt (Nat.lt_of_lt_of_le (by have := World.block_lt_of_cell? _ _ hx655_0; first | rwa [add_block] at this | exact this) GW654.out)
  have hn655_3 : ad655.block ≠ gb654 := Nat.ne_of_lt (Nat.lt_of_lt_of_le (by have := World.block_lt_of_cell? _ _ hx655_0; first | rwa [add_block] at this | exact this) GW654.out)
  replace hx655_0 := (HB.out.cell (World.block_lt_of_cell? w _ hx655_0)).trans hx655_0
  replace hx655_1 := (HB.out.cell (World.block_lt_of_cell? w _ hx655_1)).trans hx655_1
  replace hx655_2 := (HB.out.cell (World.block_lt_of_cell? w _ hx655_2)).trans hx655_2
  replace hx655_3 := (HB.out.cell (World.block_lt_of_cell? w _ hx655_3)).trans hx655_3
  have HR655_1 := Aside0.mk hi655_1
  have HC655_1 := Aside0.mk hl655_1
  clear hi655_1 hl655_1
  have HR655_2 := Aside0.mk hi655_2
  have HC655_2 := Aside0.mk hl655_2
  clear hi655_2 hl655_2
  replace hx655_0 := (cell_far (p := ⟨gb654, 0, none⟩) (by first | (rw [add_block]; exact hn655_0) | (show (Addr.add _ _).block ≠ _; rw [add_block]; exact hn655_0) | exact hn655_0) (.int .i64 ((rd_T67 l0 x17_1).f0))).trans hx655_0
  replace hx655_1 := (cell_far (p := ⟨gb654, 0, none⟩) (by first | (rw [add_block]; exact hn655_0) | (show (Addr.add _ _).block ≠ _; rw [add_block]; exact hn655_0) | exact hn655_0) (.int .i64 ((rd_T67 l0 x17_1).f0))).trans hx655_1
  replace hx655_2 := (cell_far (p := ⟨gb654, 0, none⟩) (by first | (rw [add_block]; exact hn655_0) | (show (Addr.add _ _).block ≠ _; rw [add_block]; exact hn655_0) | exact hn655_0) (.int .i64 ((rd_T67 l0 x17_1).f0))).trans hx655_2
  replace hx655_3 := (cell_far (p := ⟨gb654, 0, none⟩) (by first | (rw [add_block]; exact hn655_0) | (show (Addr.add _ _).block ≠ _; rw [add_block]; exact hn655_0) | exact hn655_0) (.int .i64 ((rd_T67 l0 x17_1).f0))).trans hx655_3
  replace hx655_0 := (cell_far (p := ⟨gb654, 1, none⟩) (by first | (rw [add_block]; exact hn655_1) | (show (Addr.add _ _).block ≠ _; rw [add_block]; exact hn655_1) | exact hn655_1) (.slice A653_1 ((rd_T67 l0 x17_1).f1).length c653_1)).trans hx655_0
  replace hx655_1 := (cell_far (p := ⟨gb654, 1, none⟩) (by first | (rw [add_block]; exact hn655_1) | (show (Addr.add _ _).block ≠ _; rw [add_block]; exact hn655_1) | exact hn655_1) (.slice A653_1 ((rd_T67 l0 x17_1).f1).length c653_1)).trans hx655_1
  replace hx655_2 := (cell_far (p := ⟨gb654, 1, none⟩) (by first | (rw [add_block]; exact hn655_1) | (show (Addr.add _ _).block ≠ _; rw [add_block]; exact hn655_1) | exact hn655_1) (.slice A653_1 ((rd_T67 l0 x17_1).f1).length c653_1)).trans hx655_2
  replace hx655_3 := (cell_far (p := ⟨gb654, 1, none⟩) (by first | (rw [add_block]; exact hn655_1) | (show (Addr.add _ _).block ≠ _; rw [add_block]; exact hn655_1) | exact hn655_1) (.slice A653_1 ((rd_T67 l0 x17_1).f1).length c653_1)).trans hx655_3
  replace hx655_0 := (cell_far (p := ⟨gb654, 2, none⟩) (by first | (rw [add_block]; exact hn655_2) | (show (Addr.add _ _).block ≠ _; rw [add_block]; exact hn655_2) | exact hn655_2) (.slice A653_2 ((rd_T67 l0 x17_1).f2).length c653_2)).trans hx655_0
  replace hx655_1 := (cell_far (p := ⟨gb654, 2, none⟩) (by first | (rw [add_block]; exact hn655_2) | (show (Addr.add _ _).block ≠ _; rw [add_block]; exact hn655_2) | exact hn655_2) (.slice A653_2 ((rd_T67 l0 x17_1).f2).length c653_2)).trans hx655_1
  replace hx655_2 := (cell_far (p := ⟨gb654, 2, none⟩) (by first | (rw [add_block]; exact hn655_2) | (show (Addr.add _ _).block ≠ _; rw [add_block]; exact hn655_2) | exact hn655_2) (.slice A653_2 ((rd_T67 l0 x17_1).f2).length c653_2)).trans hx655_2
  replace hx655_3 := (cell_far (p := ⟨gb654, 2, none⟩) (by first | (rw [add_block]; exact hn655_2) | (show (Addr.add _ _).block ≠ _; rw [add_block]; exact hn655_2) | exact hn655_2) (.slice A653_2 ((rd_T67 l0 x17_1).f2).length c653_2)).trans hx655_3
  replace hx655_0 := (cell_far (p := ⟨gb654, 3, none⟩) (by first | (rw [add_block]; exact hn655_3) | (show (Addr.add _ _).block ≠ _; rw [add_block]; exact hn655_3) | exact hn655_3) (.bool ((rd_T67 l0 x17_1).f3))).trans hx655_0
  replace hx655_1 := (cell_far (p := ⟨gb654, 3, none⟩) (by first | (rw [add_block]; exact hn655_3) | (show (Addr.add _ _).block ≠ _; rw [add_block]; exact hn655_3) | exact hn655_3) (.bool ((rd_T67 l0 x17_1).f3))).trans hx655_1
  replace hx655_2 := (cell_far (p := ⟨gb654, 3, none⟩) (by first | (rw [add_block]; exact hn655_3) | (show (Addr.add _ _).block ≠ _; rw [add_block]; exact hn655_3) | exact hn655_3) (.bool ((rd_T67 l0 x17_1).f3))).trans hx655_2
  replace hx655_3 := (cell_far (p := ⟨gb654, 3, none⟩) (by first | (rw [add_block]; exact hn655_3) | (show (Addr.add _ _).block ≠ _; rw [add_block]; exact hn655_3) | exact hn655_3) (.bool ((rd_T67 l0 x17_1).f3))).trans hx655_3
  clear hn655_0
  clear hn655_1
  clear hn655_2
  clear hn655_3
  replace p655 := eq_true p655
  replace q655 := eq_true q655
  go_upto_region 7 with (first | ((with_reducible refine gate_dst (N := 9) rfl ?_); refine box_event ?hg (N := 9) ?hd (cs := #[.int .i64 0, .slice none 0 0, .slice none 0 0, .bool false]) (t := 67) ?hr ?_; (case hd => rfl); (case hg => rfl); (case hr => first | (go_simp; done) | (go_simp; rfl)); intro gb656 hg w10 hbox hb; have n0_ := Aside0.mk (blk_below (g := gb654) (o := .cells #[.int .i64 ((rd_T67 l0 x17_1).f0), .slice A653_1 ((rd_T67 l0 x17_1).f1).length c653_1, .slice A653_2 ((rd_T67 l0 x17_1).f2).length c653_2, .bool ((rd_T67 l0 x17_1).f3)] 67 (0, 0)) (pp_ BK654.out) hb); have n1_ := Aside0.mk (below_step (pb1_ HB.out GE654.out) hb); have n2_ := Aside0.mk (hbox); have n3_ := Aside0.mk ((by rw [hg]; exact (below_size (pb1_ HB.out GE654.out)) : w.heap.size ≤ gb656)); have n4_ := Aside0.mk ((by rw [hg]; exact (below_size (pb1_ HB.out GE654.out)) : w.heap.size ≤ gb656)); have n5_ := Aside0.mk ((by rw [hg]; exact Nat.ne_of_lt (blk_lt (g := gb654) (o := .cells #[.int .i64 ((rd_T67 l0 x17_1).f0), .slice A653_1 ((rd_T67 l0 x17_1).f1).length c653_1, .slice A653_2 ((rd_T67 l0 x17_1).f2).length c653_2, .bool ((rd_T67 l0 x17_1).f3)] 67 (0, 0)) (pp_ BK654.out)) : gb654 ≠ gb656)); have n6_ := Aside0.mk ((by rw [hg]; exact Nat.ne_of_gt (blk_lt (g := gb654) (o := .cells #[.int .i64 ((rd_T67 l0 x17_1).f0), .slice A653_1 ((rd_T67 l0 x17_1).f1).length c653_1, .slice A653_2 ((rd_T67 l0 x17_1).f2).length c653_2, .bool ((rd_T67 l0 x17_1).f3)] 67 (0, 0)) (pp_ BK654.out)) : gb656 ≠ gb654)); clear BK654; clear HB; have BK654 := n0_; have HB := n1_; have BK656 := n2_; have GW656 := n3_; have GE656 := n4_; have NB654_656 := n5_; have NB656_654 := n6_; clear n0_ n1_ n2_ n3_ n4_ n5_ n6_; clear hb hbox hg; have hnb11 := NB656_654.out; have hnc11 := NB654_656.out; have hcz12_0 : w10.cell? ⟨gb656, 0, none⟩ = some (.int .i64 0) := (blk_cell BK656.out 0).trans rfl; have hcz12_1 : w10.cell? ⟨gb656, 1, none⟩ = some (.slice none 0 0) := (blk_cell BK656.out 1).trans rfl; have hcz12_2 : w10.cell? ⟨gb656, 2, none⟩ = some (.slice none 0 0) := (blk_cell BK656.out 2).trans rfl; have hcz12_3 : w10.cell? ⟨gb656, 3, none⟩ = some (.bool false) := (blk_cell BK656.out 3).trans rfl; have hfz12_0 := blk_frozen BK656.out 0; have hfz12_1 := blk_frozen BK656.out 1; have hfz12_2 := blk_frozen BK656.out 2; have hfz12_3 := blk_frozen BK656.out 3))
  (try simp only [Act.put, List.setIfInBounds_toArray, List.set_cons_zero, List.set_cons_succ])
  have H := HS_.out
  clear HS_
  replace H := Option.bind_eq_some_iff.mp H
  obtain ⟨t657, A130, H⟩ := H
  (try dsimp only at H)
  have A13 := Aside0.mk A130
  clear A130
  have HS_ := Aside0.mk H
  clear H
  have hnb14 := NB654_656.out
  have hnc14 := NB656_654.out
  obtain ⟨hcz15_0, hcz15_1, hcz15_2, hcz15_3, hfz15_0, hfz15_1, hfz15_2, hfz15_3⟩ := bc4_ BK654.out
  obtain ⟨hcz16_0, hcz16_1, hcz16_2, hcz16_3, hfz16_0, hfz16_1, hfz16_2, hfz16_3⟩ := bc4_ BK656.out
  go_upto_if 30 with (first | (go_at_call 89; (with_reducible refine (impl_EqualBoxes.calls k1 ((rd_T67 l0 x17_1).f0) _ _ ((rd_T67 l0 x17_1).f1) _ _ ((rd_T67 l0 x17_1).f2) ((rd_T67 l0 x17_1).f3) ((rd_T67 l1 x17_1).f0) _ _ ((rd_T67 l1 x17_1).f1) _ _ ((rd_T67 l1 x17_1).f2) ((rd_T67 l1 x17_1).f3) t657 _ ?side1 ?side2 ?side3 ?side4 ?side5 ?side6 ?side7 ?side8 A13.out).mono ?_); (case side1 => exact Kd.C_below HR653_1.out (pb2_ HB.out GE654.out GE656.out)); (case side2 => exact HC653_1.out); (case side3 => exact Kd.C_below HR653_2.out (pb2_ HB.out GE654.out GE656.out)); (case side4 => exact HC653_2.out); (case side5 => exact Kd.C_below HR655_1.out (pb2_ HB.out GE654.out GE656.out)); (case side6 => exact HC655_1.out); (case side7 => exact Kd.C_below HR655_2.out (pb2_ HB.out GE654.out GE656.out)); (case side8 => exact HC655_2.out); rintro e w17 ⟨rfl, hb⟩; have n0_ := Aside0.mk (blk_below (g := gb654) (o := .cells #[.int .i64 ((rd_T67 l0 x17_1).f0), .slice A653_1 ((rd_T67 l0 x17_1).f1).length c653_1, .slice A653_2 ((rd_T67 l0 x17_1).f2).length c653_2, .bool ((rd_T67 l0 x17_1).f3)] 67 (0, 0)) (pp_ BK654.out) hb); have n1_ := Aside0.mk (blk_below (g := gb656) (o := .cells #[.int .i64 ((rd_T67 l1 x17_1).f0), .slice A655_1 ((rd_T67 l1 x17_1).f1).length c655_1, .slice A655_2 ((rd_T67 l1 x17_1).f2).length c655_2, .bool ((rd_T67 l1 x17_1).f3)] 67 (0, 0)) (pp_ BK656.out) hb); have n2_ := Aside0.mk (below_step (pb2_ HB.out GE654.out GE656.out) hb); clear BK654; clear BK656; clear HB; have BK654 := n0_; have BK656 := n1_; have HB := n2_; clear n0_ n1_ n2_; (try clear hb); (try clear hb2); (try clear hk); (try clear hi)))
  (try simp only [Act.put, List.setIfInBounds_toArray, List.set_cons_zero, List.set_cons_succ])
  have H := HS_.out
  clear HS_
  by_cases c18 : t657 = true
  rotate_left
  · replace c18 := Bool.eq_false_iff.mpr c18
    subst c18
    rw [if_neg (show ¬ (false = true) by decide)] at H
    obtain rfl := Option.some.inj H
    go_wp2
    go_ret
    exact ⟨er_, pb2_ HB.out GE654.out GE656.out⟩
  subst c18
  rw [if_pos rfl] at H
  have H' := Aside0.mk H
  clear H
  go_wp2
  go_roundg k1
  case measure => have := HK1.out; omega
  case rel => exact ⟨(wrap64 (x17_1 + 1)), el_, H', ⟨by have := HK1.out; omega⟩, ⟨pb2_ HB.out GE654.out GE656.out⟩⟩

/-! ### impl_EqualEndpoints: function 46 -/
def impl_EqualEndpoints.f (k : Nat) (l0_0 : List Int) (l0_1 : List Int) (l0_2 : List (S67)) (a0_3 : Int) (l1_0 : List Int) (l1_1 : List Int) (l1_2 : List (S67)) (a1_3 : Int) : Option (Bool) := (slices_Equal_int_int.f k l0_0 l1_0).bind fun t660 => (if t660 = true then ((slices_Equal_int_int.f k l0_1 l1_1).bind fun t661 => (if t661 = true then ((slices_EqualFunc_impl_Box_impl_Box_impl_Box_impl_Box_with_impl_EqualBoxes.f k l0_2 l1_2).bind fun t662 => (if t662 = true then (some (a0_3 == a1_3)) else (some false))) else (some false))) else (some false))
theorem impl_EqualEndpoints.mono : ∀ a0 a1 a2 a3 a4 a5 a6 a7 k, LeO (impl_EqualEndpoints.f k a0 a1 a2 a3 a4 a5 a6 a7) (impl_EqualEndpoints.f (k + 1) a0 a1 a2 a3 a4 a5 a6 a7) := by
  intro a0 a1 a2 a3 a4 a5 a6 a7 k
  unfold impl_EqualEndpoints.f
  repeat' first
      | (with_reducible exact slices_EqualFunc_impl_Box_impl_Box_impl_Box_impl_Box_with_impl_EqualBoxes.mono _ _ _)
      | (with_reducible exact slices_Equal_int_int.mono _ _ _)
      | (with_reducible exact LeO.refl _)
      | (with_reducible exact LeO.none _)
      | (with_reducible refine LeO.ite ?_ ?_)
      | (with_reducible refine LeO.bind ?_ (fun _ => ?_))
      | exact slices_EqualFunc_impl_Box_impl_Box_impl_Box_impl_Box_with_impl_EqualBoxes.mono _ _ _
      | exact slices_Equal_int_int.mono _ _ _
      | exact LeO.none _
      | refine LeO.ite ?_ ?_
      | refine LeO.bind ?_ (fun _ => ?_)
set_option maxHeartbeats 8000000 in
set_option maxRecDepth 100000 in
theorem impl_EqualEndpoints.calls (k : Nat) (A0_0 : Option Addr) (c0_0 : Nat) (l0_0 : List Int) (A0_1 : Option Addr) (c0_1 : Nat) (l0_1 : List Int) (A0_2 : Option Addr) (c0_2 : Nat) (l0_2 : List (S67)) (a0_3 : Int) (A1_0 : Option Addr) (c1_0 : Nat) (l1_0 : List Int) (A1_1 : Option Addr) (c1_1 : Nat) (l1_1 : List Int) (A1_2 : Option Addr) (c1_2 : Nat) (l1_2 : List (S67)) (a1_3 : Int) (r : Bool) (w : World) (hr0_0 : Kd.C (Kd.int .i64) w A0_0 l0_0.length l0_0) (hc0_0 : l0_0.length ≤ c0_0) (hr0_1 : Kd.C (Kd.int .i64) w A0_1 l0_1.length l0_1) (hc0_1 : l0_1.length ≤ c0_1) (hr0_2 : Kd.C k67 w A0_2 l0_2.length l0_2) (hc0_2 : l0_2.length ≤ c0_2) (hr1_0 : Kd.C (Kd.int .i64) w A1_0 l1_0.length l1_0) (hc1_0 : l1_0.length ≤ c1_0) (hr1_1 : Kd.C (Kd.int .i64) w A1_1 l1_1.length l1_1) (hc1_1 : l1_1.length ≤ c1_1) (hr1_2 : Kd.C k67 w A1_2 l1_2.length l1_2) (hc1_2 : l1_2.length ≤ c1_2) (h : impl_EqualEndpoints.f k l0_0 l0_1 l0_2 a0_3 l1_0 l1_1 l1_2 a1_3 = some r) :
    Calls Try.prog 46 #[.agg #[.slice A0_0 l0_0.length c0_0, .slice A0_1 l0_1.length c0_1, .slice A0_2 l0_2.length c0_2, .int .i64 a0_3], .agg #[.slice A1_0 l1_0.length c1_0, .slice A1_1 l1_1.length c1_1, .slice A1_2 l1_2.length c1_2, .int .i64 a1_3]] w fun e w' => e = .returned (.bool r) ∧ Below w.heap.size w w' := by
  have hu58 := Try.underlying58
  have HR0_0 := Aside0.mk hr0_0
  have HC0_0 := Aside0.mk hc0_0
  clear hr0_0 hc0_0
  have HR0_1 := Aside0.mk hr0_1
  have HC0_1 := Aside0.mk hc0_1
  clear hr0_1 hc0_1
  have HR0_2 := Aside0.mk hr0_2
  have HC0_2 := Aside0.mk hc0_2
  clear hr0_2 hc0_2
  have HR1_0 := Aside0.mk hr1_0
  have HC1_0 := Aside0.mk hc1_0
  clear hr1_0 hc1_0
  have HR1_1 := Aside0.mk hr1_1
  have HC1_1 := Aside0.mk hc1_1
  clear hr1_1 hc1_1
  have HR1_2 := Aside0.mk hr1_2
  have HC1_2 := Aside0.mk hc1_2
  clear hr1_2 hc1_2
  have HB := Aside0.mk (Below.refl w.heap.size w)
  have H : ((slices_Equal_int_int.f k l0_0 l1_0).bind fun t660 => (if t660 = true then ((slices_Equal_int_int.f k l0_1 l1_1).bind fun t661 => (if t661 = true then ((slices_EqualFunc_impl_Box_impl_Box_impl_Box_impl_Box_with_impl_EqualBoxes.f k l0_2 l1_2).bind fun t662 => (if t662 = true then (some (a0_3 == a1_3)) else (some false))) else (some false))) else (some false))) = some r := h
  clear h
  have HS_ := Aside0.mk H
  clear H
  go_enter Try.func46, Try.ntmps46
  go_upto_region 1 with (first | ((with_reducible refine gate_dst (N := 2) rfl ?_); refine box_event ?hg (N := 2) ?hd (cs := #[.slice A0_0 l0_0.length c0_0, .slice A0_1 l0_1.length c0_1, .slice A0_2 l0_2.length c0_2, .int .i64 a0_3]) (t := 58) ?hr ?_; (case hd => rfl); (case hg => rfl); (case hr => first | (go_simp; done) | (go_simp; rfl)); intro gb658 hg w3 hbox hb; have n0_ := Aside0.mk (below_step (pb_ HB.out) hb); have n1_ := Aside0.mk (hbox); have n2_ := Aside0.mk ((by rw [hg]; exact (below_size (pb_ HB.out)) : w.heap.size ≤ gb658)); have n3_ := Aside0.mk ((by rw [hg]; exact (below_size (pb_ HB.out)) : w.heap.size ≤ gb658)); clear HB; have HB := n0_; have BK658 := n1_; have GW658 := n2_; have GE658 := n3_; clear n0_ n1_ n2_ n3_; clear hb hbox hg) | ((with_reducible refine gate_dst (N := 3) rfl ?_); refine box_event ?hg (N := 3) ?hd (cs := #[.slice A1_0 l1_0.length c1_0, .slice A1_1 l1_1.length c1_1, .slice A1_2 l1_2.length c1_2, .int .i64 a1_3]) (t := 58) ?hr ?_; (case hd => rfl); (case hg => rfl); (case hr => first | (go_simp; done) | (go_simp; rfl)); intro gb659 hg w4 hbox hb; have n0_ := Aside0.mk (bb_ BK658.out hb); have n1_ := Aside0.mk (below_step (pb1_ HB.out GE658.out) hb); have n2_ := Aside0.mk (hbox); have n3_ := Aside0.mk ((by rw [hg]; exact (below_size (pb1_ HB.out GE658.out)) : w.heap.size ≤ gb659)); have n4_ := Aside0.mk ((by rw [hg]; exact (below_size (pb1_ HB.out GE658.out)) : w.heap.size ≤ gb659)); have n5_ := Aside0.mk ((by rw [hg]; exact Nat.ne_of_lt (blk_lt (pk_ BK658.out)) : gb658 ≠ gb659)); have n6_ := Aside0.mk ((by rw [hg]; exact Nat.ne_of_gt (blk_lt (pk_ BK658.out)) : gb659 ≠ gb658)); clear BK658; clear HB; have BK658 := n0_; have HB := n1_; have BK659 := n2_; have GW659 := n3_; have GE659 := n4_; have NB658_659 := n5_; have NB659_658 := n6_; clear n0_ n1_ n2_ n3_ n4_ n5_ n6_; clear hb hbox hg))
  (try simp only [Act.put, List.setIfInBounds_toArray, List.set_cons_zero, List.set_cons_succ])
  have H := HS_.out
  clear HS_
  replace H := Option.bind_eq_some_iff.mp H
  obtain ⟨t660, A50, H⟩ := H
  (try dsimp only at H)
  have A5 := Aside0.mk A50
  clear A50
  by_cases c6 : t660 = true
  rotate_left
  · replace c6 := Bool.eq_false_iff.mpr c6
    subst c6
    rw [if_neg (show ¬ (false = true) by decide)] at H
    obtain rfl := Option.some.inj H
    have hnb7 := NB658_659.out
    have hnc7 := NB659_658.out
    obtain ⟨hcz8_0, hcz8_1, hcz8_2, hcz8_3, hfz8_0, hfz8_1, hfz8_2, hfz8_3⟩ := bc4_ BK658.out
    obtain ⟨hcz9_0, hcz9_1, hcz9_2, hcz9_3, hfz9_0, hfz9_1, hfz9_2, hfz9_3⟩ := bc4_ BK659.out
    go_wp2_with (first | ((with_reducible refine gate_callee (f := 81) rfl ?_); refine goesL_ (some 9) rfl rfl Try.func81 (by kernel_rfl) rfl #[.slice A0_0 l0_0.length c0_0, .slice A1_0 l1_0.length c1_0] rfl mp_ ?_; (with_reducible refine (slices_Equal_int_int.calls k _ _ l0_0 _ _ l1_0 false _ ?side1 ?side2 ?side3 ?side4 A5.out).mono ?_); (case side1 => exact pc_ (Kd.C_below HR0_0.out HB.out)); (case side2 => exact HC0_0.out); (case side3 => exact pc_ (Kd.C_below HR1_0.out HB.out)); (case side4 => exact HC1_0.out); rintro e w' ⟨rfl, ⟨nd, rfl⟩⟩; refine ⟨_, rfl, ?_⟩))
    go_ret
    exact ⟨er_, pb2_ HB.out GE658.out GE659.out⟩
  subst c6
  rw [if_pos rfl] at H
  replace H := Option.bind_eq_some_iff.mp H
  obtain ⟨t661, A100, H⟩ := H
  (try dsimp only at H)
  have A10 := Aside0.mk A100
  clear A100
  by_cases c11 : t661 = true
  rotate_left
  · replace c11 := Bool.eq_false_iff.mpr c11
    subst c11
    rw [if_neg (show ¬ (false = true) by decide)] at H
    obtain rfl := Option.some.inj H
    have hnb12 := NB658_659.out
    have hnc12 := NB659_658.out
    obtain ⟨hcz13_0, hcz13_1, hcz13_2, hcz13_3, hfz13_0, hfz13_1, hfz13_2, hfz13_3⟩ := bc4_ BK658.out
    obtain ⟨hcz14_0, hcz14_1, hcz14_2, hcz14_3, hfz14_0, hfz14_1, hfz14_2, hfz14_3⟩ := bc4_ BK659.out
    go_wp2_with (first | ((with_reducible refine gate_callee (f := 81) rfl ?_); refine goesL_ (some 9) rfl rfl Try.func81 (by kernel_rfl) rfl #[.slice A0_0 l0_0.length c0_0, .slice A1_0 l1_0.length c1_0] rfl mp_ ?_; (with_reducible refine (slices_Equal_int_int.calls k _ _ l0_0 _ _ l1_0 true _ ?side1 ?side2 ?side3 ?side4 A5.out).mono ?_); (case side1 => exact pc_ (Kd.C_below HR0_0.out HB.out)); (case side2 => exact HC0_0.out); (case side3 => exact pc_ (Kd.C_below HR1_0.out HB.out)); (case side4 => exact HC1_0.out); rintro e w' ⟨rfl, ⟨nd, rfl⟩⟩; refine ⟨_, rfl, ?_⟩) | (go_at_call 81; (with_reducible refine (slices_Equal_int_int.calls k _ _ l0_1 _ _ l1_1 false _ ?side1 ?side2 ?side3 ?side4 A10.out).mono ?_); (case side1 => exact pc_ (Kd.C_below HR0_1.out (pb2_ HB.out GE658.out GE659.out))); (case side2 => exact HC0_1.out); (case side3 => exact pc_ (Kd.C_below HR1_1.out (pb2_ HB.out GE658.out GE659.out))); (case side4 => exact HC1_1.out); rintro e w' ⟨rfl, ⟨nd, rfl⟩⟩))
    go_ret
    exact ⟨er_, pb2_ HB.out GE658.out GE659.out⟩
  subst c11
  rw [if_pos rfl] at H
  replace H := Option.bind_eq_some_iff.mp H
  obtain ⟨t662, A150, H⟩ := H
  replace H : (if t662 = true then (some (a0_3 == a1_3)) else (some false)) = some r := H
  have A15 := Aside0.mk A150
  clear A150
  by_cases c16 : t662 = true
  rotate_left
  · replace c16 := Bool.eq_false_iff.mpr c16
    subst c16
    rw [if_neg (show ¬ (false = true) by decide)] at H
    obtain rfl := Option.some.inj H
    have hnb17 := NB658_659.out
    have hnc17 := NB659_658.out
    obtain ⟨hcz18_0, hcz18_1, hcz18_2, hcz18_3, hfz18_0, hfz18_1, hfz18_2, hfz18_3⟩ := bc4_ BK658.out
    obtain ⟨hcz19_0, hcz19_1, hcz19_2, hcz19_3, hfz19_0, hfz19_1, hfz19_2, hfz19_3⟩ := bc4_ BK659.out
    go_wp2_with (first | ((with_reducible refine gate_callee (f := 81) rfl ?_); refine goesL_ (some 9) rfl rfl Try.func81 (by kernel_rfl) rfl #[.slice A0_0 l0_0.length c0_0, .slice A1_0 l1_0.length c1_0] rfl mp_ ?_; (with_reducible refine (slices_Equal_int_int.calls k _ _ l0_0 _ _ l1_0 true _ ?side1 ?side2 ?side3 ?side4 A5.out).mono ?_); (case side1 => exact pc_ (Kd.C_below HR0_0.out HB.out)); (case side2 => exact HC0_0.out); (case side3 => exact pc_ (Kd.C_below HR1_0.out HB.out)); (case side4 => exact HC1_0.out); rintro e w' ⟨rfl, ⟨nd, rfl⟩⟩; refine ⟨_, rfl, ?_⟩) | (go_at_call 81; (with_reducible refine (slices_Equal_int_int.calls k _ _ l0_1 _ _ l1_1 true _ ?side1 ?side2 ?side3 ?side4 A10.out).mono ?_); (case side1 => exact pc_ (Kd.C_below HR0_1.out (pb2_ HB.out GE658.out GE659.out))); (case side2 => exact HC0_1.out); (case side3 => exact pc_ (Kd.C_below HR1_1.out (pb2_ HB.out GE658.out GE659.out))); (case side4 => exact HC1_1.out); rintro e w' ⟨rfl, ⟨nd, rfl⟩⟩) | (go_at_call 88; (with_reducible refine (slices_EqualFunc_impl_Box_impl_Box_impl_Box_impl_Box_with_impl_EqualBoxes.calls k _ _ l0_2 _ _ l1_2 false _ ?side1 ?side2 ?side3 ?side4 A15.out).mono ?_); (case side1 => exact pc_ (Kd.C_below HR0_2.out (pb2_ HB.out GE658.out GE659.out))); (case side2 => exact HC0_2.out); (case side3 => exact pc_ (Kd.C_below HR1_2.out (pb2_ HB.out GE658.out GE659.out))); (case side4 => exact HC1_2.out); rintro e w20 ⟨rfl, hb⟩; have n0_ := Aside0.mk (bb_ BK658.out hb); have n1_ := Aside0.mk (bb_ BK659.out hb); have n2_ := Aside0.mk (below_step (pb2_ HB.out GE658.out GE659.out) hb); clear BK658; clear BK659; clear HB; have BK658 := n0_; have BK659 := n1_; have HB := n2_; clear n0_ n1_ n2_; (try clear hb); (try clear hb2); (try clear hk); (try clear hi)))
    go_ret
    exact ⟨er_, pb2_ HB.out GE658.out GE659.out⟩
  subst c16
  rw [if_pos rfl] at H
  obtain rfl := Option.some.inj H
  have hnb21 := NB658_659.out
  have hnc21 := NB659_658.out
  obtain ⟨hcz22_0, hcz22_1, hcz22_2, hcz22_3, hfz22_0, hfz22_1, hfz22_2, hfz22_3⟩ := bc4_ BK658.out
  obtain ⟨hcz23_0, hcz23_1, hcz23_2, hcz23_3, hfz23_0, hfz23_1, hfz23_2, hfz23_3⟩ := bc4_ BK659.out
  go_wp2_with (first | ((with_reducible refine gate_callee (f := 81) rfl ?_); refine goesL_ (some 9) rfl rfl Try.func81 (by kernel_rfl) rfl #[.slice A0_0 l0_0.length c0_0, .slice A1_0 l1_0.length c1_0] rfl mp_ ?_; (with_reducible refine (slices_Equal_int_int.calls k _ _ l0_0 _ _ l1_0 true _ ?side1 ?side2 ?side3 ?side4 A5.out).mono ?_); (case side1 => exact pc_ (Kd.C_below HR0_0.out HB.out)); (case side2 => exact HC0_0.out); (case side3 => exact pc_ (Kd.C_below HR1_0.out HB.out)); (case side4 => exact HC1_0.out); rintro e w' ⟨rfl, ⟨nd, rfl⟩⟩; refine ⟨_, rfl, ?_⟩) | (go_at_call 81; (with_reducible refine (slices_Equal_int_int.calls k _ _ l0_1 _ _ l1_1 true _ ?side1 ?side2 ?side3 ?side4 A10.out).mono ?_); (case side1 => exact pc_ (Kd.C_below HR0_1.out (pb2_ HB.out GE658.out GE659.out))); (case side2 => exact HC0_1.out); (case side3 => exact pc_ (Kd.C_below HR1_1.out (pb2_ HB.out GE658.out GE659.out))); (case side4 => exact HC1_1.out); rintro e w' ⟨rfl, ⟨nd, rfl⟩⟩) | (go_at_call 88; (with_reducible refine (slices_EqualFunc_impl_Box_impl_Box_impl_Box_impl_Box_with_impl_EqualBoxes.calls k _ _ l0_2 _ _ l1_2 true _ ?side1 ?side2 ?side3 ?side4 A15.out).mono ?_); (case side1 => exact pc_ (Kd.C_below HR0_2.out (pb2_ HB.out GE658.out GE659.out))); (case side2 => exact HC0_2.out); (case side3 => exact pc_ (Kd.C_below HR1_2.out (pb2_ HB.out GE658.out GE659.out))); (case side4 => exact HC1_2.out); rintro e w24 ⟨rfl, hb⟩; have n0_ := Aside0.mk (bb_ BK658.out hb); have n1_ := Aside0.mk (bb_ BK659.out hb); have n2_ := Aside0.mk (below_step (pb2_ HB.out GE658.out GE659.out) hb); clear BK658; clear BK659; clear HB; have BK658 := n0_; have BK659 := n1_; have HB := n2_; clear n0_ n1_ n2_; (try clear hb); (try clear hb2); (try clear hk); (try clear hi); have hcz25_0 : w24.cell? ⟨gb658, 0, none⟩ = some (.slice A0_0 l0_0.length c0_0) := (blk_cell BK658.out 0).trans rfl; have hcz25_1 : w24.cell? ⟨gb658, 1, none⟩ = some (.slice A0_1 l0_1.length c0_1) := (blk_cell BK658.out 1).trans rfl; have hcz25_2 : w24.cell? ⟨gb658, 2, none⟩ = some (.slice A0_2 l0_2.length c0_2) := (blk_cell BK658.out 2).trans rfl; have hcz25_3 : w24.cell? ⟨gb658, 3, none⟩ = some (.int .i64 a0_3) := (blk_cell BK658.out 3).trans rfl; have hfz25_0 := blk_frozen BK658.out 0; have hfz25_1 := blk_frozen BK658.out 1; have hfz25_2 := blk_frozen BK658.out 2; have hfz25_3 := blk_frozen BK658.out 3; have hcz26_0 : w24.cell? ⟨gb659, 0, none⟩ = some (.slice A1_0 l1_0.length c1_0) := (blk_cell BK659.out 0).trans rfl; have hcz26_1 : w24.cell? ⟨gb659, 1, none⟩ = some (.slice A1_1 l1_1.length c1_1) := (blk_cell BK659.out 1).trans rfl; have hcz26_2 : w24.cell? ⟨gb659, 2, none⟩ = some (.slice A1_2 l1_2.length c1_2) := (blk_cell BK659.out 2).trans rfl; have hcz26_3 : w24.cell? ⟨gb659, 3, none⟩ = some (.int .i64 a1_3) := (blk_cell BK659.out 3).trans rfl; have hfz26_0 := blk_frozen BK659.out 0; have hfz26_1 := blk_frozen BK659.out 1; have hfz26_2 := blk_frozen BK659.out 2; have hfz26_3 := blk_frozen BK659.out 3))
  go_ret
  exact ⟨er_, pb2_ HB.out GE658.out GE659.out⟩

/-! ### laws_eqBox: function 54 -/
def laws_eqBox.f (k : Nat) (a0_0 : Int) (l0_1 : List Int) (l0_2 : List Int) (a0_3 : Bool) (a1_0 : Int) (l1_1 : List Int) (l1_2 : List Int) (a1_3 : Bool) : Option (Bool) := if a0_0 = a1_0 then ((laws_eqIntS.f k l0_1 l1_1).bind fun t665 => (if t665 = true then ((laws_eqIntS.f k l0_2 l1_2).bind fun t666 => (if t666 = true then (if (a0_3 != a1_3) = true then (some false) else (some true)) else (some false))) else (some false))) else (some false)
theorem laws_eqBox.mono : ∀ a0 a1 a2 a3 a4 a5 a6 a7 k, LeO (laws_eqBox.f k a0 a1 a2 a3 a4 a5 a6 a7) (laws_eqBox.f (k + 1) a0 a1 a2 a3 a4 a5 a6 a7) := by
  intro a0 a1 a2 a3 a4 a5 a6 a7 k
  unfold laws_eqBox.f
  repeat' first
      | (with_reducible exact laws_eqIntS.mono _ _ _)
      | (with_reducible exact LeO.refl _)
      | (with_reducible exact LeO.none _)
      | (with_reducible refine LeO.ite ?_ ?_)
      | (with_reducible refine LeO.bind ?_ (fun _ => ?_))
      | exact laws_eqIntS.mono _ _ _
      | exact LeO.none _
      | refine LeO.ite ?_ ?_
      | refine LeO.bind ?_ (fun _ => ?_)
set_option maxHeartbeats 8000000 in
set_option maxRecDepth 100000 in
theorem laws_eqBox.calls (k : Nat) (a0_0 : Int) (A0_1 : Option Addr) (c0_1 : Nat) (l0_1 : List Int) (A0_2 : Option Addr) (c0_2 : Nat) (l0_2 : List Int) (a0_3 : Bool) (a1_0 : Int) (A1_1 : Option Addr) (c1_1 : Nat) (l1_1 : List Int) (A1_2 : Option Addr) (c1_2 : Nat) (l1_2 : List Int) (a1_3 : Bool) (r : Bool) (w : World) (hr0_1 : Kd.C (Kd.int .i64) w A0_1 l0_1.length l0_1) (hc0_1 : l0_1.length ≤ c0_1) (hr0_2 : Kd.C (Kd.int .i64) w A0_2 l0_2.length l0_2) (hc0_2 : l0_2.length ≤ c0_2) (hr1_1 : Kd.C (Kd.int .i64) w A1_1 l1_1.length l1_1) (hc1_1 : l1_1.length ≤ c1_1) (hr1_2 : Kd.C (Kd.int .i64) w A1_2 l1_2.length l1_2) (hc1_2 : l1_2.length ≤ c1_2) (h : laws_eqBox.f k a0_0 l0_1 l0_2 a0_3 a1_0 l1_1 l1_2 a1_3 = some r) :
    Calls Try.prog 54 #[.agg #[.int .i64 a0_0, .slice A0_1 l0_1.length c0_1, .slice A0_2 l0_2.length c0_2, .bool a0_3], .agg #[.int .i64 a1_0, .slice A1_1 l1_1.length c1_1, .slice A1_2 l1_2.length c1_2, .bool a1_3]] w fun e w' => e = .returned (.bool r) ∧ Below w.heap.size w w' := by
  have hu67 := Try.underlying67
  have HR0_1 := Aside0.mk hr0_1
  have HC0_1 := Aside0.mk hc0_1
  clear hr0_1 hc0_1
  have HR0_2 := Aside0.mk hr0_2
  have HC0_2 := Aside0.mk hc0_2
  clear hr0_2 hc0_2
  have HR1_1 := Aside0.mk hr1_1
  have HC1_1 := Aside0.mk hc1_1
  clear hr1_1 hc1_1
  have HR1_2 := Aside0.mk hr1_2
  have HC1_2 := Aside0.mk hc1_2
  clear hr1_2 hc1_2
  have HB := Aside0.mk (Below.refl w.heap.size w)
  have H : (if a0_0 = a1_0 then ((laws_eqIntS.f k l0_1 l1_1).bind fun t665 => (if t665 = true then ((laws_eqIntS.f k l0_2 l1_2).bind fun t666 => (if t666 = true then (if (a0_3 != a1_3) = true then (some false) else (some true)) else (some false))) else (some false))) else (some false)) = some r := h
  clear h
  have HS_ := Aside0.mk H
  clear H
  go_enter Try.func54, Try.ntmps54
  go_upto_region 1 with (first | ((with_reducible refine gate_dst (N := 2) rfl ?_); refine box_event ?hg (N := 2) ?hd (cs := #[.int .i64 a0_0, .slice A0_1 l0_1.length c0_1, .slice A0_2 l0_2.length c0_2, .bool a0_3]) (t := 67) ?hr ?_; (case hd => rfl); (case hg => rfl); (case hr => first | (go_simp; done) | (go_simp; rfl)); intro gb663 hg w3 hbox hb; have n0_ := Aside0.mk (below_step (pb_ HB.out) hb); have n1_ := Aside0.mk (hbox); have n2_ := Aside0.mk ((by rw [hg]; exact (below_size (pb_ HB.out)) : w.heap.size ≤ gb663)); have n3_ := Aside0.mk ((by rw [hg]; exact (below_size (pb_ HB.out)) : w.heap.size ≤ gb663)); clear HB; have HB := n0_; have BK663 := n1_; have GW663 := n2_; have GE663 := n3_; clear n0_ n1_ n2_ n3_; clear hb hbox hg) | ((with_reducible refine gate_dst (N := 3) rfl ?_); refine box_event ?hg (N := 3) ?hd (cs := #[.int .i64 a1_0, .slice A1_1 l1_1.length c1_1, .slice A1_2 l1_2.length c1_2, .bool a1_3]) (t := 67) ?hr ?_; (case hd => rfl); (case hg => rfl); (case hr => first | (go_simp; done) | (go_simp; rfl)); intro gb664 hg w4 hbox hb; have n0_ := Aside0.mk (bb_ BK663.out hb); have n1_ := Aside0.mk (below_step (pb1_ HB.out GE663.out) hb); have n2_ := Aside0.mk (hbox); have n3_ := Aside0.mk ((by rw [hg]; exact (below_size (pb1_ HB.out GE663.out)) : w.heap.size ≤ gb664)); have n4_ := Aside0.mk ((by rw [hg]; exact (below_size (pb1_ HB.out GE663.out)) : w.heap.size ≤ gb664)); have n5_ := Aside0.mk ((by rw [hg]; exact Nat.ne_of_lt (blk_lt (pk_ BK663.out)) : gb663 ≠ gb664)); have n6_ := Aside0.mk ((by rw [hg]; exact Nat.ne_of_gt (blk_lt (pk_ BK663.out)) : gb664 ≠ gb663)); clear BK663; clear HB; have BK663 := n0_; have HB := n1_; have BK664 := n2_; have GW664 := n3_; have GE664 := n4_; have NB663_664 := n5_; have NB664_663 := n6_; clear n0_ n1_ n2_ n3_ n4_ n5_ n6_; clear hb hbox hg))
  (try simp only [Act.put, List.setIfInBounds_toArray, List.set_cons_zero, List.set_cons_succ])
  have H := HS_.out
  clear HS_
  by_cases c5 : a0_0 = a1_0
  rotate_left
  · rw [if_neg c5] at H
    have c5b0 : (a0_0 == a1_0) = false := beq_eq_false_iff_ne.mpr c5
    have c5b1 : (a0_0 != a1_0) = true := bne_iff_ne.mpr c5
    (first | rw [c5b0] | (simp only [i64_w, i32_w]; rw [c5b0]) | rw [c5b1] | (have c_ := c5b1; rw [bne] at c_; rw [c_]; clear c_) | skip)
    obtain rfl := Option.some.inj H
    have hnb6 := NB663_664.out
    have hnc6 := NB664_663.out
    obtain ⟨hcz7_0, hcz7_1, hcz7_2, hcz7_3, hfz7_0, hfz7_1, hfz7_2, hfz7_3⟩ := bc4_ BK663.out
    obtain ⟨hcz8_0, hcz8_1, hcz8_2, hcz8_3, hfz8_0, hfz8_1, hfz8_2, hfz8_3⟩ := bc4_ BK664.out
    go_wp2
    go_ret
    exact ⟨er_, pb2_ HB.out GE663.out GE664.out⟩
  rw [if_pos c5] at H
  have c5b0 : (a0_0 == a1_0) = true := beq_iff_eq.mpr c5
  have c5b1 : (a0_0 != a1_0) = false := bne_eq_false_iff_eq.mpr c5
  clear c5
  (first | rw [c5b0] | (simp only [i64_w, i32_w]; rw [c5b0]) | rw [c5b1] | (have c_ := c5b1; rw [bne] at c_; rw [c_]; clear c_) | skip)
  replace H := Option.bind_eq_some_iff.mp H
  obtain ⟨t665, A90, H⟩ := H
  (try dsimp only at H)
  have A9 := Aside0.mk A90
  clear A90
  have HS_ := Aside0.mk H
  clear H
  have hnb10 := NB663_664.out
  have hnc10 := NB664_663.out
  obtain ⟨hcz11_0, hcz11_1, hcz11_2, hcz11_3, hfz11_0, hfz11_1, hfz11_2, hfz11_3⟩ := bc4_ BK663.out
  obtain ⟨hcz12_0, hcz12_1, hcz12_2, hcz12_3, hfz12_0, hfz12_1, hfz12_2, hfz12_3⟩ := bc4_ BK664.out
  go_upto_if 15 with (first | ((with_reducible refine gate_callee (f := 20) rfl ?_); refine goesL_ (some 14) rfl rfl Try.func20 (by kernel_rfl) rfl #[.slice A0_1 l0_1.length c0_1, .slice A1_1 l1_1.length c1_1] rfl mp_ ?_; (with_reducible refine (laws_eqIntS.calls k _ _ l0_1 _ _ l1_1 t665 _ ?side1 ?side2 ?side3 ?side4 A9.out).mono ?_); (case side1 => exact pc_ (Kd.C_below HR0_1.out HB.out)); (case side2 => exact HC0_1.out); (case side3 => exact pc_ (Kd.C_below HR1_1.out HB.out)); (case side4 => exact HC1_1.out); rintro e w' ⟨rfl, ⟨nd, rfl⟩⟩; refine ⟨_, rfl, ?_⟩))
  (try simp only [Act.put, List.setIfInBounds_toArray, List.set_cons_zero, List.set_cons_succ])
  have H := HS_.out
  clear HS_
  by_cases c13 : t665 = true
  rotate_left
  · replace c13 := Bool.eq_false_iff.mpr c13
    subst c13
    rw [if_neg (show ¬ (false = true) by decide)] at H
    obtain rfl := Option.some.inj H
    go_wp2
    go_ret
    exact ⟨er_, pb2_ HB.out GE663.out GE664.out⟩
  subst c13
  rw [if_pos rfl] at H
  replace H := Option.bind_eq_some_iff.mp H
  obtain ⟨t666, A140, H⟩ := H
  (try dsimp only at H)
  have A14 := Aside0.mk A140
  clear A140
  have HS_ := Aside0.mk H
  clear H
  have hnb15 := NB663_664.out
  have hnc15 := NB664_663.out
  obtain ⟨hcz16_0, hcz16_1, hcz16_2, hcz16_3, hfz16_0, hfz16_1, hfz16_2, hfz16_3⟩ := bc4_ BK663.out
  obtain ⟨hcz17_0, hcz17_1, hcz17_2, hcz17_3, hfz17_0, hfz17_1, hfz17_2, hfz17_3⟩ := bc4_ BK664.out
  go_upto_if 21 with (first | ((with_reducible refine gate_callee (f := 20) rfl ?_); refine goesL_ (some 20) rfl rfl Try.func20 (by kernel_rfl) rfl #[.slice A0_2 l0_2.length c0_2, .slice A1_2 l1_2.length c1_2] rfl mp_ ?_; (with_reducible refine (laws_eqIntS.calls k _ _ l0_2 _ _ l1_2 t666 _ ?side1 ?side2 ?side3 ?side4 A14.out).mono ?_); (case side1 => exact pc_ (Kd.C_below HR0_2.out HB.out)); (case side2 => exact HC0_2.out); (case side3 => exact pc_ (Kd.C_below HR1_2.out HB.out)); (case side4 => exact HC1_2.out); rintro e w' ⟨rfl, ⟨nd, rfl⟩⟩; refine ⟨_, rfl, ?_⟩))
  (try simp only [Act.put, List.setIfInBounds_toArray, List.set_cons_zero, List.set_cons_succ])
  have H := HS_.out
  clear HS_
  by_cases c18 : t666 = true
  rotate_left
  · replace c18 := Bool.eq_false_iff.mpr c18
    subst c18
    rw [if_neg (show ¬ (false = true) by decide)] at H
    obtain rfl := Option.some.inj H
    go_wp2
    go_ret
    exact ⟨er_, pb2_ HB.out GE663.out GE664.out⟩
  subst c18
  rw [if_pos rfl] at H
  by_cases c19 : (a0_3 != a1_3) = true
  rotate_left
  · rw [if_neg c19] at H
    have c19b0 : (a0_3 != a1_3) = false := by simpa using c19
    (try (have c19b1 : decide (a0_3 = a1_3) = true := by simpa using c19))
    (try (have c19b2 : (a0_3 == a1_3) = true := by simpa using c19))
    clear c19
    (first | rw [c19b0] | (simp only [i64_w, i32_w]; rw [c19b0]) | (have c_ := c19b0; rw [bne] at c_; rw [c_]; clear c_) | rw [c19b1] | rw [c19b2] | skip)
    obtain rfl := Option.some.inj H
    have hnb20 := NB663_664.out
    have hnc20 := NB664_663.out
    obtain ⟨hcz21_0, hcz21_1, hcz21_2, hcz21_3, hfz21_0, hfz21_1, hfz21_2, hfz21_3⟩ := bc4_ BK663.out
    obtain ⟨hcz22_0, hcz22_1, hcz22_2, hcz22_3, hfz22_0, hfz22_1, hfz22_2, hfz22_3⟩ := bc4_ BK664.out
    go_wp2
    go_ret
    exact ⟨er_, pb2_ HB.out GE663.out GE664.out⟩
  rw [if_pos c19] at H
  have c19b0 : (a0_3 != a1_3) = true := c19
  (try (have c19b1 : decide (a0_3 = a1_3) = false := by simpa using c19))
  (try (have c19b2 : (a0_3 == a1_3) = false := by simpa using c19))
  (try (have c19b3 : ¬ (a0_3 = a1_3) := by simpa using c19))
  clear c19
  (first | rw [c19b0] | (simp only [i64_w, i32_w]; rw [c19b0]) | (have c_ := c19b0; rw [bne] at c_; rw [c_]; clear c_) | rw [c19b1] | rw [c19b2] | skip)
  obtain rfl := Option.some.inj H
  have hnb23 := NB663_664.out
  have hnc23 := NB664_663.out
  obtain ⟨hcz24_0, hcz24_1, hcz24_2, hcz24_3, hfz24_0, hfz24_1, hfz24_2, hfz24_3⟩ := bc4_ BK663.out
  obtain ⟨hcz25_0, hcz25_1, hcz25_2, hcz25_3, hfz25_0, hfz25_1, hfz25_2, hfz25_3⟩ := bc4_ BK664.out
  go_wp2
  go_ret
  exact ⟨er_, pb2_ HB.out GE663.out GE664.out⟩

/-! ### laws_eqBoxS: function 59 -/
def laws_eqBoxS.l0 : Nat → List (S67) → List (S67) → Int → Option (Bool)
  | 0, _, _, _ => none
  | k + 1, x0, x1, x5 => if x5 < (x0.length : Int) then (if 0 ≤ x5 then (if x5 < (x1.length : Int) then ((laws_eqBox.f k ((rd_T67 x0 x5).f0) ((rd_T67 x0 x5).f1) ((rd_T67 x0 x5).f2) ((rd_T67 x0 x5).f3) ((rd_T67 x1 x5).f0) ((rd_T67 x1 x5).f1) ((rd_T67 x1 x5).f2) ((rd_T67 x1 x5).f3)).bind fun t669 => (if t669 = true then (laws_eqBoxS.l0 k x0 x1 (wrap64 (x5 + 1))) else (some false))) else (none)) else (none)) else (some true)
def laws_eqBoxS.f (k : Nat) (l0 : List (S67)) (l1 : List (S67)) : Option (Bool) := if (l0.length : Int) = (l1.length : Int) then (laws_eqBoxS.l0 k l0 l1 0) else (some false)
theorem laws_eqBoxS.mono_l : ∀ k, (∀ y0 y1 y2, LeO (laws_eqBoxS.l0 k y0 y1 y2) (laws_eqBoxS.l0 (k + 1) y0 y1 y2))
  | 0 => fun _ _ _ r h => by simp [laws_eqBoxS.l0] at h
  | k + 1 => by
    have ih0 := laws_eqBoxS.mono_l k
    · intro y0 y1 y2
      unfold laws_eqBoxS.l0
      repeat' first
      | (with_reducible exact ih0 _ _ _)
      | (with_reducible exact laws_eqBox.mono _ _ _ _ _ _ _ _ _)
      | (with_reducible exact LeO.refl _)
      | (with_reducible exact LeO.none _)
      | (with_reducible refine LeO.ite ?_ ?_)
      | (with_reducible refine LeO.bind ?_ (fun _ => ?_))
      | exact ih0 _ _ _
      | exact laws_eqBox.mono _ _ _ _ _ _ _ _ _
      | exact LeO.none _
      | refine LeO.ite ?_ ?_
      | refine LeO.bind ?_ (fun _ => ?_)
theorem laws_eqBoxS.mono : ∀ a0 a1 k, LeO (laws_eqBoxS.f k a0 a1) (laws_eqBoxS.f (k + 1) a0 a1) := by
  intro a0 a1 k
  have ih0 := laws_eqBoxS.mono_l k
  unfold laws_eqBoxS.f
  repeat' first
      | (with_reducible exact ih0 _ _ _)
      | (with_reducible exact laws_eqBox.mono _ _ _ _ _ _ _ _ _)
      | (with_reducible exact LeO.refl _)
      | (with_reducible exact LeO.none _)
      | (with_reducible refine LeO.ite ?_ ?_)
      | (with_reducible refine LeO.bind ?_ (fun _ => ?_))
      | exact ih0 _ _ _
      | exact laws_eqBox.mono _ _ _ _ _ _ _ _ _
      | exact LeO.none _
      | refine LeO.ite ?_ ?_
      | refine LeO.bind ?_ (fun _ => ?_)
def laws_eqBoxS.T6 : Bool × List (List Nat × List Nat) := (true, [([], []), ([], []), ([0, 1], [0, 1]), ([2], [2]), ([], []), ([], []), ([4, 5], [4, 5]), ([6], [6]), ([3, 7], [3, 7]), ([8], [8])])
def laws_eqBoxS.B6 : List Nat := [0, 0, 3, 7, 0, 0, 48, 112, 255, 511]
theorem laws_eqBoxS.tab6 : rtab .any (opsOf Try.f59 6) = laws_eqBoxS.T6 := by kernel_rfl
theorem laws_eqBoxS.bits6 : waitsOk laws_eqBoxS.T6.2 laws_eqBoxS.B6 = true := by kernel_rfl
set_option maxHeartbeats 8000000 in
set_option maxRecDepth 100000 in
theorem laws_eqBoxS.calls (k : Nat) (A0 : Option Addr) (c0 : Nat) (l0 : List (S67)) (A1 : Option Addr) (c1 : Nat) (l1 : List (S67)) (r : Bool) (w : World) (hr0 : Kd.C k67 w A0 l0.length l0) (hc0 : l0.length ≤ c0) (hr1 : Kd.C k67 w A1 l1.length l1) (hc1 : l1.length ≤ c1) (h : laws_eqBoxS.f k l0 l1 = some r) :
    Calls Try.prog 59 #[.slice A0 l0.length c0, .slice A1 l1.length c1] w fun e w' => e = .returned (.bool r) ∧ Below w.heap.size w w' := by
  have hu67 := Try.underlying67
  have HR0 := Aside0.mk hr0
  have HC0 := Aside0.mk hc0
  clear hr0 hc0
  have HR1 := Aside0.mk hr1
  have HC1 := Aside0.mk hc1
  clear hr1 hc1
  have HB := Aside0.mk (Below.refl w.heap.size w)
  have H : (if (l0.length : Int) = (l1.length : Int) then (laws_eqBoxS.l0 k l0 l1 0) else (some false)) = some r := h
  clear h
  by_cases c3 : (l0.length : Int) = (l1.length : Int)
  rotate_left
  · rw [if_neg c3] at H
    have c3b0 : ((l0.length : Int) == (l1.length : Int)) = false := beq_eq_false_iff_ne.mpr c3
    have c3b1 : ((l0.length : Int) != (l1.length : Int)) = true := bne_iff_ne.mpr c3
    have c3b2 : (l0.length == l1.length) = false := by first | simpa using c3 | (simp at c3 ⊢; omega)
    obtain rfl := Option.some.inj H
    go_enter Try.func59, Try.ntmps59
    go_wp2
    go_ret
    exact ⟨er_, pb_ HB.out⟩
  rw [if_pos c3] at H
  have c3b0 : ((l0.length : Int) == (l1.length : Int)) = true := beq_iff_eq.mpr c3
  have c3b1 : ((l0.length : Int) != (l1.length : Int)) = false := bne_eq_false_iff_eq.mpr c3
  have c3b2 : (l0.length == l1.length) = true := by first | simpa using c3 | (simp at c3 ⊢; omega)
  clear c3
  have H' := Aside0.mk H
  clear H
  go_enter Try.func59, Try.ntmps59
  go_wp2
  go_loopg [5] k (fun kq v5 w' => ∃ (x5_1 : Int), v5 = .int .i64 x5_1 ∧ Aside0 (laws_eqBoxS.l0 kq l0 l1 x5_1 = some r) ∧ Aside0 (kq ≤ k) ∧ Aside0 (Below w.heap.size w w'))
  case atStart => exact ⟨(0), el_, H', ⟨Nat.le_refl _⟩, ⟨pb_ HB.out⟩⟩
  clear H'
  try clear c1
  try clear p2
  try clear c3
  try clear c3b0
  try clear c3b1
  try clear c3b2
  obtain ⟨x5_1, rfl, HA, HK1, HB⟩ := hrel
  rcases gk with _ | k1
  · exact absurd HA.out (by simp [laws_eqBoxS.l0])
  have H := HA.out
  clear HA
  simp only [laws_eqBoxS.l0] at H
  by_cases c4 : x5_1 < (l0.length : Int)
  rotate_left
  · rw [if_neg c4] at H
    have c4b0 : decide (x5_1 < (l0.length : Int)) = false := decide_eq_false c4
    clear c4
    obtain rfl := Option.some.inj H
    go_wp2
    go_ret
    exact ⟨er_, pb_ HB.out⟩
  rw [if_pos c4] at H
  have c4b0 : decide (x5_1 < (l0.length : Int)) = true := decide_eq_true c4
  clear c4
  by_cases c5 : 0 ≤ x5_1
  rotate_left
  · rw [if_neg c5] at H
    exact absurd H (by simp)
  rw [if_pos c5] at H
  have c5b0 : decide (0 ≤ x5_1) = true := decide_eq_true c5
  clear c5
  by_cases c6 : x5_1 < (l1.length : Int)
  rotate_left
  · rw [if_neg c6] at H
    exact absurd H (by simp)
  rw [if_pos c6] at H
  have c6b0 : decide (x5_1 < (l1.length : Int)) = true := decide_eq_true c6
  clear c6
  replace H := Option.bind_eq_some_iff.mp H
  obtain ⟨t669, A70, H⟩ := H
  (try dsimp only at H)
  have A7 := Aside0.mk A70
  clear A70
  have HS_ := Aside0.mk H
  clear H
  try go_wp2
  have n0_ := Aside0.mk (below_drew1 HB.out)
  clear HB
  have HB := n0_
  clear n0_
  have p667 : 0 ≤ (x5_1 : Int) := dt_
  have q667 : x5_1 < (l0.length : Int) := dt_
  obtain ⟨ad667, A667_1, c667_1, A667_2, c667_2, e667, hx667_0, hx667_1, hx667_2, hx667_3, hl667_1, hi667_1, hl667_2, hi667_2⟩ := at_T67 HR0.out x5_1 p667 q667
  have hw667_3 := hx667_3
  have hw667_2 := hx667_2
  have hw667_1 := hx667_1
  have hw667_0 := hx667_0
  cases e667
  replace hx667_0 := (HB.out.cell (World.block_lt_of_cell? w _ hx667_0)).trans hx667_0
  replace hx667_1 := (HB.out.cell (World.block_lt_of_cell? w _ hx667_1)).trans hx667_1
  replace hx667_2 := (HB.out.cell (World.block_lt_of_cell? w _ hx667_2)).trans hx667_2
  replace hx667_3 := (HB.out.cell (World.block_lt_of_cell? w _ hx667_3)).trans hx667_3
  have HR667_1 := Aside0.mk hi667_1
  have HC667_1 := Aside0.mk hl667_1
  clear hi667_1 hl667_1
  have HR667_2 := Aside0.mk hi667_2
  have HC667_2 := Aside0.mk hl667_2
  clear hi667_2 hl667_2
  replace p667 := eq_true p667
  replace q667 := eq_true q667
  have p668 : 0 ≤ (x5_1 : Int) := dt_
  have q668 : x5_1 < (l1.length : Int) := dt_
  obtain ⟨ad668, A668_1, c668_1, A668_2, c668_2, e668, hx668_0, hx668_1, hx668_2, hx668_3, hl668_1, hi668_1, hl668_2, hi668_2⟩ := at_T67 HR1.out x5_1 p668 q668
  have hw668_3 := hx668_3
  have hw668_2 := hx668_2
  have hw668_1 := hx668_1
  have hw668_0 := hx668_0
  cases e668
  replace hx668_0 := (HB.out.cell (World.block_lt_of_cell? w _ hx668_0)).trans hx668_0
  replace hx668_1 := (HB.out.cell (World.block_lt_of_cell? w _ hx668_1)).trans hx668_1
  replace hx668_2 := (HB.out.cell (World.block_lt_of_cell? w _ hx668_2)).trans hx668_2
  replace hx668_3 := (HB.out.cell (World.block_lt_of_cell? w _ hx668_3)).trans hx668_3
  have HR668_1 := Aside0.mk hi668_1
  have HC668_1 := Aside0.mk hl668_1
  clear hi668_1 hl668_1
  have HR668_2 := Aside0.mk hi668_2
  have HC668_2 := Aside0.mk hl668_2
  clear hi668_2 hl668_2
  replace p668 := eq_true p668
  replace q668 := eq_true q668
  refine start_ (n := 10) (S := fun w' => w'.cell? (ad667.add ((x5_1).toNat * 4)) = some (.int .i64 ((rd_T67 l0 x5_1).f0)) ∧ w'.cell? ⟨(ad667.add ((x5_1).toNat * 4)).block, (ad667.add ((x5_1).toNat * 4)).off + 1, none⟩ = some (.slice A667_1 ((rd_T67 l0 x5_1).f1).length c667_1) ∧ w'.cell? ⟨(ad667.add ((x5_1).toNat * 4)).block, (ad667.add ((x5_1).toNat * 4)).off + 2, none⟩ = some (.slice A667_2 ((rd_T67 l0 x5_1).f2).length c667_2) ∧ w'.cell? ⟨(ad667.add ((x5_1).toNat * 4)).block, (ad667.add ((x5_1).toNat * 4)).off + 3, none⟩ = some (.bool ((rd_T67 l0 x5_1).f3)) ∧ w'.cell? (ad668.add ((x5_1).toNat * 4)) = some (.int .i64 ((rd_T67 l1 x5_1).f0)) ∧ w'.cell? ⟨(ad668.add ((x5_1).toNat * 4)).block, (ad668.add ((x5_1).toNat * 4)).off + 1, none⟩ = some (.slice A668_1 ((rd_T67 l1 x5_1).f1).length c668_1) ∧ w'.cell? ⟨(ad668.add ((x5_1).toNat * 4)).block, (ad668.add ((x5_1).toNat * 4)).off + 2, none⟩ = some (.slice A668_2 ((rd_T67 l1 x5_1).f2).length c668_2) ∧ w'.cell? ⟨(ad668.add ((x5_1).toNat * 4)).block, (ad668.add ((x5_1).toNat * 4)).off + 3, none⟩ = some (.bool ((rd_T67 l1 x5_1).f3))) (ds := []) #[false, false, false, false, false, false, false, false, false, false] (by kernel_rfl) rfl rfl ⟨((HB.out.cell (World.block_lt_of_cell? w _ hw667_0)).trans hw667_0), ((HB.out.cell (World.block_lt_of_cell? w _ hw667_1)).trans hw667_1), ((HB.out.cell (World.block_lt_of_cell? w _ hw667_2)).trans hw667_2), ((HB.out.cell (World.block_lt_of_cell? w _ hw667_3)).trans hw667_3), ((HB.out.cell (World.block_lt_of_cell? w _ hw668_0)).trans hw668_0), ((HB.out.cell (World.block_lt_of_cell? w _ hw668_1)).trans hw668_1), ((HB.out.cell (World.block_lt_of_cell? w _ hw668_2)).trans hw668_2), ((HB.out.cell (World.block_lt_of_cell? w _ hw668_3)).trans hw668_3)⟩ (fun hHeld => ?_); refine with_tabW laws_eqBoxS.tab6 laws_eqBoxS.bits6 (fun HT_ HW_ => ?_)
  generalize wr.drew = w8 at HB HR667_1 HR667_2 HR668_1 HR668_2 hx667_0 hx667_1 hx667_2 hx667_3 hx668_0 hx668_1 hx668_2 hx668_3 hHeld ⊢
  refine pure_ (i := 0) (N := some 17) (v := ?_) (a' := ?_) #[true, false, false, false, false, false, false, false, false, false] rfl rfl (any_of HT_.out (by kernel_rfl)) (fun _ _ _ h => h) (Or.inl ⟨by rfl, ?_⟩) ?_ ?_
  rotate_left
  · intro w'
    go_simp
    (try (simp only [Instr.field]; simp only [underlying, hu67]; go_simp; simp only [asAgg]; go_simp))
    with_reducible rfl
  rotate_left
  · simp only [Act.put, List.setIfInBounds_toArray, List.set_cons_zero, List.set_cons_succ, i64_w, i32_w]
    rfl
  refine pure_ (i := 1) (N := some 18) (v := ?_) (a' := ?_) #[true, true, false, false, false, false, false, false, false, false] rfl rfl (any_of HT_.out (by kernel_rfl)) (fun _ _ _ h => h) (Or.inl ⟨by rfl, ?_⟩) ?_ ?_
  rotate_left
  · intro w'
    go_simp
    (try (simp only [Instr.field]; simp only [underlying, hu67]; go_simp; simp only [asAgg]; go_simp))
    with_reducible rfl
  rotate_left
  · simp only [Act.put, List.setIfInBounds_toArray, List.set_cons_zero, List.set_cons_succ, i64_w, i32_w]
    rfl
  refine pure_ (i := 2) (N := some 19) (v := ?_) (a' := ?_) #[true, true, true, false, false, false, false, false, false, false] rfl rfl (any_of HT_.out (by kernel_rfl)) (fun _ _ _ h => h) (Or.inl ⟨by rfl, ?_⟩) ?_ ?_
  rotate_left
  · intro w'
    go_simp
    (try (simp only [Instr.field]; simp only [underlying, hu67]; go_simp; simp only [asAgg]; go_simp))
    with_reducible rfl
  rotate_left
  · simp only [Act.put, List.setIfInBounds_toArray, List.set_cons_zero, List.set_cons_succ, i64_w, i32_w]
    rfl
  refine pure_ (i := 4) (N := some 21) (v := ?_) (a' := ?_) #[true, true, true, false, true, false, false, false, false, false] rfl rfl (any_of HT_.out (by kernel_rfl)) (fun _ _ _ h => h) (Or.inl ⟨by rfl, ?_⟩) ?_ ?_
  rotate_left
  · intro w'
    go_simp
    (try (simp only [Instr.field]; simp only [underlying, hu67]; go_simp; simp only [asAgg]; go_simp))
    with_reducible rfl
  rotate_left
  · simp only [Act.put, List.setIfInBounds_toArray, List.set_cons_zero, List.set_cons_succ, i64_w, i32_w]
    rfl
  refine pure_ (i := 5) (N := some 22) (v := ?_) (a' := ?_) #[true, true, true, false, true, true, false, false, false, false] rfl rfl (any_of HT_.out (by kernel_rfl)) (fun _ _ _ h => h) (Or.inl ⟨by rfl, ?_⟩) ?_ ?_
  rotate_left
  · intro w'
    go_simp
    (try (simp only [Instr.field]; simp only [underlying, hu67]; go_simp; simp only [asAgg]; go_simp))
    with_reducible rfl
  rotate_left
  · simp only [Act.put, List.setIfInBounds_toArray, List.set_cons_zero, List.set_cons_succ, i64_w, i32_w]
    rfl
  refine pure_ (i := 6) (N := some 23) (v := ?_) (a' := ?_) #[true, true, true, false, true, true, true, false, false, false] rfl rfl (any_of HT_.out (by kernel_rfl)) (fun _ _ _ h => h) (Or.inl ⟨by rfl, ?_⟩) ?_ ?_
  rotate_left
  · intro w'
    go_simp
    (try (simp only [Instr.field]; simp only [underlying, hu67]; go_simp; simp only [asAgg]; go_simp))
    with_reducible rfl
  rotate_left
  · simp only [Act.put, List.setIfInBounds_toArray, List.set_cons_zero, List.set_cons_succ, i64_w, i32_w]
    rfl
  refine take_ (i := 3) (N := some 20) (v := ?_) (a' := ?_) #[true, true, true, true, true, true, true, false, false, false] rfl rfl (take_ofW HT_.out HW_.out (by kernel_rfl)) (fun _ _ _ h => h) (Or.inl ⟨by rfl, ?_⟩) hHeld ?_ ?_
  rotate_left
  · rintro w' ⟨s0, s1, s2, s3, s4, s5, s6, s7⟩
    go_simp
    (try (simp only [Instr.field]; simp only [underlying, hu67]; go_simp; simp only [asAgg]; go_simp))
    with_reducible rfl
  rotate_left
  · simp only [Act.put, List.setIfInBounds_toArray, List.set_cons_zero, List.set_cons_succ, i64_w, i32_w]
    rfl
  refine take_ (i := 7) (N := some 24) (v := ?_) (a' := ?_) #[true, true, true, true, true, true, true, true, false, false] rfl rfl (take_ofW HT_.out HW_.out (by kernel_rfl)) (fun _ _ _ h => h) (Or.inl ⟨by rfl, ?_⟩) hHeld ?_ ?_
  rotate_left
  · rintro w' ⟨s0, s1, s2, s3, s4, s5, s6, s7⟩
    go_simp
    (try (simp only [Instr.field]; simp only [underlying, hu67]; go_simp; simp only [asAgg]; go_simp))
    with_reducible rfl
  rotate_left
  · simp only [Act.put, List.setIfInBounds_toArray, List.set_cons_zero, List.set_cons_succ, i64_w, i32_w]
    rfl
  refine one_ (i := 8) (N := some 25) #[true, true, true, true, true, true, true, true, true, false] rfl rfl (one_of HT_.out (by kernel_rfl)) (by decide) (fun K hK => ?_)
  refine goes_ Try.func54 (by kernel_rfl) rfl #[.agg #[.int .i64 ((rd_T67 l0 x5_1).f0), .slice A667_1 ((rd_T67 l0 x5_1).f1).length c667_1, .slice A667_2 ((rd_T67 l0 x5_1).f2).length c667_2, .bool ((rd_T67 l0 x5_1).f3)], .agg #[.int .i64 ((rd_T67 l1 x5_1).f0), .slice A668_1 ((rd_T67 l1 x5_1).f1).length c668_1, .slice A668_2 ((rd_T67 l1 x5_1).f2).length c668_2, .bool ((rd_T67 l1 x5_1).f3)]] (by rfl) rfl rfl mp_ ?_
  with_reducible refine (laws_eqBox.calls k1 ((rd_T67 l0 x5_1).f0) _ _ ((rd_T67 l0 x5_1).f1) _ _ ((rd_T67 l0 x5_1).f2) ((rd_T67 l0 x5_1).f3) ((rd_T67 l1 x5_1).f0) _ _ ((rd_T67 l1 x5_1).f1) _ _ ((rd_T67 l1 x5_1).f2) ((rd_T67 l1 x5_1).f3) t669 _ ?side1 ?side2 ?side3 ?side4 ?side5 ?side6 ?side7 ?side8 A7.out).mono ?_
  (case side1 => exact pc_ (Kd.C_below HR667_1.out HB.out))
  (case side2 => exact HC667_1.out)
  (case side3 => exact pc_ (Kd.C_below HR667_2.out HB.out))
  (case side4 => exact HC667_2.out)
  (case side5 => exact pc_ (Kd.C_below HR668_1.out HB.out))
  (case side6 => exact HC668_1.out)
  (case side7 => exact pc_ (Kd.C_below HR668_2.out HB.out))
  (case side8 => exact HC668_2.out)
  rintro e w9 ⟨rfl, hb⟩
  refine ⟨_, rfl, ?_⟩
  have n0_ := Aside0.mk (below_step (pb_ HB.out) hb)
  clear HB
  have HB := n0_
  clear n0_
  (try clear hb)
  (try clear hb2)
  (try clear hk)
  (try clear hi)
  refine hK.out _ _ ⟨((HB.out.cell (World.block_lt_of_cell? w _ hw667_0)).trans hw667_0), ((HB.out.cell (World.block_lt_of_cell? w _ hw667_1)).trans hw667_1), ((HB.out.cell (World.block_lt_of_cell? w _ hw667_2)).trans hw667_2), ((HB.out.cell (World.block_lt_of_cell? w _ hw667_3)).trans hw667_3), ((HB.out.cell (World.block_lt_of_cell? w _ hw668_0)).trans hw668_0), ((HB.out.cell (World.block_lt_of_cell? w _ hw668_1)).trans hw668_1), ((HB.out.cell (World.block_lt_of_cell? w _ hw668_2)).trans hw668_2), ((HB.out.cell (World.block_lt_of_cell? w _ hw668_3)).trans hw668_3)⟩ (fun hHeld => ?_)
  clear hK K
  refine norm_ (a' := ?_) ?_ ?_
  rotate_left
  · show Act.put _ (some 25) _ = _
    simp only [Act.put, List.setIfInBounds_toArray, List.set_cons_zero, List.set_cons_succ, i64_w, i32_w]
    rfl
  refine pure_ (i := 9) (N := some 26) (v := ?_) (a' := ?_) #[true, true, true, true, true, true, true, true, true, true] rfl rfl (any_of HT_.out (by kernel_rfl)) (fun _ _ _ h => h) (Or.inl ⟨by rfl, ?_⟩) ?_ ?_
  rotate_left
  · intro w'
    go_simp
    (try (simp only [Instr.field]; simp only [underlying, hu67]; go_simp; simp only [asAgg]; go_simp))
    with_reducible rfl
  rotate_left
  · simp only [Act.put, List.setIfInBounds_toArray, List.set_cons_zero, List.set_cons_succ, i64_w, i32_w]
    rfl
  refine done_ (done_of HT_.out (by kernel_rfl)) ?_
  go_upto_if 26 with (fail)
  have H := HS_.out
  clear HS_
  by_cases c10 : t669 = true
  rotate_left
  · replace c10 := Bool.eq_false_iff.mpr c10
    subst c10
    rw [if_neg (show ¬ (false = true) by decide)] at H
    obtain rfl := Option.some.inj H
    go_wp2
    go_ret
    exact ⟨er_, pb_ HB.out⟩
  subst c10
  rw [if_pos rfl] at H
  have H' := Aside0.mk H
  clear H
  go_wp2
  go_roundg k1
  case measure => have := HK1.out; omega
  case rel => exact ⟨(wrap64 (x5_1 + 1)), el_, H', ⟨by have := HK1.out; omega⟩, ⟨pb_ HB.out⟩⟩

end Go.Proofs.Ytdoefkloanpliaa.Print
