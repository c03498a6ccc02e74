-- Written by a program of this session (printx.py) out of the translation; Lean checks it.
import Derived.Test.YtldcchjbaglppaaPrint0
namespace Go.Proofs.Ytldcchjbaglppaa.Print
open Go.RowKit Go.Proofs.YtldcchjbaglppaaW.PrintWords Go.Proofs.YtldcchjbaglppaaW.PrintLast Go.Proofs.YtldcchjbaglppaaW.PrintMore Go.Proofs.Ytldcchjbaglppaa.Short
attribute [local go_sem] max2_int min2_int max_two min_two max_three min_three max_four min_four   -- for this text's walks alone
set_option linter.unusedVariables false
set_option linter.unusedSimpArgs false

/-! ### impl_MoveOf_1: function 100001 -/
def impl_MoveOf_1.f (a0_0 : Int) (a0_1 : Bool) (a0_2 : Int) (a0_3 : Int) (a1_0 : Int) (a2_0 : Bool) (a3_0 : Int) : Option (Bool) := if a0_0 = a1_0 then (if a0_1 = true then (if a2_0 = true then (some (a0_2 == a3_0)) else (some false)) else (if a2_0 = true then (some false) else (some (a0_2 == a3_0)))) else (some false)
set_option maxHeartbeats 8000000 in
set_option maxRecDepth 100000 in
theorem impl_MoveOf_1.calls (a0_0 : Int) (a0_1 : Bool) (a0_2 : Int) (a0_3 : Int) (B1 : Nat) (a1_0 : Int) (B2 : Nat) (a2_0 : Bool) (B3 : Nat) (a3_0 : Int) (r : Bool) (w : World) (hbv1 : w.heap[B1]? = some (.cells #[.int .i64 a1_0] 3 (0, 0))) (hbv2 : w.heap[B2]? = some (.cells #[.bool a2_0] 4 (0, 0))) (hnv1_2 : B1 ≠ B2) (hbv3 : w.heap[B3]? = some (.cells #[.int .i64 a3_0] 3 (0, 0))) (hnv1_3 : B1 ≠ B3) (hnv2_3 : B2 ≠ B3) (h : impl_MoveOf_1.f a0_0 a0_1 a0_2 a0_3 a1_0 a2_0 a3_0 = some r) :
    Calls Try.prog 100 #[.agg #[.int .i64 a0_0, .bool a0_1, .int .i64 a0_2, .int .i64 a0_3], .pointer (some ⟨B1, 0, none⟩), .pointer (some ⟨B2, 0, none⟩), .pointer (some ⟨B3, 0, none⟩)] w fun e w' => e = .returned (.bool r) ∧ Below w.heap.size w w' := by
  have hu78 := Try.underlying78
  have BK1 := Q_ hbv1
  clear hbv1
  have BK2 := Q_ hbv2
  clear hbv2
  have NB1_2 := Q_ hnv1_2
  have NB2_1 := Q_ (Ne.symm hnv1_2)
  clear hnv1_2
  have BK3 := Q_ hbv3
  clear hbv3
  have NB1_3 := Q_ hnv1_3
  have NB3_1 := Q_ (Ne.symm hnv1_3)
  clear hnv1_3
  have NB2_3 := Q_ hnv2_3
  have NB3_2 := Q_ (Ne.symm hnv2_3)
  clear hnv2_3
  have HB := Q_ (Below.refl w.heap.size w)
  have H : (if a0_0 = a1_0 then (if a0_1 = true then (if a2_0 = true then (some (a0_2 == a3_0)) else (some false)) else (if a2_0 = true then (some false) else (some (a0_2 == a3_0)))) else (some false)) = some r := h
  clear h
  have HS_ := Q_ H
  clear H
  go_enter Try.func100, Try.ntmps100
  go_upto_region 1 with (first | ((with_reducible refine gate_dst (N := 4) rfl ?_); refine box_event ?hg (N := 4) ?hd (cs := #[.int .i64 a0_0, .bool a0_1, .int .i64 a0_2, .int .i64 a0_3]) (t := 78) ?hr ?_; (case hd => rfl); (case hg => rfl); (case hr => first | (go_simp; done) | (go_simp; rfl)); intro gb386 hg w5 hbox hb; have n0_ := Q_ (bb_ BK1.out hb); have n1_ := Q_ (bb_ BK2.out hb); have n2_ := Q_ (bb_ BK3.out hb); have n3_ := Q_ (below_step (pb_ HB.out) hb); have n4_ := Q_ (hbox); have n5_ := Q_ ((by rw [hg]; exact (below_size (pb_ HB.out)) : w.heap.size ≤ gb386)); have n6_ := n5_; have n7_ := Q_ ((by rw [hg]; exact Nat.ne_of_lt (blk_lt (pk_ BK1.out)) : B1 ≠ gb386)); have n8_ := Q_ ((by rw [hg]; exact Nat.ne_of_gt (blk_lt (pk_ BK1.out)) : gb386 ≠ B1)); have n9_ := Q_ ((by rw [hg]; exact Nat.ne_of_lt (blk_lt (pk_ BK2.out)) : B2 ≠ gb386)); have n10_ := Q_ ((by rw [hg]; exact Nat.ne_of_gt (blk_lt (pk_ BK2.out)) : gb386 ≠ B2)); have n11_ := Q_ ((by rw [hg]; exact Nat.ne_of_lt (blk_lt (pk_ BK3.out)) : B3 ≠ gb386)); have n12_ := Q_ ((by rw [hg]; exact Nat.ne_of_gt (blk_lt (pk_ BK3.out)) : gb386 ≠ B3)); clear BK1; clear BK2; clear BK3; clear HB; have BK1 := n0_; have BK2 := n1_; have BK3 := n2_; have HB := n3_; have BK386 := n4_; have GW386 := n5_; have GE386 := n6_; have NB1_386 := n7_; have NB386_1 := n8_; have NB2_386 := n9_; have NB386_2 := n10_; have NB3_386 := n11_; have NB386_3 := n12_; clear n0_ n1_ n2_ n3_ n4_ n5_ n6_ n7_ n8_ n9_ n10_ n11_ n12_; clear hb hbox hg))
  (try simp only [Act.put, List.setIfInBounds_toArray, List.set_cons_zero, List.set_cons_succ])
  have H := HS_.out
  clear HS_
  by_cases c6 : a0_0 = a1_0
  rotate_left
  · rw [if_neg c6] at H
    have c6b0 : (a0_0 == a1_0) = false := beq_eq_false_iff_ne.mpr c6
    have c6b1 : (a0_0 != a1_0) = true := bne_iff_ne.mpr c6
    (first | rw [c6b0] | (simp only [i64_w, i32_w]; rw [c6b0]) | rw [c6b1] | (have c_ := c6b1; rw [bne] at c_; rw [c_]; clear c_) | skip)
    obtain rfl := Option.some.inj H
    have hnb7 := NB386_1.out
    have hnc7 := NB1_386.out
    have hnb8 := NB386_2.out
    have hnc8 := NB2_386.out
    have hnb9 := NB386_3.out
    have hnc9 := NB3_386.out
    have hcz10 := bc4_ BK386.out
    have hnb11 := NB1_2.out
    have hnc11 := NB2_1.out
    have hnb12 := NB1_3.out
    have hnc12 := NB3_1.out
    have hcz13_0 : w5.cell? ⟨B1, 0, none⟩ = some (.int .i64 a1_0) := (blk_cell BK1.out 0).trans rfl
    have hfz13_0 := blk_frozen BK1.out 0
    go_wp2
    go_ret
    exact ⟨er_, pb1_ HB.out GE386.out⟩
  rw [if_pos c6] at H
  have c6b0 : (a0_0 == a1_0) = true := beq_iff_eq.mpr c6
  have c6b1 : (a0_0 != a1_0) = false := bne_eq_false_iff_eq.mpr c6
  clear c6
  (first | rw [c6b0] | (simp only [i64_w, i32_w]; rw [c6b0]) | rw [c6b1] | (have c_ := c6b1; rw [bne] at c_; rw [c_]; clear c_) | skip)
  by_cases c14 : a0_1 = true
  rotate_left
  · replace c14 := Bool.eq_false_iff.mpr c14
    subst c14
    rw [if_neg (show ¬ (false = true) by decide)] at H
    by_cases c15 : a2_0 = true
    · subst c15
      rw [if_pos rfl] at H
      obtain rfl := Option.some.inj H
      have hnb16 := NB386_1.out
      have hnc16 := NB1_386.out
      have hnb17 := NB386_2.out
      have hnc17 := NB2_386.out
      have hnb18 := NB386_3.out
      have hnc18 := NB3_386.out
      have hcz19 := bc4_ BK386.out
      have hnb20 := NB1_2.out
      have hnc20 := NB2_1.out
      have hnb21 := NB1_3.out
      have hnc21 := NB3_1.out
      have hcz22_0 : w5.cell? ⟨B1, 0, none⟩ = some (.int .i64 a1_0) := (blk_cell BK1.out 0).trans rfl
      have hfz22_0 := blk_frozen BK1.out 0
      have hnb23 := NB2_3.out
      have hnc23 := NB3_2.out
      have hcz24_0 : w5.cell? ⟨B2, 0, none⟩ = some (.bool true) := (blk_cell BK2.out 0).trans rfl
      have hfz24_0 := blk_frozen BK2.out 0
      go_wp2
      go_ret
      exact ⟨er_, pb1_ HB.out GE386.out⟩
    replace c15 := Bool.eq_false_iff.mpr c15
    subst c15
    rw [if_neg (show ¬ (false = true) by decide)] at H
    obtain rfl := Option.some.inj H
    have hnb25 := NB386_1.out
    have hnc25 := NB1_386.out
    have hnb26 := NB386_2.out
    have hnc26 := NB2_386.out
    have hnb27 := NB386_3.out
    have hnc27 := NB3_386.out
    have hcz28 := bc4_ BK386.out
    have hnb29 := NB1_2.out
    have hnc29 := NB2_1.out
    have hnb30 := NB1_3.out
    have hnc30 := NB3_1.out
    have hcz31_0 : w5.cell? ⟨B1, 0, none⟩ = some (.int .i64 a1_0) := (blk_cell BK1.out 0).trans rfl
    have hfz31_0 := blk_frozen BK1.out 0
    have hnb32 := NB2_3.out
    have hnc32 := NB3_2.out
    have hcz33_0 : w5.cell? ⟨B2, 0, none⟩ = some (.bool false) := (blk_cell BK2.out 0).trans rfl
    have hfz33_0 := blk_frozen BK2.out 0
    have hcz34_0 : w5.cell? ⟨B3, 0, none⟩ = some (.int .i64 a3_0) := (blk_cell BK3.out 0).trans rfl
    have hfz34_0 := blk_frozen BK3.out 0
    go_wp2
    go_ret
    exact ⟨er_, pb1_ HB.out GE386.out⟩
  subst c14
  rw [if_pos rfl] at H
  by_cases c35 : a2_0 = true
  rotate_left
  · replace c35 := Bool.eq_false_iff.mpr c35
    subst c35
    rw [if_neg (show ¬ (false = true) by decide)] at H
    obtain rfl := Option.some.inj H
    have hnb36 := NB386_1.out
    have hnc36 := NB1_386.out
    have hnb37 := NB386_2.out
    have hnc37 := NB2_386.out
    have hnb38 := NB386_3.out
    have hnc38 := NB3_386.out
    have hcz39 := bc4_ BK386.out
    have hnb40 := NB1_2.out
    have hnc40 := NB2_1.out
    have hnb41 := NB1_3.out
    have hnc41 := NB3_1.out
    have hcz42_0 : w5.cell? ⟨B1, 0, none⟩ = some (.int .i64 a1_0) := (blk_cell BK1.out 0).trans rfl
    have hfz42_0 := blk_frozen BK1.out 0
    have hnb43 := NB2_3.out
    have hnc43 := NB3_2.out
    have hcz44_0 : w5.cell? ⟨B2, 0, none⟩ = some (.bool false) := (blk_cell BK2.out 0).trans rfl
    have hfz44_0 := blk_frozen BK2.out 0
    go_wp2
    go_ret
    exact ⟨er_, pb1_ HB.out GE386.out⟩
  subst c35
  rw [if_pos rfl] at H
  obtain rfl := Option.some.inj H
  have hnb45 := NB386_1.out
  have hnc45 := NB1_386.out
  have hnb46 := NB386_2.out
  have hnc46 := NB2_386.out
  have hnb47 := NB386_3.out
  have hnc47 := NB3_386.out
  have hcz48 := bc4_ BK386.out
  have hnb49 := NB1_2.out
  have hnc49 := NB2_1.out
  have hnb50 := NB1_3.out
  have hnc50 := NB3_1.out
  have hcz51_0 : w5.cell? ⟨B1, 0, none⟩ = some (.int .i64 a1_0) := (blk_cell BK1.out 0).trans rfl
  have hfz51_0 := blk_frozen BK1.out 0
  have hnb52 := NB2_3.out
  have hnc52 := NB3_2.out
  have hcz53_0 : w5.cell? ⟨B2, 0, none⟩ = some (.bool true) := (blk_cell BK2.out 0).trans rfl
  have hfz53_0 := blk_frozen BK2.out 0
  have hcz54_0 : w5.cell? ⟨B3, 0, none⟩ = some (.int .i64 a3_0) := (blk_cell BK3.out 0).trans rfl
  have hfz54_0 := blk_frozen BK3.out 0
  go_wp2
  go_ret
  exact ⟨er_, pb1_ HB.out GE386.out⟩

/-! ### slices_IndexFunc_impl_Move_impl_Move_with_impl_MoveOf_1: function 100000 -/
def slices_IndexFunc_impl_Move_impl_Move_with_impl_MoveOf_1.l0 : Nat → List (S78) → Int → Int → Int → Bool → Int → Option (Int)
  | 0, _, _, _, _, _, _ => none
  | k + 1, x0, x7, x8, x2000, x3000, x4000 => if x8 < x7 then (if 0 ≤ x8 then (if x8 < (x0.length : Int) then ((impl_MoveOf_1.f ((rd_T78 x0 x8).f0) ((rd_T78 x0 x8).f1) ((rd_T78 x0 x8).f2) ((rd_T78 x0 x8).f3) x2000 x3000 x4000).bind fun t388 => (if t388 = true then (some x8) else (slices_IndexFunc_impl_Move_impl_Move_with_impl_MoveOf_1.l0 k x0 x7 (wrap64 (x8 + 1)) x2000 x3000 x4000))) else (none)) else (none)) else (some (-1))
def slices_IndexFunc_impl_Move_impl_Move_with_impl_MoveOf_1.f (k : Nat) (l0 : List (S78)) (a1_0 : Int) (a2_0 : Bool) (a3_0 : Int) : Option (Int) := slices_IndexFunc_impl_Move_impl_Move_with_impl_MoveOf_1.l0 k l0 (l0.length : Int) 0 a1_0 a2_0 a3_0
theorem slices_IndexFunc_impl_Move_impl_Move_with_impl_MoveOf_1.mono_l : ∀ k, (∀ y0 y1 y2 y3 y4 y5, LeO (slices_IndexFunc_impl_Move_impl_Move_with_impl_MoveOf_1.l0 k y0 y1 y2 y3 y4 y5) (slices_IndexFunc_impl_Move_impl_Move_with_impl_MoveOf_1.l0 (k + 1) y0 y1 y2 y3 y4 y5))
  | 0 => fun _ _ _ _ _ _ r h => by simp [slices_IndexFunc_impl_Move_impl_Move_with_impl_MoveOf_1.l0] at h
  | k + 1 => by
    have ih0 := slices_IndexFunc_impl_Move_impl_Move_with_impl_MoveOf_1.mono_l k
    · intro y0 y1 y2 y3 y4 y5
      unfold slices_IndexFunc_impl_Move_impl_Move_with_impl_MoveOf_1.l0
      exact mo1_ ih0
theorem slices_IndexFunc_impl_Move_impl_Move_with_impl_MoveOf_1.mono : ∀ a0 a1 a2 a3 k, LeO (slices_IndexFunc_impl_Move_impl_Move_with_impl_MoveOf_1.f k a0 a1 a2 a3) (slices_IndexFunc_impl_Move_impl_Move_with_impl_MoveOf_1.f (k + 1) a0 a1 a2 a3) := by
  intro a0 a1 a2 a3 k
  have ih0 := slices_IndexFunc_impl_Move_impl_Move_with_impl_MoveOf_1.mono_l k
  unfold slices_IndexFunc_impl_Move_impl_Move_with_impl_MoveOf_1.f
  exact mo1_ ih0
set_option maxHeartbeats 8000000 in
set_option maxRecDepth 100000 in
theorem slices_IndexFunc_impl_Move_impl_Move_with_impl_MoveOf_1.calls (k : Nat) (A0 : Option Addr) (c0 : Nat) (l0 : List (S78)) (B1 : Nat) (a1_0 : Int) (B2 : Nat) (a2_0 : Bool) (B3 : Nat) (a3_0 : Int) (r : Int) (w : World) (hr0 : Kd.C k78 w A0 l0.length l0) (hc0 : l0.length ≤ c0) (hbv1 : w.heap[B1]? = some (.cells #[.int .i64 a1_0] 3 (0, 0))) (hbv2 : w.heap[B2]? = some (.cells #[.bool a2_0] 4 (0, 0))) (hnv1_2 : B1 ≠ B2) (hbv3 : w.heap[B3]? = some (.cells #[.int .i64 a3_0] 3 (0, 0))) (hnv1_3 : B1 ≠ B3) (hnv2_3 : B2 ≠ B3) (h : slices_IndexFunc_impl_Move_impl_Move_with_impl_MoveOf_1.f k l0 a1_0 a2_0 a3_0 = some r) :
    Calls Try.prog 99 #[.slice A0 l0.length c0, .func (.func 100) #[] #[.pointer (some ⟨B1, 0, none⟩), .pointer (some ⟨B2, 0, none⟩), .pointer (some ⟨B3, 0, none⟩)]] w fun e w' => e = .returned (.int .i64 r) ∧ Below w.heap.size w w' := by
  have hu78 := Try.underlying78
  have HR0 := Q_ hr0
  have HC0 := Q_ hc0
  clear hr0 hc0
  have BK1 := Q_ hbv1
  clear hbv1
  have BK2 := Q_ hbv2
  clear hbv2
  have NB1_2 := Q_ hnv1_2
  have NB2_1 := Q_ (Ne.symm hnv1_2)
  clear hnv1_2
  have BK3 := Q_ hbv3
  clear hbv3
  have NB1_3 := Q_ hnv1_3
  have NB3_1 := Q_ (Ne.symm hnv1_3)
  clear hnv1_3
  have NB2_3 := Q_ hnv2_3
  have NB3_2 := Q_ (Ne.symm hnv2_3)
  clear hnv2_3
  have HB := Q_ (Below.refl w.heap.size w)
  have H : (slices_IndexFunc_impl_Move_impl_Move_with_impl_MoveOf_1.l0 k l0 (l0.length : Int) 0 a1_0 a2_0 a3_0) = some r := h
  clear h
  have H' := Q_ H
  clear H
  go_enter Try.func99, Try.ntmps99
  go_wp2
  go_loopg [8] k (fun kq v8 w' => ∃ (x8_1 : Int), v8 = .int .i64 x8_1 ∧ Aside0 (slices_IndexFunc_impl_Move_impl_Move_with_impl_MoveOf_1.l0 kq l0 (l0.length : Int) x8_1 a1_0 a2_0 a3_0 = some r) ∧ Aside0 (kq ≤ k) ∧ Aside0 (w'.heap[B1]? = some (.cells #[.int .i64 a1_0] 3 (0, 0))) ∧ Aside0 (w'.heap[B2]? = some (.cells #[.bool a2_0] 4 (0, 0))) ∧ Aside0 (w'.heap[B3]? = some (.cells #[.int .i64 a3_0] 3 (0, 0))) ∧ Aside0 (Below w.heap.size w w'))
  case atStart => exact ⟨(0), el_, H', ⟨Nat.le_refl _⟩, ⟨pk_ BK1.out⟩, ⟨pk_ BK2.out⟩, ⟨pk_ BK3.out⟩, ⟨pb_ HB.out⟩⟩
  clear H'
  try clear p2
  obtain ⟨x8_1, rfl, HA, HK1, BK1, BK2, BK3, HB⟩ := hrel
  rcases gk with _ | k1
  · exact absurd HA.out (by simp [slices_IndexFunc_impl_Move_impl_Move_with_impl_MoveOf_1.l0])
  have H := HA.out
  clear HA
  simp only [slices_IndexFunc_impl_Move_impl_Move_with_impl_MoveOf_1.l0] at H
  by_cases c5 : x8_1 < (l0.length : Int)
  rotate_left
  · rw [if_neg c5] at H
    have c5b0 : decide (x8_1 < (l0.length : Int)) = false := decide_eq_false c5
    clear c5
    obtain rfl := Option.some.inj H
    go_wp2
    go_ret
    exact ⟨er_, pb_ HB.out⟩
  rw [if_pos c5] at H
  have c5b0 : decide (x8_1 < (l0.length : Int)) = true := decide_eq_true c5
  clear c5
  by_cases c6 : 0 ≤ x8_1
  rotate_left
  · rw [if_neg c6] at H
    exact absurd H (by simp)
  rw [if_pos c6] at H
  have c6b0 : decide (0 ≤ x8_1) = true := decide_eq_true c6
  clear c6
  by_cases c7 : x8_1 < (l0.length : Int)
  rotate_left
  · rw [if_neg c7] at H
    exact absurd H (by simp)
  rw [if_pos c7] at H
  have c7b0 : decide (x8_1 < (l0.length : Int)) = true := decide_eq_true c7
  clear c7
  replace H := Option.bind_eq_some_iff.mp H
  obtain ⟨t388, A80, H⟩ := H
  (try dsimp only at H)
  have A8 := Q_ A80
  clear A80
  have HS_ := Q_ H
  clear H
  have p387 : 0 ≤ (x8_1 : Int) := dt_
  have q387 : x8_1 < (l0.length : Int) := dt_
  obtain ⟨ad387, e387, hx387_0, hx387_1, hx387_2, hx387_3⟩ := at_T78 HR0.out x8_1 p387 q387
  cases e387
  replace hx387_0 := bt_ HB hx387_0
  replace hx387_1 := bt_ HB hx387_1
  replace hx387_2 := bt_ HB hx387_2
  replace hx387_3 := bt_ HB hx387_3
  replace p387 := eq_true p387
  replace q387 := eq_true q387
  go_upto_if 16 with (first | (go_at_call 100; (with_reducible refine (impl_MoveOf_1.calls ((rd_T78 l0 x8_1).f0) ((rd_T78 l0 x8_1).f1) ((rd_T78 l0 x8_1).f2) ((rd_T78 l0 x8_1).f3) _ a1_0 _ a2_0 _ a3_0 t388 _ ?side1 ?side2 ?side3 ?side4 ?side5 ?side6 A8.out).mono ?_); (case side1 => exact pk_ BK1.out); (case side2 => exact pk_ BK2.out); (case side3 => exact NB1_2.out); (case side4 => exact pk_ BK3.out); (case side5 => exact NB1_3.out); (case side6 => exact NB2_3.out); rintro e w9 ⟨rfl, hb⟩; have _ := Q_ (bb_ BK1.out hb); have _ := Q_ (bb_ BK2.out hb); have _ := Q_ (bb_ BK3.out hb); have _ := Q_ (below_step (pb_ HB.out) hb); clear BK1 BK2 BK3 HB; rename_i BK1 BK2 BK3 HB; (try clear hb); (try clear hb2); (try clear hk); (try clear hi)))
  (try simp only [Act.put, List.setIfInBounds_toArray, List.set_cons_zero, List.set_cons_succ])
  have H := HS_.out
  clear HS_
  by_cases c10 : t388 = true
  rotate_left
  · replace c10 := Bool.eq_false_iff.mpr c10
    subst c10
    rw [if_neg (show ¬ (false = true) by decide)] at H
    have H' := Q_ H
    clear H
    go_wp2
    go_roundg k1
    case measure => have := HK1.out; omega
    case rel => exact ⟨(wrap64 (x8_1 + 1)), el_, H', ⟨by have := HK1.out; omega⟩, ⟨pk_ BK1.out⟩, ⟨pk_ BK2.out⟩, ⟨pk_ BK3.out⟩, ⟨pb_ HB.out⟩⟩
  subst c10
  rw [if_pos rfl] at H
  obtain rfl := Option.some.inj H
  go_wp2
  go_ret
  exact ⟨er_, pb_ HB.out⟩

/-! ### impl_MoveOf: function 94 -/
def impl_MoveOf.f (k : Nat) (a0_0 : Int) (l0_1 : List Bool) (l0_2 : List (S78)) (a1 : Int) (a2 : Bool) (a3 : Int) : Option (Int) := (slices_IndexFunc_impl_Move_impl_Move_with_impl_MoveOf_1.f k l0_2 a1 a2 a3).bind fun t393 => (some t393)
theorem impl_MoveOf.mono : ∀ a0 a1 a2 a3 a4 a5 k, LeO (impl_MoveOf.f k a0 a1 a2 a3 a4 a5) (impl_MoveOf.f (k + 1) a0 a1 a2 a3 a4 a5) := by
  intro a0 a1 a2 a3 a4 a5 k
  unfold impl_MoveOf.f
  exact mo1_ slices_IndexFunc_impl_Move_impl_Move_with_impl_MoveOf_1.mono
set_option maxHeartbeats 8000000 in
set_option maxRecDepth 100000 in
theorem impl_MoveOf.calls (k : Nat) (a0_0 : Int) (A0_1 : Option Addr) (c0_1 : Nat) (l0_1 : List Bool) (A0_2 : Option Addr) (c0_2 : Nat) (l0_2 : List (S78)) (a1 : Int) (a2 : Bool) (a3 : Int) (r : Int) (w : World) (hr0_1 : Kd.C Kd.bool w A0_1 l0_1.length l0_1) (hc0_1 : l0_1.length ≤ c0_1) (hr0_2 : Kd.C k78 w A0_2 l0_2.length l0_2) (hc0_2 : l0_2.length ≤ c0_2) (h : impl_MoveOf.f k a0_0 l0_1 l0_2 a1 a2 a3 = some r) :
    Calls Try.prog 94 #[.agg #[.int .i64 a0_0, .slice A0_1 l0_1.length c0_1, .slice A0_2 l0_2.length c0_2], .int .i64 a1, .bool a2, .int .i64 a3] w fun e w' => e = .returned (.int .i64 r) ∧ Below w.heap.size w w' := by
  have hu34 := Try.underlying34
  have HR0_1 := Q_ hr0_1
  have HC0_1 := Q_ hc0_1
  clear hr0_1 hc0_1
  have HR0_2 := Q_ hr0_2
  have HC0_2 := Q_ hc0_2
  clear hr0_2 hc0_2
  have HB := Q_ (Below.refl w.heap.size w)
  have H : ((slices_IndexFunc_impl_Move_impl_Move_with_impl_MoveOf_1.f k l0_2 a1 a2 a3).bind fun t393 => (some t393)) = some r := h
  clear h
  replace H := Option.bind_eq_some_iff.mp H
  obtain ⟨t393, A50, H⟩ := H
  replace H : (some t393) = some r := H
  have A5 := Q_ A50
  clear A50
  obtain rfl := Option.some.inj H
  go_enter Try.func94, Try.ntmps94
  go_wp2_with (first | ((with_reducible refine gate_dst (N := 4) rfl ?_); refine box_event ?hg (N := 4) ?hd (cs := #[.int .i64 a0_0, .slice A0_1 l0_1.length c0_1, .slice A0_2 l0_2.length c0_2]) (t := 34) ?hr ?_; (case hd => rfl); (case hg => rfl); (case hr => first | (go_simp; done) | (go_simp; rfl)); intro gb389 hg w6 hbox hb; have n0_ := Q_ (below_step (pb_ HB.out) hb); have n1_ := Q_ (hbox); have n2_ := Q_ ((by rw [hg]; exact (below_size (pb_ HB.out)) : w.heap.size ≤ gb389)); have n3_ := n2_; clear HB; have HB := n0_; have BK389 := n1_; have GW389 := n2_; have GE389 := n3_; clear n0_ n1_ n2_ n3_; clear hb hbox hg) | ((with_reducible refine gate_dst (N := 5) rfl ?_); refine box_event ?hg (N := 5) ?hd (cs := #[.int .i64 a1]) (t := 3) ?hr ?_; (case hd => rfl); (case hg => rfl); (case hr => first | (go_simp; done) | (go_simp; rfl)); intro gb390 hg w7 hbox hb; have n0_ := Q_ (bb_ BK389.out hb); have n1_ := Q_ (below_step (pb1_ HB.out GE389.out) hb); have n2_ := Q_ (hbox); have n3_ := Q_ ((by rw [hg]; exact (below_size (pb1_ HB.out GE389.out)) : w.heap.size ≤ gb390)); have n4_ := n3_; have n5_ := Q_ ((by rw [hg]; exact Nat.ne_of_lt (blk_lt (pk_ BK389.out)) : gb389 ≠ gb390)); have n6_ := Q_ ((by rw [hg]; exact Nat.ne_of_gt (blk_lt (pk_ BK389.out)) : gb390 ≠ gb389)); clear BK389; clear HB; have BK389 := n0_; have HB := n1_; have BK390 := n2_; have GW390 := n3_; have GE390 := n4_; have NB389_390 := n5_; have NB390_389 := n6_; clear n0_ n1_ n2_ n3_ n4_ n5_ n6_; clear hb hbox hg) | ((with_reducible refine gate_dst (N := 6) rfl ?_); refine box_event ?hg (N := 6) ?hd (cs := #[.bool a2]) (t := 4) ?hr ?_; (case hd => rfl); (case hg => rfl); (case hr => first | (go_simp; done) | (go_simp; rfl)); intro gb391 hg w8 hbox hb; have n0_ := Q_ (bb_ BK389.out hb); have n1_ := Q_ (bb_ BK390.out hb); have n2_ := Q_ (below_step (pb2_ HB.out GE389.out GE390.out) hb); have n3_ := Q_ (hbox); have n4_ := Q_ ((by rw [hg]; exact (below_size (pb2_ HB.out GE389.out GE390.out)) : w.heap.size ≤ gb391)); have n5_ := n4_; have n6_ := Q_ ((by rw [hg]; exact Nat.ne_of_lt (blk_lt (pk_ BK389.out)) : gb389 ≠ gb391)); have n7_ := Q_ ((by rw [hg]; exact Nat.ne_of_gt (blk_lt (pk_ BK389.out)) : gb391 ≠ gb389)); have n8_ := Q_ ((by rw [hg]; exact Nat.ne_of_lt (blk_lt (pk_ BK390.out)) : gb390 ≠ gb391)); have n9_ := Q_ ((by rw [hg]; exact Nat.ne_of_gt (blk_lt (pk_ BK390.out)) : gb391 ≠ gb390)); clear BK389; clear BK390; clear HB; have BK389 := n0_; have BK390 := n1_; have HB := n2_; have BK391 := n3_; have GW391 := n4_; have GE391 := n5_; have NB389_391 := n6_; have NB391_389 := n7_; have NB390_391 := n8_; have NB391_390 := n9_; clear n0_ n1_ n2_ n3_ n4_ n5_ n6_ n7_ n8_ n9_; clear hb hbox hg) | ((with_reducible refine gate_dst (N := 7) rfl ?_); refine box_event ?hg (N := 7) ?hd (cs := #[.int .i64 a3]) (t := 3) ?hr ?_; (case hd => rfl); (case hg => rfl); (case hr => first | (go_simp; done) | (go_simp; rfl)); intro gb392 hg w9 hbox hb; have n0_ := Q_ (bb_ BK389.out hb); have n1_ := Q_ (bb_ BK390.out hb); have n2_ := Q_ (bb_ BK391.out hb); have n3_ := Q_ (below_step (pb3_ HB.out GE389.out GE390.out GE391.out) hb); have n4_ := Q_ (hbox); have n5_ := Q_ ((by rw [hg]; exact (below_size (pb3_ HB.out GE389.out GE390.out GE391.out)) : w.heap.size ≤ gb392)); have n6_ := n5_; have n7_ := Q_ ((by rw [hg]; exact Nat.ne_of_lt (blk_lt (pk_ BK389.out)) : gb389 ≠ gb392)); have n8_ := Q_ ((by rw [hg]; exact Nat.ne_of_gt (blk_lt (pk_ BK389.out)) : gb392 ≠ gb389)); have n9_ := Q_ ((by rw [hg]; exact Nat.ne_of_lt (blk_lt (pk_ BK390.out)) : gb390 ≠ gb392)); have n10_ := Q_ ((by rw [hg]; exact Nat.ne_of_gt (blk_lt (pk_ BK390.out)) : gb392 ≠ gb390)); have n11_ := Q_ ((by rw [hg]; exact Nat.ne_of_lt (blk_lt (pk_ BK391.out)) : gb391 ≠ gb392)); have n12_ := Q_ ((by rw [hg]; exact Nat.ne_of_gt (blk_lt (pk_ BK391.out)) : gb392 ≠ gb391)); clear BK389; clear BK390; clear BK391; clear HB; have BK389 := n0_; have BK390 := n1_; have BK391 := n2_; have HB := n3_; have BK392 := n4_; have GW392 := n5_; have GE392 := n6_; have NB389_392 := n7_; have NB392_389 := n8_; have NB390_392 := n9_; have NB392_390 := n10_; have NB391_392 := n11_; have NB392_391 := n12_; clear n0_ n1_ n2_ n3_ n4_ n5_ n6_ n7_ n8_ n9_ n10_ n11_ n12_; clear hb hbox hg; have hnb10 := NB389_390.out; have hnc10 := NB390_389.out; have hnb11 := NB389_391.out; have hnc11 := NB391_389.out; have hnb12 := NB389_392.out; have hnc12 := NB392_389.out; have hcz13 := bc3_ BK389.out) | (go_at_call 99; (with_reducible refine (slices_IndexFunc_impl_Move_impl_Move_with_impl_MoveOf_1.calls k _ _ l0_2 _ a1 _ a2 _ a3 t393 _ ?side1 ?side2 ?side3 ?side4 ?side5 ?side6 ?side7 ?side8 A5.out).mono ?_); (case side1 => exact cb_ HR0_2 HB); (case side2 => exact HC0_2.out); (case side3 => exact pk_ BK390.out); (case side4 => exact pk_ BK391.out); (case side5 => exact NB390_391.out); (case side6 => exact pk_ BK392.out); (case side7 => exact NB390_392.out); (case side8 => exact NB391_392.out); rintro e w14 ⟨rfl, hb⟩; have _ := Q_ (bb_ BK389.out hb); have _ := Q_ (bb_ BK390.out hb); have _ := Q_ (bb_ BK391.out hb); have _ := Q_ (bb_ BK392.out hb); have _ := Q_ (below_step (pb4_ HB.out GE389.out GE390.out GE391.out GE392.out) hb); clear BK389 BK390 BK391 BK392 HB; rename_i BK389 BK390 BK391 BK392 HB; (try clear hb); (try clear hb2); (try clear hk); (try clear hi)))
  go_ret
  exact ⟨er_, pb4_ HB.out GE389.out GE390.out GE391.out GE392.out⟩

end Go.Proofs.Ytldcchjbaglppaa.Print
