-- Written by a program of this session (printx.py) out of the translation; Lean checks it.
import Derived.Test.YtldcchjbaglppaaPrint0
import Derived.Test.YtldcchjbaglppaaPrint5
namespace Go.Proofs.Ytldcchjbaglppaa.Print
open Go.RowKit Go.Proofs.YtldcchjbaglppaaW.PrintWords Go.Proofs.YtldcchjbaglppaaW.PrintLast Go.Proofs.YtldcchjbaglppaaW.PrintMore Go.Proofs.Ytldcchjbaglppaa.Short
attribute [local go_sem] max2_int min2_int max_two min_two max_three min_three max_four min_four   -- for this text's walks alone
set_option linter.unusedVariables false
set_option linter.unusedSimpArgs false

/-! ### impl_MovesFrom: function 81 -/
def impl_MovesFrom.l0 : Nat → Int → Bool → List Int → List (S78) → Int → Int → Option (List Int)
  | 0, _, _, _, _, _, _ => none
  | k + 1, x1, x2, x7, x12, x13, x14 => if x14 < x13 then (if 0 ≤ x14 then (if x14 < (x12.length : Int) then (if ((rd_T78 x12 x14).f0) = x1 then (if (((rd_T78 x12 x14).f1) == x2) = true then (if x7.length < 17592186044416 then (impl_MovesFrom.l0 k x1 x2 (x7 ++ [(rd_T78 x12 x14).f2]) x12 x13 (wrap64 (x14 + 1))) else (none)) else (impl_MovesFrom.l0 k x1 x2 x7 x12 x13 (wrap64 (x14 + 1)))) else (impl_MovesFrom.l0 k x1 x2 x7 x12 x13 (wrap64 (x14 + 1)))) else (none)) else (none)) else ((slices_Sort_int_int.f k x7).bind fun t196 => ((slices_Compact_int_int.f k t196).bind fun t197 => (some t197)))
def impl_MovesFrom.f (k : Nat) (a0_0 : Int) (l0_1 : List Bool) (l0_2 : List (S78)) (a1 : Int) (a2 : Bool) : Option (List Int) := impl_MovesFrom.l0 k a1 a2 (([] : List Int)) l0_2 (l0_2.length : Int) 0
theorem impl_MovesFrom.mono_l : ∀ k, (∀ y0 y1 y2 y3 y4 y5, LeO (impl_MovesFrom.l0 k y0 y1 y2 y3 y4 y5) (impl_MovesFrom.l0 (k + 1) y0 y1 y2 y3 y4 y5))
  | 0 => fun _ _ _ _ _ _ r h => by simp [impl_MovesFrom.l0] at h
  | k + 1 => by
    have ih0 := impl_MovesFrom.mono_l k
    · intro y0 y1 y2 y3 y4 y5
      unfold impl_MovesFrom.l0
      repeat' first
      | (with_reducible exact ih0 _ _ _ _ _ _)
      | (with_reducible exact slices_Compact_int_int.mono _ _)
      | (with_reducible exact slices_Sort_int_int.mono _ _)
      | (with_reducible exact LeO.refl _)
      | (with_reducible exact LeO.none _)
      | (with_reducible refine LeO.ite ?_ ?_)
      | (with_reducible refine LeO.bind ?_ (fun _ => ?_))
      | exact ih0 _ _ _ _ _ _
      | exact slices_Compact_int_int.mono _ _
      | exact slices_Sort_int_int.mono _ _
      | exact LeO.none _
      | refine LeO.ite ?_ ?_
      | refine LeO.bind ?_ (fun _ => ?_)
theorem impl_MovesFrom.mono : ∀ a0 a1 a2 a3 a4 k, LeO (impl_MovesFrom.f k a0 a1 a2 a3 a4) (impl_MovesFrom.f (k + 1) a0 a1 a2 a3 a4) := by
  intro a0 a1 a2 a3 a4 k
  have ih0 := impl_MovesFrom.mono_l k
  unfold impl_MovesFrom.f
  repeat' first
      | (with_reducible exact ih0 _ _ _ _ _ _)
      | (with_reducible exact slices_Compact_int_int.mono _ _)
      | (with_reducible exact slices_Sort_int_int.mono _ _)
      | (with_reducible exact LeO.refl _)
      | (with_reducible exact LeO.none _)
      | (with_reducible refine LeO.ite ?_ ?_)
      | (with_reducible refine LeO.bind ?_ (fun _ => ?_))
      | exact ih0 _ _ _ _ _ _
      | exact slices_Compact_int_int.mono _ _
      | exact slices_Sort_int_int.mono _ _
      | exact LeO.none _
      | refine LeO.ite ?_ ?_
      | refine LeO.bind ?_ (fun _ => ?_)
set_option maxHeartbeats 8000000 in
set_option maxRecDepth 100000 in
theorem impl_MovesFrom.calls (k : Nat) (a0_0 : Int) (A0_1 : Option Addr) (c0_1 : Nat) (l0_1 : List Bool) (A0_2 : Option Addr) (c0_2 : Nat) (l0_2 : List (S78)) (a1 : Int) (a2 : Bool) (r : List Int) (w : World) (hr0_1 : Kd.C Kd.bool w A0_1 l0_1.length l0_1) (hc0_1 : l0_1.length ≤ c0_1) (hr0_2 : Kd.C k78 w A0_2 l0_2.length l0_2) (hc0_2 : l0_2.length ≤ c0_2) (h : impl_MovesFrom.f k a0_0 l0_1 l0_2 a1 a2 = some r) :
    Calls Try.prog 81 #[.agg #[.int .i64 a0_0, .slice A0_1 l0_1.length c0_1, .slice A0_2 l0_2.length c0_2], .int .i64 a1, .bool a2] w fun e w' => ∃ v0_ : Value, e = .returned (v0_) ∧ Kd.R (Kd.int .i64) 3 w' w.heap.size (fun _ => True) v0_ r ∧ Below w.heap.size w w' := by
  have hu34 := Try.underlying34
  have hu78 := Try.underlying78
  have HR0_1 := Aside0.mk hr0_1
  have HC0_1 := Aside0.mk hc0_1
  clear hr0_1 hc0_1
  have HR0_2 := Aside0.mk hr0_2
  have HC0_2 := Aside0.mk hc0_2
  clear hr0_2 hc0_2
  have HB := Aside0.mk (Below.refl w.heap.size w)
  have H : (impl_MovesFrom.l0 k a1 a2 (([] : List Int)) l0_2 (l0_2.length : Int) 0) = some r := h
  clear h
  obtain ⟨y188, hy188⟩ : ∃ y_ : List Int, y_ = (([] : List Int)) := ⟨_, rfl⟩
  replace H : (impl_MovesFrom.l0 k a1 a2 y188 l0_2 (l0_2.length : Int) 0) = some r := by first | (rw [hy188]; with_reducible exact H) | (have H2_ := (Option.bind_some _ _).symm.trans H; rw [hy188]; with_reducible exact H2_) | (have H2_ := (Option.bind_some _ _).symm.trans H; with_reducible exact H2_) | with_reducible exact H | (rw [hy188]; exact H) | exact H
  have Ny188 := Aside0.mk hy188
  clear hy188
  have H' := Aside0.mk H
  clear H
  go_enter Try.func81, Try.ntmps81
  go_wp2_with (first | ((with_reducible refine gate_dst (N := 3) rfl ?_); refine box_event ?hg (N := 3) ?hd (cs := #[.int .i64 a0_0, .slice A0_1 l0_1.length c0_1, .slice A0_2 l0_2.length c0_2]) (t := 34) ?hr ?_; (case hd => rfl); (case hg => rfl); (case hr => first | (go_simp; done) | (go_simp; rfl)); intro gb187 hg w4 hbox hb; have n0_ := Aside0.mk (below_step (pb_ HB.out) hb); have n1_ := Aside0.mk (hbox); have n2_ := Aside0.mk ((by rw [hg]; exact (below_size (pb_ HB.out)) : w.heap.size ≤ gb187)); have n3_ := Aside0.mk ((by rw [hg]; exact (below_size (pb_ HB.out)) : w.heap.size ≤ gb187)); clear HB; have HB := n0_; have BK187 := n1_; have GW187 := n2_; have GE187 := n3_; clear n0_ n1_ n2_ n3_; clear hb hbox hg) | ((with_reducible refine gate_dst (N := 10) rfl ?_); refine Kd.R_lit (Kd.int .i64) _ 3 ?hg (N := 10) ?hd (xs := ([] : List Int)) (inner := []) (ok := fun _ => True) (okp := fun _ => True) ?hr ?hp (fun _ hk => hk) trivial (Below.refl _ _) (Nat.le_refl _) (by simp) ?_; (case hd => rfl); (case hg => rfl); (case hr => first | (go_simp; done) | (go_simp; rfl)); (case hp => exact (Reps.none _ _)); intro v189 w5 ho6 hb hg_ hnew_; clear hg_ hnew_; (first | rw [← Ny188.out] at ho6 | (simp only [Int.reduceToNat] at ho6; rw [← Ny188.out] at ho6)); have _ := Aside0.mk (Kd.R_lower ho6 (below_size (pb1_ HB.out GE187.out))); have _ := Aside0.mk (bb_ BK187.out hb); have _ := Aside0.mk (below_step (pb1_ HB.out GE187.out) hb); clear BK187 HB; rename_i HO190 BK187 HB; clear hb ho6; obtain ⟨hcz7_0, hcz7_1, hcz7_2, hfz7_0, hfz7_1, hfz7_2⟩ := bc3_ BK187.out))
  (try simp only [Act.put, List.setIfInBounds_toArray, List.set_cons_zero, List.set_cons_succ])
  go_loopg [7, 14] k (fun kq v7 v14 w' => ∃ (x7_1 : List Int) (x14_1 : Int), v14 = .int .i64 x14_1 ∧ Aside0 (impl_MovesFrom.l0 kq a1 a2 x7_1 l0_2 (l0_2.length : Int) x14_1 = some r) ∧ Aside0 (kq ≤ k) ∧ Aside0 (Kd.R (Kd.int .i64) 3 w' w.heap.size (fun _ => True) v7 x7_1) ∧ Aside0 (w'.heap[gb187]? = some (.cells #[.int .i64 a0_0, (.slice A0_1 l0_1.length c0_1), (.slice A0_2 l0_2.length c0_2)] 34 (0, 0))) ∧ Aside0 (Below w.heap.size w w'))
  case atStart => exact ⟨(y188), (0), el_, H', ⟨Nat.le_refl _⟩, ⟨pr_ HO190.out⟩, ⟨pk_ BK187.out⟩, ⟨pb1_ HB.out GE187.out⟩⟩
  clear H'
  try clear p2
  try clear hcz7_0
  try clear hcz7_1
  try clear hcz7_2
  try clear hfz7_0
  try clear hfz7_1
  try clear hfz7_2
  obtain ⟨x7_1, x14_1, rfl, HA, HK1, HO_7, BK187, HB⟩ := hrel
  rcases gk with _ | k1
  · exact absurd HA.out (by simp [impl_MovesFrom.l0])
  have H := HA.out
  clear HA
  simp only [impl_MovesFrom.l0] at H
  by_cases c8 : x14_1 < (l0_2.length : Int)
  rotate_left
  · rw [if_neg c8] at H
    have c8b0 : decide (x14_1 < (l0_2.length : Int)) = false := decide_eq_false c8
    clear c8
    replace H := Option.bind_eq_some_iff.mp H
    obtain ⟨t196, A90, H⟩ := H
    (try dsimp only at H)
    have A9 := Aside0.mk A90
    clear A90
    replace H := Option.bind_eq_some_iff.mp H
    obtain ⟨t197, A100, H⟩ := H
    replace H : (some t197) = some r := H
    have A10 := Aside0.mk A100
    clear A100
    obtain rfl := Option.some.inj H
    obtain ⟨Ao11, co11, eo11⟩ := Kd.R_slice HO_7.out
    subst eo11
    go_wp2_with (first | ((with_reducible refine gate_callee (f := 95) rfl ?_); refine gl_ (some 35) Try.func95 #[.slice Ao11 x7_1.length co11] ?_; (with_reducible refine (slices_Sort_int_int.calls k1 (fun k_ => some k_ = (.slice Ao11 x7_1.length co11 : Value).ownBlock) (.slice Ao11 x7_1.length co11) x7_1 t196 w _ ?side1 ?side2 A9.out).mono ?_); (case side1 => repeat (first | (with_reducible first | exact HB.out | apply below_alloc | apply pw_below_drewN | apply below_drew1 | refine below_set ?_ GE187.out) | exact HB.out)); (case side2 => exact Kd.R_tight rfl HO_7.out); rintro e w12 ⟨rfl, hy0, hb, hkp⟩; refine ⟨_, rfl, ?_⟩; have _ := Aside0.mk (Kd.R_reok rfl hy0 (fun k_ e_ => HO_7.out.1 k_ e_)); have _ := Aside0.mk (blk_kept (pk_ BK187.out) hkp (fun hs_ => (fun e_ => (Kd.R_ne HO_7.out BK187.out (by decide)) e_) hs_)); have _ := Aside0.mk (hb); clear HO_7 BK187 HB; rename_i HO_7 BK187 HB; (try clear hb); (try clear hkp); (try clear hy0)) | ((with_reducible refine gate_callee (f := 96) rfl ?_); refine gl_ (some 37) Try.func96 #[.slice Ao11 x7_1.length co11] ?_; (with_reducible refine (slices_Compact_int_int.calls k1 (fun k_ => some k_ = (.slice Ao11 x7_1.length co11 : Value).ownBlock) (.slice Ao11 x7_1.length co11) t196 t197 w _ ?side1 ?side2 A10.out).mono ?_); (case side1 => repeat (first | (with_reducible first | exact HB.out | apply below_alloc | apply pw_below_drewN | apply below_drew1 | refine below_set ?_ GE187.out) | exact HB.out)); (case side2 => exact Kd.R_tight rfl HO_7.out); rintro e w13 ⟨v198, rfl, ho0, hb, hkp⟩; refine ⟨_, rfl, ?_⟩; have _ := Aside0.mk (blk_kept (pk_ BK187.out) hkp (fun hs_ => (fun e_ => (Kd.R_ne HO_7.out BK187.out (by decide)) e_) hs_)); have _ := Aside0.mk (Kd.R_mono (ok' := fun k_ => True) ho0 (fun k_ hk_ => trivial)); have _ := Aside0.mk (hb); clear BK187 HB HO_7; rename_i BK187 HO199 HB; (try clear hb); (try clear hkp); (try clear ho0)))
    go_ret
    exact ⟨_, er_, pr_ HO199.out, pb1_ HB.out GE187.out⟩
  rw [if_pos c8] at H
  have c8b0 : decide (x14_1 < (l0_2.length : Int)) = true := decide_eq_true c8
  clear c8
  by_cases c14 : 0 ≤ x14_1
  rotate_left
  · rw [if_neg c14] at H
    exact absurd H (by simp)
  rw [if_pos c14] at H
  have c14b0 : decide (0 ≤ x14_1) = true := decide_eq_true c14
  clear c14
  by_cases c15 : x14_1 < (l0_2.length : Int)
  rotate_left
  · rw [if_neg c15] at H
    exact absurd H (by simp)
  rw [if_pos c15] at H
  have c15b0 : decide (x14_1 < (l0_2.length : Int)) = true := decide_eq_true c15
  clear c15
  have HS_ := Aside0.mk H
  clear H
  have p191 : 0 ≤ (x14_1 : Int) := dt_
  have q191 : x14_1 < (l0_2.length : Int) := dt_
  obtain ⟨ad191, e191, hx191_0, hx191_1, hx191_2, hx191_3⟩ := at_T78 HR0_2.out x14_1 p191 q191
  cases e191
  replace hx191_0 := bt_ HB hx191_0
  replace hx191_1 := bt_ HB hx191_1
  replace hx191_2 := bt_ HB hx191_2
  replace hx191_3 := bt_ HB hx191_3
  replace p191 := eq_true p191
  replace q191 := eq_true q191
  go_upto_region 5 with (first | ((with_reducible refine gate_dst (N := 9) rfl ?_); refine box_event ?hg (N := 9) ?hd (cs := #[.int .i64 0, .bool false, .int .i64 0, .int .i64 0]) (t := 78) ?hr ?_; (case hd => rfl); (case hg => rfl); (case hr => first | (go_simp; done) | (go_simp; rfl)); intro gb192 hg w16 hbox hb; have n0_ := Aside0.mk (Kd.R_below (pr_ HO_7.out) hb); have n1_ := Aside0.mk (bb_ BK187.out hb); have n2_ := Aside0.mk (below_step (pb1_ HB.out GE187.out) hb); have n3_ := Aside0.mk (hbox); have n4_ := Aside0.mk ((by rw [hg]; exact (below_size (pb1_ HB.out GE187.out)) : w.heap.size ≤ gb192)); have n5_ := Aside0.mk ((by rw [hg]; exact (below_size (pb1_ HB.out GE187.out)) : w.heap.size ≤ gb192)); have n6_ := Aside0.mk ((by rw [hg]; exact Nat.ne_of_lt (blk_lt (pk_ BK187.out)) : gb187 ≠ gb192)); have n7_ := Aside0.mk ((by rw [hg]; exact Nat.ne_of_gt (blk_lt (pk_ BK187.out)) : gb192 ≠ gb187)); clear HO_7; clear BK187; clear HB; have HO_7 := n0_; have BK187 := n1_; have HB := n2_; have BK192 := n3_; have GW192 := n4_; have GE192 := n5_; have NB187_192 := n6_; have NB192_187 := n7_; clear n0_ n1_ n2_ n3_ n4_ n5_ n6_ n7_; clear hb hbox hg; have hnb17 := NB192_187.out; have hnc17 := NB187_192.out; obtain ⟨hcz18_0, hcz18_1, hcz18_2, hcz18_3, hfz18_0, hfz18_1, hfz18_2, hfz18_3⟩ := bc4_ BK192.out))
  (try simp only [Act.put, List.setIfInBounds_toArray, List.set_cons_zero, List.set_cons_succ])
  have H := HS_.out
  clear HS_
  by_cases c19 : ((rd_T78 l0_2 x14_1).f0) = a1
  rotate_left
  · rw [if_neg c19] at H
    have c19b0 : (((rd_T78 l0_2 x14_1).f0) == a1) = false := beq_eq_false_iff_ne.mpr c19
    have c19b1 : (((rd_T78 l0_2 x14_1).f0) != a1) = true := bne_iff_ne.mpr c19
    (first | rw [c19b0] | (simp only [i64_w, i32_w]; rw [c19b0]) | rw [c19b1] | (have c_ := c19b1; rw [bne] at c_; rw [c_]; clear c_) | skip)
    have H' := Aside0.mk H
    clear H
    have hnb20 := NB192_187.out
    have hnc20 := NB187_192.out
    obtain ⟨hcz21_0, hcz21_1, hcz21_2, hcz21_3, hfz21_0, hfz21_1, hfz21_2, hfz21_3⟩ := bc4_ BK192.out
    go_wp2
    go_roundg k1
    case measure => have := HK1.out; omega
    case rel => exact ⟨(x7_1), (wrap64 (x14_1 + 1)), el_, H', ⟨by have := HK1.out; omega⟩, ⟨pr_ (Kd.R_mono (rf4_ HO_7.out BK192.out) (fun _ hk => trivial))⟩, ⟨pp_ BK187.out⟩, ⟨pb2_ HB.out GE187.out GE192.out⟩⟩
  rw [if_pos c19] at H
  have c19b0 : (((rd_T78 l0_2 x14_1).f0) == a1) = true := beq_iff_eq.mpr c19
  have c19b1 : (((rd_T78 l0_2 x14_1).f0) != a1) = false := bne_eq_false_iff_eq.mpr c19
  clear c19
  (first | rw [c19b0] | (simp only [i64_w, i32_w]; rw [c19b0]) | rw [c19b1] | (have c_ := c19b1; rw [bne] at c_; rw [c_]; clear c_) | skip)
  by_cases c22 : (((rd_T78 l0_2 x14_1).f1) == a2) = true
  rotate_left
  · rw [if_neg c22] at H
    have c22b0 : (((rd_T78 l0_2 x14_1).f1) == a2) = false := by simpa using c22
    (try (have c22b1 : decide (((rd_T78 l0_2 x14_1).f1) = a2) = false := by simpa using c22))
    (try (have c22b2 : (((rd_T78 l0_2 x14_1).f1) == a2) = false := by simpa using c22))
    (try (have c22b3 : ¬ (((rd_T78 l0_2 x14_1).f1) = a2) := by simpa using c22))
    clear c22
    have H' := Aside0.mk H
    clear H
    have hnb23 := NB192_187.out
    have hnc23 := NB187_192.out
    obtain ⟨hcz24_0, hcz24_1, hcz24_2, hcz24_3, hfz24_0, hfz24_1, hfz24_2, hfz24_3⟩ := bc4_ BK192.out
    go_wp2
    go_roundg k1
    case measure => have := HK1.out; omega
    case rel => exact ⟨(x7_1), (wrap64 (x14_1 + 1)), el_, H', ⟨by have := HK1.out; omega⟩, ⟨pr_ (Kd.R_mono (rf4_ HO_7.out BK192.out) (fun _ hk => trivial))⟩, ⟨pp_ BK187.out⟩, ⟨pb2_ HB.out GE187.out GE192.out⟩⟩
  rw [if_pos c22] at H
  have c22b0 : (((rd_T78 l0_2 x14_1).f1) == a2) = true := c22
  (try (have c22b1 : decide (((rd_T78 l0_2 x14_1).f1) = a2) = true := by simpa using c22))
  (try (have c22b2 : (((rd_T78 l0_2 x14_1).f1) == a2) = true := by simpa using c22))
  clear c22
  by_cases c25 : x7_1.length < 17592186044416
  rotate_left
  · rw [if_neg c25] at H
    exact absurd H (by simp)
  rw [if_pos c25] at H
  have LMc25 := Aside0.mk c25
  clear c25
  obtain ⟨y193, hy193⟩ : ∃ y_ : List Int, y_ = (x7_1 ++ [(rd_T78 l0_2 x14_1).f2]) := ⟨_, rfl⟩
  replace H : (impl_MovesFrom.l0 k1 a1 a2 y193 l0_2 (l0_2.length : Int) (wrap64 (x14_1 + 1))) = some r := by first | (rw [hy193]; with_reducible exact H) | (have H2_ := (Option.bind_some _ _).symm.trans H; rw [hy193]; with_reducible exact H2_) | (have H2_ := (Option.bind_some _ _).symm.trans H; with_reducible exact H2_) | with_reducible exact H | (rw [hy193]; exact H) | exact H
  have Ny193 := Aside0.mk hy193
  clear hy193
  have H' := Aside0.mk H
  clear H
  have hnb26 := NB192_187.out
  have hnc26 := NB187_192.out
  obtain ⟨hcz27_0, hcz27_1, hcz27_2, hcz27_3, hfz27_0, hfz27_1, hfz27_2, hfz27_3⟩ := bc4_ BK192.out
  go_wp2_with (first | ((with_reducible refine gate_builtin (b := .append) (xs := #[.tmp 28, .tmp 31]) rfl ?_); at_builtin; refine Kd.R_append (Kd.int .i64) (w0 := w) w.heap.size rfl (.tmp 28) (.tmp 31) 39 3 (.int .i64 0) 8 rfl Try.underlying39 info3 rfl (by decide) (by omega) u7 x7_1 ((rd_T78 l0_2 x14_1).f2) [.int .i64 ((rd_T78 l0_2 x14_1).f2)] (fun _ => True) (fun _ => False) rfl (by first | (go_simp; done) | (go_simp; rfl)) ?aP (fun _ hk => hk.elim) ?aF ?aO ?aB ?aS ?aL ?_; (case aP => exact rfl); (case aB => exact (pb2_ HB.out GE187.out GE192.out)); (case aF => exact (fun _ _ => trivial)); (case aO => exact (pr_ (Kd.R_mono (rf4_ HO_7.out BK192.out) (fun _ hk => trivial)))); (case aS => exact (below_size (pb2_ HB.out GE187.out GE192.out))); (case aL => have := LMc25.out; omega); intro v194 w28 ho hb hg hat; rw [← Ny193.out] at ho; have _ := Aside0.mk (blk_grown (g := gb187) (o := .cells #[.int .i64 a0_0, .slice A0_1 l0_1.length c0_1, .slice (some ad191) l0_2.length c0_2] 34 (0, 0)) (pp_ BK187.out) hg (Kd.R_ne HO_7.out BK187.out (by decide))); have _ := Aside0.mk (blk_grown (g := gb192) (o := .cells #[.int .i64 ((rd_T78 l0_2 x14_1).f0), .bool ((rd_T78 l0_2 x14_1).f1), .int .i64 ((rd_T78 l0_2 x14_1).f2), .int .i64 ((rd_T78 l0_2 x14_1).f3)] 78 (0, 0)) (pp_ BK192.out) hg (Kd.R_ne HO_7.out BK192.out (by decide))); have _ := Aside0.mk (hb); have _ := Aside0.mk (ho); clear BK187 BK192 HB HO_7; rename_i BK187 BK192 HB HO195; clear ho hb hg hat))
  go_roundg k1
  case measure => have := HK1.out; omega
  case rel => exact ⟨(y193), (wrap64 (x14_1 + 1)), el_, H', ⟨by have := HK1.out; omega⟩, ⟨pr_ HO195.out⟩, ⟨pk_ BK187.out⟩, ⟨pb2_ HB.out GE187.out GE192.out⟩⟩

/-! ### impl_MoveOf_1: function 100001 -/
def impl_MoveOf_1.f (a0_0 : Int) (a0_1 : Bool) (a0_2 : Int) (a0_3 : Int) (a1_0 : Int) (a2_0 : Bool) (a3_0 : Int) : Option (Bool) := if a0_0 = a1_0 then (if a0_1 = true then (if a2_0 = true then (some (a0_2 == a3_0)) else (some false)) else (if a2_0 = true then (some false) else (some (a0_2 == a3_0)))) else (some false)
set_option maxHeartbeats 8000000 in
set_option maxRecDepth 100000 in
theorem impl_MoveOf_1.calls (a0_0 : Int) (a0_1 : Bool) (a0_2 : Int) (a0_3 : Int) (B1 : Nat) (a1_0 : Int) (B2 : Nat) (a2_0 : Bool) (B3 : Nat) (a3_0 : Int) (r : Bool) (w : World) (hbv1 : w.heap[B1]? = some (.cells #[.int .i64 a1_0] 3 (0, 0))) (hbv2 : w.heap[B2]? = some (.cells #[.bool a2_0] 4 (0, 0))) (hnv1_2 : B1 ≠ B2) (hbv3 : w.heap[B3]? = some (.cells #[.int .i64 a3_0] 3 (0, 0))) (hnv1_3 : B1 ≠ B3) (hnv2_3 : B2 ≠ B3) (h : impl_MoveOf_1.f a0_0 a0_1 a0_2 a0_3 a1_0 a2_0 a3_0 = some r) :
    Calls Try.prog 100 #[.agg #[.int .i64 a0_0, .bool a0_1, .int .i64 a0_2, .int .i64 a0_3], .pointer (some ⟨B1, 0, none⟩), .pointer (some ⟨B2, 0, none⟩), .pointer (some ⟨B3, 0, none⟩)] w fun e w' => e = .returned (.bool r) ∧ Below w.heap.size w w' := by
  have hu78 := Try.underlying78
  have BK1 := Aside0.mk hbv1
  clear hbv1
  have BK2 := Aside0.mk hbv2
  clear hbv2
  have NB1_2 := Aside0.mk hnv1_2
  have NB2_1 := Aside0.mk (Ne.symm hnv1_2)
  clear hnv1_2
  have BK3 := Aside0.mk hbv3
  clear hbv3
  have NB1_3 := Aside0.mk hnv1_3
  have NB3_1 := Aside0.mk (Ne.symm hnv1_3)
  clear hnv1_3
  have NB2_3 := Aside0.mk hnv2_3
  have NB3_2 := Aside0.mk (Ne.symm hnv2_3)
  clear hnv2_3
  have HB := Aside0.mk (Below.refl w.heap.size w)
  have H : (if a0_0 = a1_0 then (if a0_1 = true then (if a2_0 = true then (some (a0_2 == a3_0)) else (some false)) else (if a2_0 = true then (some false) else (some (a0_2 == a3_0)))) else (some false)) = some r := h
  clear h
  have HS_ := Aside0.mk H
  clear H
  go_enter Try.func100, Try.ntmps100
  go_upto_region 1 with (first | ((with_reducible refine gate_dst (N := 4) rfl ?_); refine box_event ?hg (N := 4) ?hd (cs := #[.int .i64 a0_0, .bool a0_1, .int .i64 a0_2, .int .i64 a0_3]) (t := 78) ?hr ?_; (case hd => rfl); (case hg => rfl); (case hr => first | (go_simp; done) | (go_simp; rfl)); intro gb200 hg w5 hbox hb; have n0_ := Aside0.mk (bb_ BK1.out hb); have n1_ := Aside0.mk (bb_ BK2.out hb); have n2_ := Aside0.mk (bb_ BK3.out hb); have n3_ := Aside0.mk (below_step (pb_ HB.out) hb); have n4_ := Aside0.mk (hbox); have n5_ := Aside0.mk ((by rw [hg]; exact (below_size (pb_ HB.out)) : w.heap.size ≤ gb200)); have n6_ := Aside0.mk ((by rw [hg]; exact (below_size (pb_ HB.out)) : w.heap.size ≤ gb200)); have n7_ := Aside0.mk ((by rw [hg]; exact Nat.ne_of_lt (blk_lt (pk_ BK1.out)) : B1 ≠ gb200)); have n8_ := Aside0.mk ((by rw [hg]; exact Nat.ne_of_gt (blk_lt (pk_ BK1.out)) : gb200 ≠ B1)); have n9_ := Aside0.mk ((by rw [hg]; exact Nat.ne_of_lt (blk_lt (pk_ BK2.out)) : B2 ≠ gb200)); have n10_ := Aside0.mk ((by rw [hg]; exact Nat.ne_of_gt (blk_lt (pk_ BK2.out)) : gb200 ≠ B2)); have n11_ := Aside0.mk ((by rw [hg]; exact Nat.ne_of_lt (blk_lt (pk_ BK3.out)) : B3 ≠ gb200)); have n12_ := Aside0.mk ((by rw [hg]; exact Nat.ne_of_gt (blk_lt (pk_ BK3.out)) : gb200 ≠ B3)); clear BK1; clear BK2; clear BK3; clear HB; have BK1 := n0_; have BK2 := n1_; have BK3 := n2_; have HB := n3_; have BK200 := n4_; have GW200 := n5_; have GE200 := n6_; have NB1_200 := n7_; have NB200_1 := n8_; have NB2_200 := n9_; have NB200_2 := n10_; have NB3_200 := n11_; have NB200_3 := n12_; clear n0_ n1_ n2_ n3_ n4_ n5_ n6_ n7_ n8_ n9_ n10_ n11_ n12_; clear hb hbox hg))
  (try simp only [Act.put, List.setIfInBounds_toArray, List.set_cons_zero, List.set_cons_succ])
  have H := HS_.out
  clear HS_
  by_cases c6 : a0_0 = a1_0
  rotate_left
  · rw [if_neg c6] at H
    have c6b0 : (a0_0 == a1_0) = false := beq_eq_false_iff_ne.mpr c6
    have c6b1 : (a0_0 != a1_0) = true := bne_iff_ne.mpr c6
    (first | rw [c6b0] | (simp only [i64_w, i32_w]; rw [c6b0]) | rw [c6b1] | (have c_ := c6b1; rw [bne] at c_; rw [c_]; clear c_) | skip)
    obtain rfl := Option.some.inj H
    have hnb7 := NB200_1.out
    have hnc7 := NB1_200.out
    have hnb8 := NB200_2.out
    have hnc8 := NB2_200.out
    have hnb9 := NB200_3.out
    have hnc9 := NB3_200.out
    obtain ⟨hcz10_0, hcz10_1, hcz10_2, hcz10_3, hfz10_0, hfz10_1, hfz10_2, hfz10_3⟩ := bc4_ BK200.out
    have hnb11 := NB1_2.out
    have hnc11 := NB2_1.out
    have hnb12 := NB1_3.out
    have hnc12 := NB3_1.out
    have hcz13_0 : w5.cell? ⟨B1, 0, none⟩ = some (.int .i64 a1_0) := (blk_cell BK1.out 0).trans rfl
    have hfz13_0 := blk_frozen BK1.out 0
    go_wp2
    go_ret
    exact ⟨er_, pb1_ HB.out GE200.out⟩
  rw [if_pos c6] at H
  have c6b0 : (a0_0 == a1_0) = true := beq_iff_eq.mpr c6
  have c6b1 : (a0_0 != a1_0) = false := bne_eq_false_iff_eq.mpr c6
  clear c6
  (first | rw [c6b0] | (simp only [i64_w, i32_w]; rw [c6b0]) | rw [c6b1] | (have c_ := c6b1; rw [bne] at c_; rw [c_]; clear c_) | skip)
  by_cases c14 : a0_1 = true
  rotate_left
  · replace c14 := Bool.eq_false_iff.mpr c14
    subst c14
    rw [if_neg (show ¬ (false = true) by decide)] at H
    by_cases c15 : a2_0 = true
    · subst c15
      rw [if_pos rfl] at H
      obtain rfl := Option.some.inj H
      have hnb16 := NB200_1.out
      have hnc16 := NB1_200.out
      have hnb17 := NB200_2.out
      have hnc17 := NB2_200.out
      have hnb18 := NB200_3.out
      have hnc18 := NB3_200.out
      obtain ⟨hcz19_0, hcz19_1, hcz19_2, hcz19_3, hfz19_0, hfz19_1, hfz19_2, hfz19_3⟩ := bc4_ BK200.out
      have hnb20 := NB1_2.out
      have hnc20 := NB2_1.out
      have hnb21 := NB1_3.out
      have hnc21 := NB3_1.out
      have hcz22_0 : w5.cell? ⟨B1, 0, none⟩ = some (.int .i64 a1_0) := (blk_cell BK1.out 0).trans rfl
      have hfz22_0 := blk_frozen BK1.out 0
      have hnb23 := NB2_3.out
      have hnc23 := NB3_2.out
      have hcz24_0 : w5.cell? ⟨B2, 0, none⟩ = some (.bool true) := (blk_cell BK2.out 0).trans rfl
      have hfz24_0 := blk_frozen BK2.out 0
      go_wp2
      go_ret
      exact ⟨er_, pb1_ HB.out GE200.out⟩
    replace c15 := Bool.eq_false_iff.mpr c15
    subst c15
    rw [if_neg (show ¬ (false = true) by decide)] at H
    obtain rfl := Option.some.inj H
    have hnb25 := NB200_1.out
    have hnc25 := NB1_200.out
    have hnb26 := NB200_2.out
    have hnc26 := NB2_200.out
    have hnb27 := NB200_3.out
    have hnc27 := NB3_200.out
    obtain ⟨hcz28_0, hcz28_1, hcz28_2, hcz28_3, hfz28_0, hfz28_1, hfz28_2, hfz28_3⟩ := bc4_ BK200.out
    have hnb29 := NB1_2.out
    have hnc29 := NB2_1.out
    have hnb30 := NB1_3.out
    have hnc30 := NB3_1.out
    have hcz31_0 : w5.cell? ⟨B1, 0, none⟩ = some (.int .i64 a1_0) := (blk_cell BK1.out 0).trans rfl
    have hfz31_0 := blk_frozen BK1.out 0
    have hnb32 := NB2_3.out
    have hnc32 := NB3_2.out
    have hcz33_0 : w5.cell? ⟨B2, 0, none⟩ = some (.bool false) := (blk_cell BK2.out 0).trans rfl
    have hfz33_0 := blk_frozen BK2.out 0
    have hcz34_0 : w5.cell? ⟨B3, 0, none⟩ = some (.int .i64 a3_0) := (blk_cell BK3.out 0).trans rfl
    have hfz34_0 := blk_frozen BK3.out 0
    go_wp2
    go_ret
    exact ⟨er_, pb1_ HB.out GE200.out⟩
  subst c14
  rw [if_pos rfl] at H
  by_cases c35 : a2_0 = true
  rotate_left
  · replace c35 := Bool.eq_false_iff.mpr c35
    subst c35
    rw [if_neg (show ¬ (false = true) by decide)] at H
    obtain rfl := Option.some.inj H
    have hnb36 := NB200_1.out
    have hnc36 := NB1_200.out
    have hnb37 := NB200_2.out
    have hnc37 := NB2_200.out
    have hnb38 := NB200_3.out
    have hnc38 := NB3_200.out
    obtain ⟨hcz39_0, hcz39_1, hcz39_2, hcz39_3, hfz39_0, hfz39_1, hfz39_2, hfz39_3⟩ := bc4_ BK200.out
    have hnb40 := NB1_2.out
    have hnc40 := NB2_1.out
    have hnb41 := NB1_3.out
    have hnc41 := NB3_1.out
    have hcz42_0 : w5.cell? ⟨B1, 0, none⟩ = some (.int .i64 a1_0) := (blk_cell BK1.out 0).trans rfl
    have hfz42_0 := blk_frozen BK1.out 0
    have hnb43 := NB2_3.out
    have hnc43 := NB3_2.out
    have hcz44_0 : w5.cell? ⟨B2, 0, none⟩ = some (.bool false) := (blk_cell BK2.out 0).trans rfl
    have hfz44_0 := blk_frozen BK2.out 0
    go_wp2
    go_ret
    exact ⟨er_, pb1_ HB.out GE200.out⟩
  subst c35
  rw [if_pos rfl] at H
  obtain rfl := Option.some.inj H
  have hnb45 := NB200_1.out
  have hnc45 := NB1_200.out
  have hnb46 := NB200_2.out
  have hnc46 := NB2_200.out
  have hnb47 := NB200_3.out
  have hnc47 := NB3_200.out
  obtain ⟨hcz48_0, hcz48_1, hcz48_2, hcz48_3, hfz48_0, hfz48_1, hfz48_2, hfz48_3⟩ := bc4_ BK200.out
  have hnb49 := NB1_2.out
  have hnc49 := NB2_1.out
  have hnb50 := NB1_3.out
  have hnc50 := NB3_1.out
  have hcz51_0 : w5.cell? ⟨B1, 0, none⟩ = some (.int .i64 a1_0) := (blk_cell BK1.out 0).trans rfl
  have hfz51_0 := blk_frozen BK1.out 0
  have hnb52 := NB2_3.out
  have hnc52 := NB3_2.out
  have hcz53_0 : w5.cell? ⟨B2, 0, none⟩ = some (.bool true) := (blk_cell BK2.out 0).trans rfl
  have hfz53_0 := blk_frozen BK2.out 0
  have hcz54_0 : w5.cell? ⟨B3, 0, none⟩ = some (.int .i64 a3_0) := (blk_cell BK3.out 0).trans rfl
  have hfz54_0 := blk_frozen BK3.out 0
  go_wp2
  go_ret
  exact ⟨er_, pb1_ HB.out GE200.out⟩

/-! ### slices_IndexFunc_impl_Move_impl_Move_with_impl_MoveOf_1: function 100000 -/
def slices_IndexFunc_impl_Move_impl_Move_with_impl_MoveOf_1.l0 : Nat → List (S78) → Int → Int → Int → Bool → Int → Option (Int)
  | 0, _, _, _, _, _, _ => none
  | k + 1, x0, x7, x8, x2000, x3000, x4000 => if x8 < x7 then (if 0 ≤ x8 then (if x8 < (x0.length : Int) then ((impl_MoveOf_1.f ((rd_T78 x0 x8).f0) ((rd_T78 x0 x8).f1) ((rd_T78 x0 x8).f2) ((rd_T78 x0 x8).f3) x2000 x3000 x4000).bind fun t202 => (if t202 = true then (some x8) else (slices_IndexFunc_impl_Move_impl_Move_with_impl_MoveOf_1.l0 k x0 x7 (wrap64 (x8 + 1)) x2000 x3000 x4000))) else (none)) else (none)) else (some (-1))
def slices_IndexFunc_impl_Move_impl_Move_with_impl_MoveOf_1.f (k : Nat) (l0 : List (S78)) (a1_0 : Int) (a2_0 : Bool) (a3_0 : Int) : Option (Int) := slices_IndexFunc_impl_Move_impl_Move_with_impl_MoveOf_1.l0 k l0 (l0.length : Int) 0 a1_0 a2_0 a3_0
theorem slices_IndexFunc_impl_Move_impl_Move_with_impl_MoveOf_1.mono_l : ∀ k, (∀ y0 y1 y2 y3 y4 y5, LeO (slices_IndexFunc_impl_Move_impl_Move_with_impl_MoveOf_1.l0 k y0 y1 y2 y3 y4 y5) (slices_IndexFunc_impl_Move_impl_Move_with_impl_MoveOf_1.l0 (k + 1) y0 y1 y2 y3 y4 y5))
  | 0 => fun _ _ _ _ _ _ r h => by simp [slices_IndexFunc_impl_Move_impl_Move_with_impl_MoveOf_1.l0] at h
  | k + 1 => by
    have ih0 := slices_IndexFunc_impl_Move_impl_Move_with_impl_MoveOf_1.mono_l k
    · intro y0 y1 y2 y3 y4 y5
      unfold slices_IndexFunc_impl_Move_impl_Move_with_impl_MoveOf_1.l0
      repeat' first
      | (with_reducible exact ih0 _ _ _ _ _ _)
      | (with_reducible exact LeO.refl _)
      | (with_reducible exact LeO.none _)
      | (with_reducible refine LeO.ite ?_ ?_)
      | (with_reducible refine LeO.bind ?_ (fun _ => ?_))
      | exact ih0 _ _ _ _ _ _
      | exact LeO.none _
      | refine LeO.ite ?_ ?_
      | refine LeO.bind ?_ (fun _ => ?_)
theorem slices_IndexFunc_impl_Move_impl_Move_with_impl_MoveOf_1.mono : ∀ a0 a1 a2 a3 k, LeO (slices_IndexFunc_impl_Move_impl_Move_with_impl_MoveOf_1.f k a0 a1 a2 a3) (slices_IndexFunc_impl_Move_impl_Move_with_impl_MoveOf_1.f (k + 1) a0 a1 a2 a3) := by
  intro a0 a1 a2 a3 k
  have ih0 := slices_IndexFunc_impl_Move_impl_Move_with_impl_MoveOf_1.mono_l k
  unfold slices_IndexFunc_impl_Move_impl_Move_with_impl_MoveOf_1.f
  repeat' first
      | (with_reducible exact ih0 _ _ _ _ _ _)
      | (with_reducible exact LeO.refl _)
      | (with_reducible exact LeO.none _)
      | (with_reducible refine LeO.ite ?_ ?_)
      | (with_reducible refine LeO.bind ?_ (fun _ => ?_))
      | exact ih0 _ _ _ _ _ _
      | exact LeO.none _
      | refine LeO.ite ?_ ?_
      | refine LeO.bind ?_ (fun _ => ?_)
set_option maxHeartbeats 8000000 in
set_option maxRecDepth 100000 in
theorem slices_IndexFunc_impl_Move_impl_Move_with_impl_MoveOf_1.calls (k : Nat) (A0 : Option Addr) (c0 : Nat) (l0 : List (S78)) (B1 : Nat) (a1_0 : Int) (B2 : Nat) (a2_0 : Bool) (B3 : Nat) (a3_0 : Int) (r : Int) (w : World) (hr0 : Kd.C k78 w A0 l0.length l0) (hc0 : l0.length ≤ c0) (hbv1 : w.heap[B1]? = some (.cells #[.int .i64 a1_0] 3 (0, 0))) (hbv2 : w.heap[B2]? = some (.cells #[.bool a2_0] 4 (0, 0))) (hnv1_2 : B1 ≠ B2) (hbv3 : w.heap[B3]? = some (.cells #[.int .i64 a3_0] 3 (0, 0))) (hnv1_3 : B1 ≠ B3) (hnv2_3 : B2 ≠ B3) (h : slices_IndexFunc_impl_Move_impl_Move_with_impl_MoveOf_1.f k l0 a1_0 a2_0 a3_0 = some r) :
    Calls Try.prog 99 #[.slice A0 l0.length c0, .func (.func 100) #[] #[.pointer (some ⟨B1, 0, none⟩), .pointer (some ⟨B2, 0, none⟩), .pointer (some ⟨B3, 0, none⟩)]] w fun e w' => e = .returned (.int .i64 r) ∧ Below w.heap.size w w' := by
  have hu78 := Try.underlying78
  have HR0 := Aside0.mk hr0
  have HC0 := Aside0.mk hc0
  clear hr0 hc0
  have BK1 := Aside0.mk hbv1
  clear hbv1
  have BK2 := Aside0.mk hbv2
  clear hbv2
  have NB1_2 := Aside0.mk hnv1_2
  have NB2_1 := Aside0.mk (Ne.symm hnv1_2)
  clear hnv1_2
  have BK3 := Aside0.mk hbv3
  clear hbv3
  have NB1_3 := Aside0.mk hnv1_3
  have NB3_1 := Aside0.mk (Ne.symm hnv1_3)
  clear hnv1_3
  have NB2_3 := Aside0.mk hnv2_3
  have NB3_2 := Aside0.mk (Ne.symm hnv2_3)
  clear hnv2_3
  have HB := Aside0.mk (Below.refl w.heap.size w)
  have H : (slices_IndexFunc_impl_Move_impl_Move_with_impl_MoveOf_1.l0 k l0 (l0.length : Int) 0 a1_0 a2_0 a3_0) = some r := h
  clear h
  have H' := Aside0.mk H
  clear H
  go_enter Try.func99, Try.ntmps99
  go_wp2
  go_loopg [8] k (fun kq v8 w' => ∃ (x8_1 : Int), v8 = .int .i64 x8_1 ∧ Aside0 (slices_IndexFunc_impl_Move_impl_Move_with_impl_MoveOf_1.l0 kq l0 (l0.length : Int) x8_1 a1_0 a2_0 a3_0 = some r) ∧ Aside0 (kq ≤ k) ∧ Aside0 (w'.heap[B1]? = some (.cells #[.int .i64 a1_0] 3 (0, 0))) ∧ Aside0 (w'.heap[B2]? = some (.cells #[.bool a2_0] 4 (0, 0))) ∧ Aside0 (w'.heap[B3]? = some (.cells #[.int .i64 a3_0] 3 (0, 0))) ∧ Aside0 (Below w.heap.size w w'))
  case atStart => exact ⟨(0), el_, H', ⟨Nat.le_refl _⟩, ⟨pk_ BK1.out⟩, ⟨pk_ BK2.out⟩, ⟨pk_ BK3.out⟩, ⟨pb_ HB.out⟩⟩
  clear H'
  try clear p2
  obtain ⟨x8_1, rfl, HA, HK1, BK1, BK2, BK3, HB⟩ := hrel
  rcases gk with _ | k1
  · exact absurd HA.out (by simp [slices_IndexFunc_impl_Move_impl_Move_with_impl_MoveOf_1.l0])
  have H := HA.out
  clear HA
  simp only [slices_IndexFunc_impl_Move_impl_Move_with_impl_MoveOf_1.l0] at H
  by_cases c5 : x8_1 < (l0.length : Int)
  rotate_left
  · rw [if_neg c5] at H
    have c5b0 : decide (x8_1 < (l0.length : Int)) = false := decide_eq_false c5
    clear c5
    obtain rfl := Option.some.inj H
    go_wp2
    go_ret
    exact ⟨er_, pb_ HB.out⟩
  rw [if_pos c5] at H
  have c5b0 : decide (x8_1 < (l0.length : Int)) = true := decide_eq_true c5
  clear c5
  by_cases c6 : 0 ≤ x8_1
  rotate_left
  · rw [if_neg c6] at H
    exact absurd H (by simp)
  rw [if_pos c6] at H
  have c6b0 : decide (0 ≤ x8_1) = true := decide_eq_true c6
  clear c6
  by_cases c7 : x8_1 < (l0.length : Int)
  rotate_left
  · rw [if_neg c7] at H
    exact absurd H (by simp)
  rw [if_pos c7] at H
  have c7b0 : decide (x8_1 < (l0.length : Int)) = true := decide_eq_true c7
  clear c7
  replace H := Option.bind_eq_some_iff.mp H
  obtain ⟨t202, A80, H⟩ := H
  (try dsimp only at H)
  have A8 := Aside0.mk A80
  clear A80
  have HS_ := Aside0.mk H
  clear H
  have p201 : 0 ≤ (x8_1 : Int) := dt_
  have q201 : x8_1 < (l0.length : Int) := dt_
  obtain ⟨ad201, e201, hx201_0, hx201_1, hx201_2, hx201_3⟩ := at_T78 HR0.out x8_1 p201 q201
  cases e201
  replace hx201_0 := bt_ HB hx201_0
  replace hx201_1 := bt_ HB hx201_1
  replace hx201_2 := bt_ HB hx201_2
  replace hx201_3 := bt_ HB hx201_3
  replace p201 := eq_true p201
  replace q201 := eq_true q201
  go_upto_if 16 with (first | (go_at_call 100; (with_reducible refine (impl_MoveOf_1.calls ((rd_T78 l0 x8_1).f0) ((rd_T78 l0 x8_1).f1) ((rd_T78 l0 x8_1).f2) ((rd_T78 l0 x8_1).f3) _ a1_0 _ a2_0 _ a3_0 t202 _ ?side1 ?side2 ?side3 ?side4 ?side5 ?side6 A8.out).mono ?_); (case side1 => exact pk_ BK1.out); (case side2 => exact pk_ BK2.out); (case side3 => exact NB1_2.out); (case side4 => exact pk_ BK3.out); (case side5 => exact NB1_3.out); (case side6 => exact NB2_3.out); rintro e w9 ⟨rfl, hb⟩; have _ := Aside0.mk (bb_ BK1.out hb); have _ := Aside0.mk (bb_ BK2.out hb); have _ := Aside0.mk (bb_ BK3.out hb); have _ := Aside0.mk (below_step (pb_ HB.out) hb); clear BK1 BK2 BK3 HB; rename_i BK1 BK2 BK3 HB; (try clear hb); (try clear hb2); (try clear hk); (try clear hi)))
  (try simp only [Act.put, List.setIfInBounds_toArray, List.set_cons_zero, List.set_cons_succ])
  have H := HS_.out
  clear HS_
  by_cases c10 : t202 = true
  rotate_left
  · replace c10 := Bool.eq_false_iff.mpr c10
    subst c10
    rw [if_neg (show ¬ (false = true) by decide)] at H
    have H' := Aside0.mk H
    clear H
    go_wp2
    go_roundg k1
    case measure => have := HK1.out; omega
    case rel => exact ⟨(wrap64 (x8_1 + 1)), el_, H', ⟨by have := HK1.out; omega⟩, ⟨pk_ BK1.out⟩, ⟨pk_ BK2.out⟩, ⟨pk_ BK3.out⟩, ⟨pb_ HB.out⟩⟩
  subst c10
  rw [if_pos rfl] at H
  obtain rfl := Option.some.inj H
  go_wp2
  go_ret
  exact ⟨er_, pb_ HB.out⟩

/-! ### impl_MoveOf: function 94 -/
def impl_MoveOf.f (k : Nat) (a0_0 : Int) (l0_1 : List Bool) (l0_2 : List (S78)) (a1 : Int) (a2 : Bool) (a3 : Int) : Option (Int) := (slices_IndexFunc_impl_Move_impl_Move_with_impl_MoveOf_1.f k l0_2 a1 a2 a3).bind fun t207 => (some t207)
theorem impl_MoveOf.mono : ∀ a0 a1 a2 a3 a4 a5 k, LeO (impl_MoveOf.f k a0 a1 a2 a3 a4 a5) (impl_MoveOf.f (k + 1) a0 a1 a2 a3 a4 a5) := by
  intro a0 a1 a2 a3 a4 a5 k
  unfold impl_MoveOf.f
  repeat' first
      | (with_reducible exact slices_IndexFunc_impl_Move_impl_Move_with_impl_MoveOf_1.mono _ _ _ _ _)
      | (with_reducible exact LeO.refl _)
      | (with_reducible exact LeO.none _)
      | (with_reducible refine LeO.ite ?_ ?_)
      | (with_reducible refine LeO.bind ?_ (fun _ => ?_))
      | exact slices_IndexFunc_impl_Move_impl_Move_with_impl_MoveOf_1.mono _ _ _ _ _
      | exact LeO.none _
      | refine LeO.ite ?_ ?_
      | refine LeO.bind ?_ (fun _ => ?_)
set_option maxHeartbeats 8000000 in
set_option maxRecDepth 100000 in
theorem impl_MoveOf.calls (k : Nat) (a0_0 : Int) (A0_1 : Option Addr) (c0_1 : Nat) (l0_1 : List Bool) (A0_2 : Option Addr) (c0_2 : Nat) (l0_2 : List (S78)) (a1 : Int) (a2 : Bool) (a3 : Int) (r : Int) (w : World) (hr0_1 : Kd.C Kd.bool w A0_1 l0_1.length l0_1) (hc0_1 : l0_1.length ≤ c0_1) (hr0_2 : Kd.C k78 w A0_2 l0_2.length l0_2) (hc0_2 : l0_2.length ≤ c0_2) (h : impl_MoveOf.f k a0_0 l0_1 l0_2 a1 a2 a3 = some r) :
    Calls Try.prog 94 #[.agg #[.int .i64 a0_0, .slice A0_1 l0_1.length c0_1, .slice A0_2 l0_2.length c0_2], .int .i64 a1, .bool a2, .int .i64 a3] w fun e w' => e = .returned (.int .i64 r) ∧ Below w.heap.size w w' := by
  have hu34 := Try.underlying34
  have HR0_1 := Aside0.mk hr0_1
  have HC0_1 := Aside0.mk hc0_1
  clear hr0_1 hc0_1
  have HR0_2 := Aside0.mk hr0_2
  have HC0_2 := Aside0.mk hc0_2
  clear hr0_2 hc0_2
  have HB := Aside0.mk (Below.refl w.heap.size w)
  have H : ((slices_IndexFunc_impl_Move_impl_Move_with_impl_MoveOf_1.f k l0_2 a1 a2 a3).bind fun t207 => (some t207)) = some r := h
  clear h
  replace H := Option.bind_eq_some_iff.mp H
  obtain ⟨t207, A50, H⟩ := H
  replace H : (some t207) = some r := H
  have A5 := Aside0.mk A50
  clear A50
  obtain rfl := Option.some.inj H
  go_enter Try.func94, Try.ntmps94
  go_wp2_with (first | ((with_reducible refine gate_dst (N := 4) rfl ?_); refine box_event ?hg (N := 4) ?hd (cs := #[.int .i64 a0_0, .slice A0_1 l0_1.length c0_1, .slice A0_2 l0_2.length c0_2]) (t := 34) ?hr ?_; (case hd => rfl); (case hg => rfl); (case hr => first | (go_simp; done) | (go_simp; rfl)); intro gb203 hg w6 hbox hb; have n0_ := Aside0.mk (below_step (pb_ HB.out) hb); have n1_ := Aside0.mk (hbox); have n2_ := Aside0.mk ((by rw [hg]; exact (below_size (pb_ HB.out)) : w.heap.size ≤ gb203)); have n3_ := Aside0.mk ((by rw [hg]; exact (below_size (pb_ HB.out)) : w.heap.size ≤ gb203)); clear HB; have HB := n0_; have BK203 := n1_; have GW203 := n2_; have GE203 := n3_; clear n0_ n1_ n2_ n3_; clear hb hbox hg) | ((with_reducible refine gate_dst (N := 5) rfl ?_); refine box_event ?hg (N := 5) ?hd (cs := #[.int .i64 a1]) (t := 3) ?hr ?_; (case hd => rfl); (case hg => rfl); (case hr => first | (go_simp; done) | (go_simp; rfl)); intro gb204 hg w7 hbox hb; have n0_ := Aside0.mk (bb_ BK203.out hb); have n1_ := Aside0.mk (below_step (pb1_ HB.out GE203.out) hb); have n2_ := Aside0.mk (hbox); have n3_ := Aside0.mk ((by rw [hg]; exact (below_size (pb1_ HB.out GE203.out)) : w.heap.size ≤ gb204)); have n4_ := Aside0.mk ((by rw [hg]; exact (below_size (pb1_ HB.out GE203.out)) : w.heap.size ≤ gb204)); have n5_ := Aside0.mk ((by rw [hg]; exact Nat.ne_of_lt (blk_lt (pk_ BK203.out)) : gb203 ≠ gb204)); have n6_ := Aside0.mk ((by rw [hg]; exact Nat.ne_of_gt (blk_lt (pk_ BK203.out)) : gb204 ≠ gb203)); clear BK203; clear HB; have BK203 := n0_; have HB := n1_; have BK204 := n2_; have GW204 := n3_; have GE204 := n4_; have NB203_204 := n5_; have NB204_203 := n6_; clear n0_ n1_ n2_ n3_ n4_ n5_ n6_; clear hb hbox hg) | ((with_reducible refine gate_dst (N := 6) rfl ?_); refine box_event ?hg (N := 6) ?hd (cs := #[.bool a2]) (t := 4) ?hr ?_; (case hd => rfl); (case hg => rfl); (case hr => first | (go_simp; done) | (go_simp; rfl)); intro gb205 hg w8 hbox hb; have n0_ := Aside0.mk (bb_ BK203.out hb); have n1_ := Aside0.mk (bb_ BK204.out hb); have n2_ := Aside0.mk (below_step (pb2_ HB.out GE203.out GE204.out) hb); have n3_ := Aside0.mk (hbox); have n4_ := Aside0.mk ((by rw [hg]; exact (below_size (pb2_ HB.out GE203.out GE204.out)) : w.heap.size ≤ gb205)); have n5_ := Aside0.mk ((by rw [hg]; exact (below_size (pb2_ HB.out GE203.out GE204.out)) : w.heap.size ≤ gb205)); have n6_ := Aside0.mk ((by rw [hg]; exact Nat.ne_of_lt (blk_lt (pk_ BK203.out)) : gb203 ≠ gb205)); have n7_ := Aside0.mk ((by rw [hg]; exact Nat.ne_of_gt (blk_lt (pk_ BK203.out)) : gb205 ≠ gb203)); have n8_ := Aside0.mk ((by rw [hg]; exact Nat.ne_of_lt (blk_lt (pk_ BK204.out)) : gb204 ≠ gb205)); have n9_ := Aside0.mk ((by rw [hg]; exact Nat.ne_of_gt (blk_lt (pk_ BK204.out)) : gb205 ≠ gb204)); clear BK203; clear BK204; clear HB; have BK203 := n0_; have BK204 := n1_; have HB := n2_; have BK205 := n3_; have GW205 := n4_; have GE205 := n5_; have NB203_205 := n6_; have NB205_203 := n7_; have NB204_205 := n8_; have NB205_204 := n9_; clear n0_ n1_ n2_ n3_ n4_ n5_ n6_ n7_ n8_ n9_; clear hb hbox hg) | ((with_reducible refine gate_dst (N := 7) rfl ?_); refine box_event ?hg (N := 7) ?hd (cs := #[.int .i64 a3]) (t := 3) ?hr ?_; (case hd => rfl); (case hg => rfl); (case hr => first | (go_simp; done) | (go_simp; rfl)); intro gb206 hg w9 hbox hb; have n0_ := Aside0.mk (bb_ BK203.out hb); have n1_ := Aside0.mk (bb_ BK204.out hb); have n2_ := Aside0.mk (bb_ BK205.out hb); have n3_ := Aside0.mk (below_step (pb3_ HB.out GE203.out GE204.out GE205.out) hb); have n4_ := Aside0.mk (hbox); have n5_ := Aside0.mk ((by rw [hg]; exact (below_size (pb3_ HB.out GE203.out GE204.out GE205.out)) : w.heap.size ≤ gb206)); have n6_ := Aside0.mk ((by rw [hg]; exact (below_size (pb3_ HB.out GE203.out GE204.out GE205.out)) : w.heap.size ≤ gb206)); have n7_ := Aside0.mk ((by rw [hg]; exact Nat.ne_of_lt (blk_lt (pk_ BK203.out)) : gb203 ≠ gb206)); have n8_ := Aside0.mk ((by rw [hg]; exact Nat.ne_of_gt (blk_lt (pk_ BK203.out)) : gb206 ≠ gb203)); have n9_ := Aside0.mk ((by rw [hg]; exact Nat.ne_of_lt (blk_lt (pk_ BK204.out)) : gb204 ≠ gb206)); have n10_ := Aside0.mk ((by rw [hg]; exact Nat.ne_of_gt (blk_lt (pk_ BK204.out)) : gb206 ≠ gb204)); have n11_ := Aside0.mk ((by rw [hg]; exact Nat.ne_of_lt (blk_lt (pk_ BK205.out)) : gb205 ≠ gb206)); have n12_ := Aside0.mk ((by rw [hg]; exact Nat.ne_of_gt (blk_lt (pk_ BK205.out)) : gb206 ≠ gb205)); clear BK203; clear BK204; clear BK205; clear HB; have BK203 := n0_; have BK204 := n1_; have BK205 := n2_; have HB := n3_; have BK206 := n4_; have GW206 := n5_; have GE206 := n6_; have NB203_206 := n7_; have NB206_203 := n8_; have NB204_206 := n9_; have NB206_204 := n10_; have NB205_206 := n11_; have NB206_205 := n12_; clear n0_ n1_ n2_ n3_ n4_ n5_ n6_ n7_ n8_ n9_ n10_ n11_ n12_; clear hb hbox hg; have hnb10 := NB203_204.out; have hnc10 := NB204_203.out; have hnb11 := NB203_205.out; have hnc11 := NB205_203.out; have hnb12 := NB203_206.out; have hnc12 := NB206_203.out; obtain ⟨hcz13_0, hcz13_1, hcz13_2, hfz13_0, hfz13_1, hfz13_2⟩ := bc3_ BK203.out) | (go_at_call 99; (with_reducible refine (slices_IndexFunc_impl_Move_impl_Move_with_impl_MoveOf_1.calls k _ _ l0_2 _ a1 _ a2 _ a3 t207 _ ?side1 ?side2 ?side3 ?side4 ?side5 ?side6 ?side7 ?side8 A5.out).mono ?_); (case side1 => exact cb_ HR0_2 HB); (case side2 => exact HC0_2.out); (case side3 => exact pk_ BK204.out); (case side4 => exact pk_ BK205.out); (case side5 => exact NB204_205.out); (case side6 => exact pk_ BK206.out); (case side7 => exact NB204_206.out); (case side8 => exact NB205_206.out); rintro e w14 ⟨rfl, hb⟩; have _ := Aside0.mk (bb_ BK203.out hb); have _ := Aside0.mk (bb_ BK204.out hb); have _ := Aside0.mk (bb_ BK205.out hb); have _ := Aside0.mk (bb_ BK206.out hb); have _ := Aside0.mk (below_step (pb4_ HB.out GE203.out GE204.out GE205.out GE206.out) hb); clear BK203 BK204 BK205 BK206 HB; rename_i BK203 BK204 BK205 BK206 HB; (try clear hb); (try clear hb2); (try clear hk); (try clear hi)))
  go_ret
  exact ⟨er_, pb4_ HB.out GE203.out GE204.out GE205.out GE206.out⟩

end Go.Proofs.Ytldcchjbaglppaa.Print
