-- Written by a program of this session (printx.py) out of the translation; Lean checks it.
import Derived.Test.YtchnkakjjbfklaaPrint0
import Derived.Test.YtchnkakjjbfklaaPrint3
namespace Go.Proofs.Ytchnkakjjbfklaa.Print
open Go.RowKit Go.Proofs.YtchnkakjjbfklaaW.PrintWords Go.Proofs.YtchnkakjjbfklaaW.PrintLast Go.Proofs.YtchnkakjjbfklaaW.PrintMore Go.Proofs.Ytchnkakjjbfklaa.Short
attribute [local go_sem] max2_int min2_int max_two min_two max_three min_three max_four min_four   -- for this text's walks alone
set_option linter.unusedVariables false
set_option linter.unusedSimpArgs false

/-! ### laws_eqDeal: function 91 -/
def laws_eqDeal.f (k : Nat) (a0_0 : Bool) (a0_1 : Int) (l0_2 : List Int) (a1_0 : Bool) (a1_1 : Int) (l1_2 : List Int) : Option (Bool) := if a0_0 = true then (if a1_0 = true then (if a0_1 = a1_1 then ((laws_eqIntS.f k l0_2 l1_2).bind fun t298 => (if t298 = true then (some true) else (some false))) else (some false)) else (some false)) else (if a1_0 = true then (some false) else (if a0_1 = a1_1 then ((laws_eqIntS.f k l0_2 l1_2).bind fun t299 => (if t299 = true then (some true) else (some false))) else (some false)))
theorem laws_eqDeal.mono : ∀ a0 a1 a2 a3 a4 a5 k, LeO (laws_eqDeal.f k a0 a1 a2 a3 a4 a5) (laws_eqDeal.f (k + 1) a0 a1 a2 a3 a4 a5) := by
  intro a0 a1 a2 a3 a4 a5 k
  unfold laws_eqDeal.f
  repeat' first
      | (with_reducible exact laws_eqIntS.mono _ _ _)
      | (with_reducible exact LeO.refl _)
      | (with_reducible exact LeO.none _)
      | (with_reducible refine LeO.ite ?_ ?_)
      | (with_reducible refine LeO.bind ?_ (fun _ => ?_))
      | exact laws_eqIntS.mono _ _ _
      | exact LeO.none _
      | refine LeO.ite ?_ ?_
      | refine LeO.bind ?_ (fun _ => ?_)
set_option maxHeartbeats 8000000 in
set_option maxRecDepth 100000 in
theorem laws_eqDeal.calls (k : Nat) (a0_0 : Bool) (a0_1 : Int) (A0_2 : Option Addr) (c0_2 : Nat) (l0_2 : List Int) (a1_0 : Bool) (a1_1 : Int) (A1_2 : Option Addr) (c1_2 : Nat) (l1_2 : List Int) (r : Bool) (w : World) (hr0_2 : Kd.C (Kd.int .i64) w A0_2 l0_2.length l0_2) (hc0_2 : l0_2.length ≤ c0_2) (hr1_2 : Kd.C (Kd.int .i64) w A1_2 l1_2.length l1_2) (hc1_2 : l1_2.length ≤ c1_2) (h : laws_eqDeal.f k a0_0 a0_1 l0_2 a1_0 a1_1 l1_2 = some r) :
    Calls Try.prog 91 #[.agg #[.bool a0_0, .int .i64 a0_1, .slice A0_2 l0_2.length c0_2], .agg #[.bool a1_0, .int .i64 a1_1, .slice A1_2 l1_2.length c1_2]] w fun e w' => e = .returned (.bool r) ∧ Below w.heap.size w w' := by
  have hu53 := Try.underlying53
  have HR0_2 := Aside0.mk hr0_2
  have HC0_2 := Aside0.mk hc0_2
  clear hr0_2 hc0_2
  have HR1_2 := Aside0.mk hr1_2
  have HC1_2 := Aside0.mk hc1_2
  clear hr1_2 hc1_2
  have HB := Aside0.mk (Below.refl w.heap.size w)
  have H : (if a0_0 = true then (if a1_0 = true then (if a0_1 = a1_1 then ((laws_eqIntS.f k l0_2 l1_2).bind fun t298 => (if t298 = true then (some true) else (some false))) else (some false)) else (some false)) else (if a1_0 = true then (some false) else (if a0_1 = a1_1 then ((laws_eqIntS.f k l0_2 l1_2).bind fun t299 => (if t299 = true then (some true) else (some false))) else (some false)))) = some r := h
  clear h
  have HS_ := Aside0.mk H
  clear H
  go_enter Try.func91, Try.ntmps91
  go_upto_region 1 with (first | ((with_reducible refine gate_dst (N := 2) rfl ?_); refine box_event ?hg (N := 2) ?hd (cs := #[.bool a0_0, .int .i64 a0_1, .slice A0_2 l0_2.length c0_2]) (t := 53) ?hr ?_; (case hd => rfl); (case hg => rfl); (case hr => first | (go_simp; done) | (go_simp; rfl)); intro gb296 hg w3 hbox hb; have n0_ := Aside0.mk (below_step (pb_ HB.out) hb); have n1_ := Aside0.mk (hbox); have n2_ := Aside0.mk ((by rw [hg]; exact (below_size (pb_ HB.out)) : w.heap.size ≤ gb296)); have n3_ := Aside0.mk ((by rw [hg]; exact (below_size (pb_ HB.out)) : w.heap.size ≤ gb296)); clear HB; have HB := n0_; have BK296 := n1_; have GW296 := n2_; have GE296 := n3_; clear n0_ n1_ n2_ n3_; clear hb hbox hg) | ((with_reducible refine gate_dst (N := 3) rfl ?_); refine box_event ?hg (N := 3) ?hd (cs := #[.bool a1_0, .int .i64 a1_1, .slice A1_2 l1_2.length c1_2]) (t := 53) ?hr ?_; (case hd => rfl); (case hg => rfl); (case hr => first | (go_simp; done) | (go_simp; rfl)); intro gb297 hg w4 hbox hb; have n0_ := Aside0.mk (bb_ BK296.out hb); have n1_ := Aside0.mk (below_step (pb1_ HB.out GE296.out) hb); have n2_ := Aside0.mk (hbox); have n3_ := Aside0.mk ((by rw [hg]; exact (below_size (pb1_ HB.out GE296.out)) : w.heap.size ≤ gb297)); have n4_ := Aside0.mk ((by rw [hg]; exact (below_size (pb1_ HB.out GE296.out)) : w.heap.size ≤ gb297)); have n5_ := Aside0.mk ((by rw [hg]; exact Nat.ne_of_lt (blk_lt (pk_ BK296.out)) : gb296 ≠ gb297)); have n6_ := Aside0.mk ((by rw [hg]; exact Nat.ne_of_gt (blk_lt (pk_ BK296.out)) : gb297 ≠ gb296)); clear BK296; clear HB; have BK296 := n0_; have HB := n1_; have BK297 := n2_; have GW297 := n3_; have GE297 := n4_; have NB296_297 := n5_; have NB297_296 := n6_; clear n0_ n1_ n2_ n3_ n4_ n5_ n6_; clear hb hbox hg))
  (try simp only [Act.put, List.setIfInBounds_toArray, List.set_cons_zero, List.set_cons_succ])
  have H := HS_.out
  clear HS_
  by_cases c5 : a0_0 = true
  rotate_left
  · replace c5 := Bool.eq_false_iff.mpr c5
    subst c5
    rw [if_neg (show ¬ (false = true) by decide)] at H
    by_cases c6 : a1_0 = true
    · subst c6
      rw [if_pos rfl] at H
      obtain rfl := Option.some.inj H
      have hnb7 := NB296_297.out
      have hnc7 := NB297_296.out
      have hcz8 := bc3_ BK296.out
      have hcz9 := bc3_ BK297.out
      go_wp2
      go_ret
      exact ⟨er_, pb2_ HB.out GE296.out GE297.out⟩
    replace c6 := Bool.eq_false_iff.mpr c6
    subst c6
    rw [if_neg (show ¬ (false = true) by decide)] at H
    by_cases c10 : a0_1 = a1_1
    rotate_left
    · rw [if_neg c10] at H
      have c10b0 : (a0_1 == a1_1) = false := beq_eq_false_iff_ne.mpr c10
      have c10b1 : (a0_1 != a1_1) = true := bne_iff_ne.mpr c10
      (first | rw [c10b0] | (simp only [i64_w, i32_w]; rw [c10b0]) | rw [c10b1] | (have c_ := c10b1; rw [bne] at c_; rw [c_]; clear c_) | skip)
      obtain rfl := Option.some.inj H
      have hnb11 := NB296_297.out
      have hnc11 := NB297_296.out
      have hcz12 := bc3_ BK296.out
      have hcz13 := bc3_ BK297.out
      go_wp2
      go_ret
      exact ⟨er_, pb2_ HB.out GE296.out GE297.out⟩
    rw [if_pos c10] at H
    have c10b0 : (a0_1 == a1_1) = true := beq_iff_eq.mpr c10
    have c10b1 : (a0_1 != a1_1) = false := bne_eq_false_iff_eq.mpr c10
    clear c10
    (first | rw [c10b0] | (simp only [i64_w, i32_w]; rw [c10b0]) | rw [c10b1] | (have c_ := c10b1; rw [bne] at c_; rw [c_]; clear c_) | skip)
    replace H := Option.bind_eq_some_iff.mp H
    obtain ⟨t299, A140, H⟩ := H
    replace H : (if t299 = true then (some true) else (some false)) = some r := H
    have A14 := Aside0.mk A140
    clear A140
    have HS_ := Aside0.mk H
    clear H
    have hnb15 := NB296_297.out
    have hnc15 := NB297_296.out
    have hcz16 := bc3_ BK296.out
    have hcz17 := bc3_ BK297.out
    go_upto_if 20 with (first | ((with_reducible refine gate_callee (f := 34) rfl ?_); refine gl_ (some 19) Try.func34 #[.slice A0_2 l0_2.length c0_2, .slice A1_2 l1_2.length c1_2] ?_; (with_reducible refine (laws_eqIntS.calls k _ _ l0_2 _ _ l1_2 t299 _ ?side1 ?side2 ?side3 ?side4 A14.out).mono ?_); (case side1 => exact cb_ HR0_2 HB); (case side2 => exact HC0_2.out); (case side3 => exact cb_ HR1_2 HB); (case side4 => exact HC1_2.out); rintro e w' ⟨rfl, ⟨nd, rfl⟩⟩; refine ⟨_, rfl, ?_⟩))
    (try simp only [Act.put, List.setIfInBounds_toArray, List.set_cons_zero, List.set_cons_succ])
    have H := HS_.out
    clear HS_
    by_cases c18 : t299 = true
    rotate_left
    · replace c18 := Bool.eq_false_iff.mpr c18
      subst c18
      rw [if_neg (show ¬ (false = true) by decide)] at H
      obtain rfl := Option.some.inj H
      go_wp2
      go_ret
      exact ⟨er_, pb2_ HB.out GE296.out GE297.out⟩
    subst c18
    rw [if_pos rfl] at H
    obtain rfl := Option.some.inj H
    go_wp2
    go_ret
    exact ⟨er_, pb2_ HB.out GE296.out GE297.out⟩
  subst c5
  rw [if_pos rfl] at H
  by_cases c19 : a1_0 = true
  rotate_left
  · replace c19 := Bool.eq_false_iff.mpr c19
    subst c19
    rw [if_neg (show ¬ (false = true) by decide)] at H
    obtain rfl := Option.some.inj H
    have hnb20 := NB296_297.out
    have hnc20 := NB297_296.out
    have hcz21 := bc3_ BK296.out
    have hcz22 := bc3_ BK297.out
    go_wp2
    go_ret
    exact ⟨er_, pb2_ HB.out GE296.out GE297.out⟩
  subst c19
  rw [if_pos rfl] at H
  by_cases c23 : a0_1 = a1_1
  rotate_left
  · rw [if_neg c23] at H
    have c23b0 : (a0_1 == a1_1) = false := beq_eq_false_iff_ne.mpr c23
    have c23b1 : (a0_1 != a1_1) = true := bne_iff_ne.mpr c23
    obtain rfl := Option.some.inj H
    have hnb24 := NB296_297.out
    have hnc24 := NB297_296.out
    have hcz25 := bc3_ BK296.out
    have hcz26 := bc3_ BK297.out
    go_wp2
    go_ret
    exact ⟨er_, pb2_ HB.out GE296.out GE297.out⟩
  rw [if_pos c23] at H
  have c23b0 : (a0_1 == a1_1) = true := beq_iff_eq.mpr c23
  have c23b1 : (a0_1 != a1_1) = false := bne_eq_false_iff_eq.mpr c23
  clear c23
  replace H := Option.bind_eq_some_iff.mp H
  obtain ⟨t298, A270, H⟩ := H
  replace H : (if t298 = true then (some true) else (some false)) = some r := H
  have A27 := Aside0.mk A270
  clear A270
  have HS_ := Aside0.mk H
  clear H
  have hnb28 := NB296_297.out
  have hnc28 := NB297_296.out
  have hcz29 := bc3_ BK296.out
  have hcz30 := bc3_ BK297.out
  go_upto_if 20 with (first | ((with_reducible refine gate_callee (f := 34) rfl ?_); refine gl_ (some 19) Try.func34 #[.slice A0_2 l0_2.length c0_2, .slice A1_2 l1_2.length c1_2] ?_; (with_reducible refine (laws_eqIntS.calls k _ _ l0_2 _ _ l1_2 t298 _ ?side1 ?side2 ?side3 ?side4 A27.out).mono ?_); (case side1 => exact cb_ HR0_2 HB); (case side2 => exact HC0_2.out); (case side3 => exact cb_ HR1_2 HB); (case side4 => exact HC1_2.out); rintro e w' ⟨rfl, ⟨nd, rfl⟩⟩; refine ⟨_, rfl, ?_⟩))
  (try simp only [Act.put, List.setIfInBounds_toArray, List.set_cons_zero, List.set_cons_succ])
  have H := HS_.out
  clear HS_
  by_cases c31 : t298 = true
  rotate_left
  · replace c31 := Bool.eq_false_iff.mpr c31
    subst c31
    rw [if_neg (show ¬ (false = true) by decide)] at H
    obtain rfl := Option.some.inj H
    go_wp2
    go_ret
    exact ⟨er_, pb2_ HB.out GE296.out GE297.out⟩
  subst c31
  rw [if_pos rfl] at H
  obtain rfl := Option.some.inj H
  go_wp2
  go_ret
  exact ⟨er_, pb2_ HB.out GE296.out GE297.out⟩

/-! ### laws_eqDialed: function 70 -/
def laws_eqDialed.f (k : Nat) (a0_0 : Bool) (a0_1 : Int) (l0_2 : List Int) (a0_3 : Int) (l0_4 : List Int) (a1_0 : Bool) (a1_1 : Int) (l1_2 : List Int) (a1_3 : Int) (l1_4 : List Int) : Option (Bool) := (laws_eqDeal.f k a0_0 a0_1 l0_2 a1_0 a1_1 l1_2).bind fun t302 => (if t302 = true then (if a0_3 = a1_3 then ((laws_eqIntS.f k l0_4 l1_4).bind fun t303 => (if t303 = true then (some true) else (some false))) else (some false)) else (some false))
theorem laws_eqDialed.mono : ∀ a0 a1 a2 a3 a4 a5 a6 a7 a8 a9 k, LeO (laws_eqDialed.f k a0 a1 a2 a3 a4 a5 a6 a7 a8 a9) (laws_eqDialed.f (k + 1) a0 a1 a2 a3 a4 a5 a6 a7 a8 a9) := by
  intro a0 a1 a2 a3 a4 a5 a6 a7 a8 a9 k
  unfold laws_eqDialed.f
  repeat' first
      | (with_reducible exact laws_eqDeal.mono _ _ _ _ _ _ _)
      | (with_reducible exact laws_eqIntS.mono _ _ _)
      | (with_reducible exact LeO.refl _)
      | (with_reducible exact LeO.none _)
      | (with_reducible refine LeO.ite ?_ ?_)
      | (with_reducible refine LeO.bind ?_ (fun _ => ?_))
      | exact laws_eqDeal.mono _ _ _ _ _ _ _
      | exact laws_eqIntS.mono _ _ _
      | exact LeO.none _
      | refine LeO.ite ?_ ?_
      | refine LeO.bind ?_ (fun _ => ?_)
set_option maxHeartbeats 8000000 in
set_option maxRecDepth 100000 in
theorem laws_eqDialed.calls (k : Nat) (a0_0 : Bool) (a0_1 : Int) (A0_2 : Option Addr) (c0_2 : Nat) (l0_2 : List Int) (a0_3 : Int) (A0_4 : Option Addr) (c0_4 : Nat) (l0_4 : List Int) (a1_0 : Bool) (a1_1 : Int) (A1_2 : Option Addr) (c1_2 : Nat) (l1_2 : List Int) (a1_3 : Int) (A1_4 : Option Addr) (c1_4 : Nat) (l1_4 : List Int) (r : Bool) (w : World) (hr0_2 : Kd.C (Kd.int .i64) w A0_2 l0_2.length l0_2) (hc0_2 : l0_2.length ≤ c0_2) (hr0_4 : Kd.C (Kd.int .i64) w A0_4 l0_4.length l0_4) (hc0_4 : l0_4.length ≤ c0_4) (hr1_2 : Kd.C (Kd.int .i64) w A1_2 l1_2.length l1_2) (hc1_2 : l1_2.length ≤ c1_2) (hr1_4 : Kd.C (Kd.int .i64) w A1_4 l1_4.length l1_4) (hc1_4 : l1_4.length ≤ c1_4) (h : laws_eqDialed.f k a0_0 a0_1 l0_2 a0_3 l0_4 a1_0 a1_1 l1_2 a1_3 l1_4 = some r) :
    Calls Try.prog 70 #[.agg #[.bool a0_0, .int .i64 a0_1, .slice A0_2 l0_2.length c0_2, .int .i64 a0_3, .slice A0_4 l0_4.length c0_4], .agg #[.bool a1_0, .int .i64 a1_1, .slice A1_2 l1_2.length c1_2, .int .i64 a1_3, .slice A1_4 l1_4.length c1_4]] w fun e w' => e = .returned (.bool r) ∧ Below w.heap.size w w' := by
  have hu55 := Try.underlying55
  have hu53 := Try.underlying53
  have HR0_2 := Aside0.mk hr0_2
  have HC0_2 := Aside0.mk hc0_2
  clear hr0_2 hc0_2
  have HR0_4 := Aside0.mk hr0_4
  have HC0_4 := Aside0.mk hc0_4
  clear hr0_4 hc0_4
  have HR1_2 := Aside0.mk hr1_2
  have HC1_2 := Aside0.mk hc1_2
  clear hr1_2 hc1_2
  have HR1_4 := Aside0.mk hr1_4
  have HC1_4 := Aside0.mk hc1_4
  clear hr1_4 hc1_4
  have HB := Aside0.mk (Below.refl w.heap.size w)
  have H : ((laws_eqDeal.f k a0_0 a0_1 l0_2 a1_0 a1_1 l1_2).bind fun t302 => (if t302 = true then (if a0_3 = a1_3 then ((laws_eqIntS.f k l0_4 l1_4).bind fun t303 => (if t303 = true then (some true) else (some false))) else (some false)) else (some false))) = some r := h
  clear h
  have HS_ := Aside0.mk H
  clear H
  go_enter Try.func70, Try.ntmps70
  go_upto_region 1 with (first | ((with_reducible refine gate_dst (N := 2) rfl ?_); refine box_event ?hg (N := 2) ?hd (cs := #[.bool a0_0, .int .i64 a0_1, .slice A0_2 l0_2.length c0_2, .int .i64 a0_3, .slice A0_4 l0_4.length c0_4]) (t := 55) ?hr ?_; (case hd => rfl); (case hg => rfl); (case hr => first | (go_simp; done) | (go_simp; rfl)); intro gb300 hg w3 hbox hb; have n0_ := Aside0.mk (below_step (pb_ HB.out) hb); have n1_ := Aside0.mk (hbox); have n2_ := Aside0.mk ((by rw [hg]; exact (below_size (pb_ HB.out)) : w.heap.size ≤ gb300)); have n3_ := Aside0.mk ((by rw [hg]; exact (below_size (pb_ HB.out)) : w.heap.size ≤ gb300)); clear HB; have HB := n0_; have BK300 := n1_; have GW300 := n2_; have GE300 := n3_; clear n0_ n1_ n2_ n3_; clear hb hbox hg) | ((with_reducible refine gate_dst (N := 3) rfl ?_); refine box_event ?hg (N := 3) ?hd (cs := #[.bool a1_0, .int .i64 a1_1, .slice A1_2 l1_2.length c1_2, .int .i64 a1_3, .slice A1_4 l1_4.length c1_4]) (t := 55) ?hr ?_; (case hd => rfl); (case hg => rfl); (case hr => first | (go_simp; done) | (go_simp; rfl)); intro gb301 hg w4 hbox hb; have n0_ := Aside0.mk (bb_ BK300.out hb); have n1_ := Aside0.mk (below_step (pb1_ HB.out GE300.out) hb); have n2_ := Aside0.mk (hbox); have n3_ := Aside0.mk ((by rw [hg]; exact (below_size (pb1_ HB.out GE300.out)) : w.heap.size ≤ gb301)); have n4_ := Aside0.mk ((by rw [hg]; exact (below_size (pb1_ HB.out GE300.out)) : w.heap.size ≤ gb301)); have n5_ := Aside0.mk ((by rw [hg]; exact Nat.ne_of_lt (blk_lt (pk_ BK300.out)) : gb300 ≠ gb301)); have n6_ := Aside0.mk ((by rw [hg]; exact Nat.ne_of_gt (blk_lt (pk_ BK300.out)) : gb301 ≠ gb300)); clear BK300; clear HB; have BK300 := n0_; have HB := n1_; have BK301 := n2_; have GW301 := n3_; have GE301 := n4_; have NB300_301 := n5_; have NB301_300 := n6_; clear n0_ n1_ n2_ n3_ n4_ n5_ n6_; clear hb hbox hg))
  (try simp only [Act.put, List.setIfInBounds_toArray, List.set_cons_zero, List.set_cons_succ])
  have H := HS_.out
  clear HS_
  replace H := Option.bind_eq_some_iff.mp H
  obtain ⟨t302, A50, H⟩ := H
  (try dsimp only at H)
  have A5 := Aside0.mk A50
  clear A50
  have HS_ := Aside0.mk H
  clear H
  have hnb6 := NB300_301.out
  have hnc6 := NB301_300.out
  have hcz7 := bc5_ BK300.out
  have hcz8 := bc5_ BK301.out
  go_upto_if 10 with (first | ((with_reducible refine gate_callee (f := 91) rfl ?_); refine gl_ (some 9) Try.func91 #[.agg #[.bool a0_0, .int .i64 a0_1, .slice A0_2 l0_2.length c0_2], .agg #[.bool a1_0, .int .i64 a1_1, .slice A1_2 l1_2.length c1_2]] ?_; (with_reducible refine (laws_eqDeal.calls k a0_0 a0_1 _ _ l0_2 a1_0 a1_1 _ _ l1_2 t302 _ ?side1 ?side2 ?side3 ?side4 A5.out).mono ?_); (case side1 => exact cb_ HR0_2 HB); (case side2 => exact HC0_2.out); (case side3 => exact cb_ HR1_2 HB); (case side4 => exact HC1_2.out); rintro e w9 ⟨rfl, hb⟩; refine ⟨_, rfl, ?_⟩; have _ := Aside0.mk (bb_ BK300.out hb); have _ := Aside0.mk (bb_ BK301.out hb); have _ := Aside0.mk (below_step (pb2_ HB.out GE300.out GE301.out) hb); clear BK300 BK301 HB; rename_i BK300 BK301 HB; (try clear hb); (try clear hb2); (try clear hk); (try clear hi)))
  (try simp only [Act.put, List.setIfInBounds_toArray, List.set_cons_zero, List.set_cons_succ])
  have H := HS_.out
  clear HS_
  by_cases c10 : t302 = true
  rotate_left
  · replace c10 := Bool.eq_false_iff.mpr c10
    subst c10
    rw [if_neg (show ¬ (false = true) by decide)] at H
    obtain rfl := Option.some.inj H
    go_wp2
    go_ret
    exact ⟨er_, pb2_ HB.out GE300.out GE301.out⟩
  subst c10
  rw [if_pos rfl] at H
  by_cases c11 : a0_3 = a1_3
  rotate_left
  · rw [if_neg c11] at H
    have c11b0 : (a0_3 == a1_3) = false := beq_eq_false_iff_ne.mpr c11
    have c11b1 : (a0_3 != a1_3) = true := bne_iff_ne.mpr c11
    (first | rw [c11b0] | (simp only [i64_w, i32_w]; rw [c11b0]) | rw [c11b1] | (have c_ := c11b1; rw [bne] at c_; rw [c_]; clear c_) | skip)
    obtain rfl := Option.some.inj H
    have hnb12 := NB300_301.out
    have hnc12 := NB301_300.out
    have hcz13 := bc5_ BK300.out
    have hcz14 := bc5_ BK301.out
    go_wp2
    go_ret
    exact ⟨er_, pb2_ HB.out GE300.out GE301.out⟩
  rw [if_pos c11] at H
  have c11b0 : (a0_3 == a1_3) = true := beq_iff_eq.mpr c11
  have c11b1 : (a0_3 != a1_3) = false := bne_eq_false_iff_eq.mpr c11
  clear c11
  (first | rw [c11b0] | (simp only [i64_w, i32_w]; rw [c11b0]) | rw [c11b1] | (have c_ := c11b1; rw [bne] at c_; rw [c_]; clear c_) | skip)
  replace H := Option.bind_eq_some_iff.mp H
  obtain ⟨t303, A150, H⟩ := H
  replace H : (if t303 = true then (some true) else (some false)) = some r := H
  have A15 := Aside0.mk A150
  clear A150
  have HS_ := Aside0.mk H
  clear H
  have hnb16 := NB300_301.out
  have hnc16 := NB301_300.out
  have hcz17 := bc5_ BK300.out
  have hcz18 := bc5_ BK301.out
  go_upto_if 21 with (first | ((with_reducible refine gate_callee (f := 34) rfl ?_); refine gl_ (some 20) Try.func34 #[.slice A0_4 l0_4.length c0_4, .slice A1_4 l1_4.length c1_4] ?_; (with_reducible refine (laws_eqIntS.calls k _ _ l0_4 _ _ l1_4 t303 _ ?side1 ?side2 ?side3 ?side4 A15.out).mono ?_); (case side1 => exact cb_ HR0_4 HB); (case side2 => exact HC0_4.out); (case side3 => exact cb_ HR1_4 HB); (case side4 => exact HC1_4.out); rintro e w' ⟨rfl, ⟨nd, rfl⟩⟩; refine ⟨_, rfl, ?_⟩))
  (try simp only [Act.put, List.setIfInBounds_toArray, List.set_cons_zero, List.set_cons_succ])
  have H := HS_.out
  clear HS_
  by_cases c19 : t303 = true
  rotate_left
  · replace c19 := Bool.eq_false_iff.mpr c19
    subst c19
    rw [if_neg (show ¬ (false = true) by decide)] at H
    obtain rfl := Option.some.inj H
    go_wp2
    go_ret
    exact ⟨er_, pb2_ HB.out GE300.out GE301.out⟩
  subst c19
  rw [if_pos rfl] at H
  obtain rfl := Option.some.inj H
  go_wp2
  go_ret
  exact ⟨er_, pb2_ HB.out GE300.out GE301.out⟩

/-! ### laws_eqDialedS: function 37 -/
def laws_eqDialedS.l0 : Nat → List (S55) → List (S55) → Int → Option (Bool)
  | 0, _, _, _ => none
  | k + 1, x0, x1, x5 => if x5 < (x0.length : Int) then (if 0 ≤ x5 then (if x5 < (x1.length : Int) then ((laws_eqDialed.f k ((rd_T55 x0 x5).f0.f0) ((rd_T55 x0 x5).f0.f1) ((rd_T55 x0 x5).f0.f2) ((rd_T55 x0 x5).f1) ((rd_T55 x0 x5).f2) ((rd_T55 x1 x5).f0.f0) ((rd_T55 x1 x5).f0.f1) ((rd_T55 x1 x5).f0.f2) ((rd_T55 x1 x5).f1) ((rd_T55 x1 x5).f2)).bind fun t306 => (if t306 = true then (laws_eqDialedS.l0 k x0 x1 (wrap64 (x5 + 1))) else (some false))) else (none)) else (none)) else (some true)
def laws_eqDialedS.f (k : Nat) (l0 : List (S55)) (l1 : List (S55)) : Option (Bool) := if (l0.length : Int) = (l1.length : Int) then (laws_eqDialedS.l0 k l0 l1 0) else (some false)
theorem laws_eqDialedS.mono_l : ∀ k, (∀ y0 y1 y2, LeO (laws_eqDialedS.l0 k y0 y1 y2) (laws_eqDialedS.l0 (k + 1) y0 y1 y2))
  | 0 => fun _ _ _ r h => by simp [laws_eqDialedS.l0] at h
  | k + 1 => by
    have ih0 := laws_eqDialedS.mono_l k
    · intro y0 y1 y2
      unfold laws_eqDialedS.l0
      repeat' first
      | (with_reducible exact ih0 _ _ _)
      | (with_reducible exact laws_eqDialed.mono _ _ _ _ _ _ _ _ _ _ _)
      | (with_reducible exact LeO.refl _)
      | (with_reducible exact LeO.none _)
      | (with_reducible refine LeO.ite ?_ ?_)
      | (with_reducible refine LeO.bind ?_ (fun _ => ?_))
      | exact ih0 _ _ _
      | exact laws_eqDialed.mono _ _ _ _ _ _ _ _ _ _ _
      | exact LeO.none _
      | refine LeO.ite ?_ ?_
      | refine LeO.bind ?_ (fun _ => ?_)
theorem laws_eqDialedS.mono : ∀ a0 a1 k, LeO (laws_eqDialedS.f k a0 a1) (laws_eqDialedS.f (k + 1) a0 a1) := by
  intro a0 a1 k
  have ih0 := laws_eqDialedS.mono_l k
  unfold laws_eqDialedS.f
  repeat' first
      | (with_reducible exact ih0 _ _ _)
      | (with_reducible exact laws_eqDialed.mono _ _ _ _ _ _ _ _ _ _ _)
      | (with_reducible exact LeO.refl _)
      | (with_reducible exact LeO.none _)
      | (with_reducible refine LeO.ite ?_ ?_)
      | (with_reducible refine LeO.bind ?_ (fun _ => ?_))
      | exact ih0 _ _ _
      | exact laws_eqDialed.mono _ _ _ _ _ _ _ _ _ _ _
      | exact LeO.none _
      | refine LeO.ite ?_ ?_
      | refine LeO.bind ?_ (fun _ => ?_)
def laws_eqDialedS.T6 : Bool × List (List Nat × List Nat) := (true, [([], []), ([], []), ([0, 1], [0, 1]), ([2], [2]), ([], []), ([], []), ([4, 5], [4, 5]), ([6], [6]), ([3, 7], [3, 7]), ([8], [8])])
def laws_eqDialedS.B6 : List Nat := [0, 0, 3, 7, 0, 0, 48, 112, 255, 511]
theorem laws_eqDialedS.tab6 : rtab .any (opsOf Try.f37 6) = laws_eqDialedS.T6 := by kernel_rfl
theorem laws_eqDialedS.bits6 : waitsOk laws_eqDialedS.T6.2 laws_eqDialedS.B6 = true := by kernel_rfl
set_option maxHeartbeats 8000000 in
set_option maxRecDepth 100000 in
theorem laws_eqDialedS.calls (k : Nat) (A0 : Option Addr) (c0 : Nat) (l0 : List (S55)) (A1 : Option Addr) (c1 : Nat) (l1 : List (S55)) (r : Bool) (w : World) (hr0 : Kd.C k55 w A0 l0.length l0) (hc0 : l0.length ≤ c0) (hr1 : Kd.C k55 w A1 l1.length l1) (hc1 : l1.length ≤ c1) (h : laws_eqDialedS.f k l0 l1 = some r) :
    Calls Try.prog 37 #[.slice A0 l0.length c0, .slice A1 l1.length c1] w fun e w' => e = .returned (.bool r) ∧ Below w.heap.size w w' := by
  have hu55 := Try.underlying55
  have HR0 := Aside0.mk hr0
  have HC0 := Aside0.mk hc0
  clear hr0 hc0
  have HR1 := Aside0.mk hr1
  have HC1 := Aside0.mk hc1
  clear hr1 hc1
  have HB := Aside0.mk (Below.refl w.heap.size w)
  have H : (if (l0.length : Int) = (l1.length : Int) then (laws_eqDialedS.l0 k l0 l1 0) else (some false)) = some r := h
  clear h
  by_cases c3 : (l0.length : Int) = (l1.length : Int)
  rotate_left
  · rw [if_neg c3] at H
    have c3b0 : ((l0.length : Int) == (l1.length : Int)) = false := beq_eq_false_iff_ne.mpr c3
    have c3b1 : ((l0.length : Int) != (l1.length : Int)) = true := bne_iff_ne.mpr c3
    have c3b2 : (l0.length == l1.length) = false := by first | simpa using c3 | (simp at c3 ⊢; omega)
    obtain rfl := Option.some.inj H
    go_enter Try.func37, Try.ntmps37
    go_wp2
    go_ret
    exact ⟨er_, pb_ HB.out⟩
  rw [if_pos c3] at H
  have c3b0 : ((l0.length : Int) == (l1.length : Int)) = true := beq_iff_eq.mpr c3
  have c3b1 : ((l0.length : Int) != (l1.length : Int)) = false := bne_eq_false_iff_eq.mpr c3
  have c3b2 : (l0.length == l1.length) = true := by first | simpa using c3 | (simp at c3 ⊢; omega)
  clear c3
  have H' := Aside0.mk H
  clear H
  go_enter Try.func37, Try.ntmps37
  go_wp2
  go_loopg [5] k (fun kq v5 w' => ∃ (x5_1 : Int), v5 = .int .i64 x5_1 ∧ Aside0 (laws_eqDialedS.l0 kq l0 l1 x5_1 = some r) ∧ Aside0 (kq ≤ k) ∧ Aside0 (Below w.heap.size w w'))
  case atStart => exact ⟨(0), el_, H', ⟨Nat.le_refl _⟩, ⟨pb_ HB.out⟩⟩
  clear H'
  try clear c1
  try clear p2
  try clear c3
  try clear c3b0
  try clear c3b1
  try clear c3b2
  obtain ⟨x5_1, rfl, HA, HK1, HB⟩ := hrel
  rcases gk with _ | k1
  · exact absurd HA.out (by simp [laws_eqDialedS.l0])
  have H := HA.out
  clear HA
  simp only [laws_eqDialedS.l0] at H
  by_cases c4 : x5_1 < (l0.length : Int)
  rotate_left
  · rw [if_neg c4] at H
    have c4b0 : decide (x5_1 < (l0.length : Int)) = false := decide_eq_false c4
    clear c4
    obtain rfl := Option.some.inj H
    go_wp2
    go_ret
    exact ⟨er_, pb_ HB.out⟩
  rw [if_pos c4] at H
  have c4b0 : decide (x5_1 < (l0.length : Int)) = true := decide_eq_true c4
  clear c4
  by_cases c5 : 0 ≤ x5_1
  rotate_left
  · rw [if_neg c5] at H
    exact absurd H (by simp)
  rw [if_pos c5] at H
  have c5b0 : decide (0 ≤ x5_1) = true := decide_eq_true c5
  clear c5
  by_cases c6 : x5_1 < (l1.length : Int)
  rotate_left
  · rw [if_neg c6] at H
    exact absurd H (by simp)
  rw [if_pos c6] at H
  have c6b0 : decide (x5_1 < (l1.length : Int)) = true := decide_eq_true c6
  clear c6
  replace H := Option.bind_eq_some_iff.mp H
  obtain ⟨t306, A70, H⟩ := H
  (try dsimp only at H)
  have A7 := Aside0.mk A70
  clear A70
  have HS_ := Aside0.mk H
  clear H
  try go_wp2
  have _ := Aside0.mk (below_drew1 HB.out)
  clear HB
  rename_i HB
  have p304 : 0 ≤ (x5_1 : Int) := dt_
  have q304 : x5_1 < (l0.length : Int) := dt_
  obtain ⟨ad304, A304_2, c304_2, A304_4, c304_4, e304, hx304_0, hx304_1, hx304_2, hx304_3, hx304_4, hl304_2, hi304_2, hl304_4, hi304_4⟩ := at_T55 HR0.out x5_1 p304 q304
  have hw304_4 := hx304_4
  have hw304_3 := hx304_3
  have hw304_2 := hx304_2
  have hw304_1 := hx304_1
  have hw304_0 := hx304_0
  cases e304
  replace hx304_0 := bt_ HB hx304_0
  replace hx304_1 := bt_ HB hx304_1
  replace hx304_2 := bt_ HB hx304_2
  replace hx304_3 := bt_ HB hx304_3
  replace hx304_4 := bt_ HB hx304_4
  have HR304_2 := Aside0.mk hi304_2
  have HC304_2 := Aside0.mk hl304_2
  clear hi304_2 hl304_2
  have HR304_4 := Aside0.mk hi304_4
  have HC304_4 := Aside0.mk hl304_4
  clear hi304_4 hl304_4
  replace p304 := eq_true p304
  replace q304 := eq_true q304
  have p305 : 0 ≤ (x5_1 : Int) := dt_
  have q305 : x5_1 < (l1.length : Int) := dt_
  obtain ⟨ad305, A305_2, c305_2, A305_4, c305_4, e305, hx305_0, hx305_1, hx305_2, hx305_3, hx305_4, hl305_2, hi305_2, hl305_4, hi305_4⟩ := at_T55 HR1.out x5_1 p305 q305
  have hw305_4 := hx305_4
  have hw305_3 := hx305_3
  have hw305_2 := hx305_2
  have hw305_1 := hx305_1
  have hw305_0 := hx305_0
  cases e305
  replace hx305_0 := bt_ HB hx305_0
  replace hx305_1 := bt_ HB hx305_1
  replace hx305_2 := bt_ HB hx305_2
  replace hx305_3 := bt_ HB hx305_3
  replace hx305_4 := bt_ HB hx305_4
  have HR305_2 := Aside0.mk hi305_2
  have HC305_2 := Aside0.mk hl305_2
  clear hi305_2 hl305_2
  have HR305_4 := Aside0.mk hi305_4
  have HC305_4 := Aside0.mk hl305_4
  clear hi305_4 hl305_4
  replace p305 := eq_true p305
  replace q305 := eq_true q305
  refine start_ (n := 10) (S := fun w' => w'.cell? (ad304.add ((x5_1).toNat * 5)) = some (.bool ((rd_T55 l0 x5_1).f0.f0)) ∧ w'.cell? ⟨(ad304.add ((x5_1).toNat * 5)).block, (ad304.add ((x5_1).toNat * 5)).off + 1, none⟩ = some (.int .i64 ((rd_T55 l0 x5_1).f0.f1)) ∧ w'.cell? ⟨(ad304.add ((x5_1).toNat * 5)).block, (ad304.add ((x5_1).toNat * 5)).off + 2, none⟩ = some (.slice A304_2 ((rd_T55 l0 x5_1).f0.f2).length c304_2) ∧ w'.cell? ⟨(ad304.add ((x5_1).toNat * 5)).block, (ad304.add ((x5_1).toNat * 5)).off + 3, none⟩ = some (.int .i64 ((rd_T55 l0 x5_1).f1)) ∧ w'.cell? ⟨(ad304.add ((x5_1).toNat * 5)).block, (ad304.add ((x5_1).toNat * 5)).off + 4, none⟩ = some (.slice A304_4 ((rd_T55 l0 x5_1).f2).length c304_4) ∧ w'.cell? (ad305.add ((x5_1).toNat * 5)) = some (.bool ((rd_T55 l1 x5_1).f0.f0)) ∧ w'.cell? ⟨(ad305.add ((x5_1).toNat * 5)).block, (ad305.add ((x5_1).toNat * 5)).off + 1, none⟩ = some (.int .i64 ((rd_T55 l1 x5_1).f0.f1)) ∧ w'.cell? ⟨(ad305.add ((x5_1).toNat * 5)).block, (ad305.add ((x5_1).toNat * 5)).off + 2, none⟩ = some (.slice A305_2 ((rd_T55 l1 x5_1).f0.f2).length c305_2) ∧ w'.cell? ⟨(ad305.add ((x5_1).toNat * 5)).block, (ad305.add ((x5_1).toNat * 5)).off + 3, none⟩ = some (.int .i64 ((rd_T55 l1 x5_1).f1)) ∧ w'.cell? ⟨(ad305.add ((x5_1).toNat * 5)).block, (ad305.add ((x5_1).toNat * 5)).off + 4, none⟩ = some (.slice A305_4 ((rd_T55 l1 x5_1).f2).length c305_4)) (ds := []) (tf_ 0 10) (by kernel_rfl) rfl rfl ⟨(bt_ HB hw304_0), (bt_ HB hw304_1), (bt_ HB hw304_2), (bt_ HB hw304_3), (bt_ HB hw304_4), (bt_ HB hw305_0), (bt_ HB hw305_1), (bt_ HB hw305_2), (bt_ HB hw305_3), (bt_ HB hw305_4)⟩ (fun hHeld => ?_); refine with_tabW laws_eqDialedS.tab6 laws_eqDialedS.bits6 (fun HT_ HW_ => ?_)
  generalize wr.drew = w8 at HB HR304_2 HR304_4 HR305_2 HR305_4 hx304_0 hx304_1 hx304_2 hx304_3 hx304_4 hx305_0 hx305_1 hx305_2 hx305_3 hx305_4 hHeld ⊢
  refine pu_ 0 (some 17) (tf_ 1 10) HT_ ?_
  refine pu_ 1 (some 18) (tf_ 2 10) HT_ ?_
  refine pu_ 2 (some 19) (tf_ 3 10) HT_ ?_
  refine pu_ 4 (some 21) (tm_ 10 23) HT_ ?_
  refine pu_ 5 (some 22) (tm_ 10 55) HT_ ?_
  refine pu_ 6 (some 23) (tm_ 10 119) HT_ ?_
  refine ta_ 3 (some 20) (tf_ 7 10) HT_ HW_ hHeld ?_
  refine ta_ 7 (some 24) (tf_ 8 10) HT_ HW_ hHeld ?_
  refine on_ 8 (some 25) (tf_ 9 10) HT_ (fun K hK => ?_)
  refine goes_ Try.func70 (by kernel_rfl) rfl #[.agg #[.bool ((rd_T55 l0 x5_1).f0.f0), .int .i64 ((rd_T55 l0 x5_1).f0.f1), .slice A304_2 ((rd_T55 l0 x5_1).f0.f2).length c304_2, .int .i64 ((rd_T55 l0 x5_1).f1), .slice A304_4 ((rd_T55 l0 x5_1).f2).length c304_4], .agg #[.bool ((rd_T55 l1 x5_1).f0.f0), .int .i64 ((rd_T55 l1 x5_1).f0.f1), .slice A305_2 ((rd_T55 l1 x5_1).f0.f2).length c305_2, .int .i64 ((rd_T55 l1 x5_1).f1), .slice A305_4 ((rd_T55 l1 x5_1).f2).length c305_4]] (by rfl) rfl rfl mp_ ?_
  with_reducible refine (laws_eqDialed.calls k1 ((rd_T55 l0 x5_1).f0.f0) ((rd_T55 l0 x5_1).f0.f1) _ _ ((rd_T55 l0 x5_1).f0.f2) ((rd_T55 l0 x5_1).f1) _ _ ((rd_T55 l0 x5_1).f2) ((rd_T55 l1 x5_1).f0.f0) ((rd_T55 l1 x5_1).f0.f1) _ _ ((rd_T55 l1 x5_1).f0.f2) ((rd_T55 l1 x5_1).f1) _ _ ((rd_T55 l1 x5_1).f2) t306 _ ?side1 ?side2 ?side3 ?side4 ?side5 ?side6 ?side7 ?side8 A7.out).mono ?_
  (case side1 => exact cb_ HR304_2 HB)
  (case side2 => exact HC304_2.out)
  (case side3 => exact cb_ HR304_4 HB)
  (case side4 => exact HC304_4.out)
  (case side5 => exact cb_ HR305_2 HB)
  (case side6 => exact HC305_2.out)
  (case side7 => exact cb_ HR305_4 HB)
  (case side8 => exact HC305_4.out)
  rintro e w9 ⟨rfl, hb⟩
  refine ⟨_, rfl, ?_⟩
  have _ := Aside0.mk (below_step (pb_ HB.out) hb)
  clear HB
  rename_i HB
  (try clear hb)
  (try clear hb2)
  (try clear hk)
  (try clear hi)
  refine hK.out _ _ ⟨(bt_ HB hw304_0), (bt_ HB hw304_1), (bt_ HB hw304_2), (bt_ HB hw304_3), (bt_ HB hw304_4), (bt_ HB hw305_0), (bt_ HB hw305_1), (bt_ HB hw305_2), (bt_ HB hw305_3), (bt_ HB hw305_4)⟩ (fun hHeld => ?_)
  clear hK K
  refine no_ (some 25) ?_
  refine pu_ 9 (some 26) (tf_ 10 10) HT_ ?_
  refine done_ (done_of HT_.out (by kernel_rfl)) ?_
  go_upto_if 26 with (fail)
  have H := HS_.out
  clear HS_
  by_cases c10 : t306 = true
  rotate_left
  · replace c10 := Bool.eq_false_iff.mpr c10
    subst c10
    rw [if_neg (show ¬ (false = true) by decide)] at H
    obtain rfl := Option.some.inj H
    go_wp2
    go_ret
    exact ⟨er_, pb_ HB.out⟩
  subst c10
  rw [if_pos rfl] at H
  have H' := Aside0.mk H
  clear H
  go_wp2
  go_roundg k1
  case measure => have := HK1.out; omega
  case rel => exact ⟨(wrap64 (x5_1 + 1)), el_, H', ⟨by have := HK1.out; omega⟩, ⟨pb_ HB.out⟩⟩

/-! ### laws_eqLogged: function 71 -/
def laws_eqLogged.f (k : Nat) (a0_0 : Int) (a0_1 : Int) (a0_2 : Bool) (a0_3 : Bool) (a0_4 : Int) (l0_5 : List Int) (a0_6 : Int) (l0_7 : List Int) (a1_0 : Int) (a1_1 : Int) (a1_2 : Bool) (a1_3 : Bool) (a1_4 : Int) (l1_5 : List Int) (a1_6 : Int) (l1_7 : List Int) : Option (Bool) := if a0_0 = a1_0 then (if a0_1 = a1_1 then (if a0_2 = true then (if a1_2 = true then ((laws_eqDialed.f k a0_3 a0_4 l0_5 a0_6 l0_7 a1_3 a1_4 l1_5 a1_6 l1_7).bind fun t309 => (if t309 = true then (some true) else (some false))) else (some false)) else (if a1_2 = true then (some false) else ((laws_eqDialed.f k a0_3 a0_4 l0_5 a0_6 l0_7 a1_3 a1_4 l1_5 a1_6 l1_7).bind fun t310 => (if t310 = true then (some true) else (some false))))) else (some false)) else (some false)
theorem laws_eqLogged.mono : ∀ a0 a1 a2 a3 a4 a5 a6 a7 a8 a9 a10 a11 a12 a13 a14 a15 k, LeO (laws_eqLogged.f k a0 a1 a2 a3 a4 a5 a6 a7 a8 a9 a10 a11 a12 a13 a14 a15) (laws_eqLogged.f (k + 1) a0 a1 a2 a3 a4 a5 a6 a7 a8 a9 a10 a11 a12 a13 a14 a15) := by
  intro a0 a1 a2 a3 a4 a5 a6 a7 a8 a9 a10 a11 a12 a13 a14 a15 k
  unfold laws_eqLogged.f
  repeat' first
      | (with_reducible exact laws_eqDialed.mono _ _ _ _ _ _ _ _ _ _ _)
      | (with_reducible exact LeO.refl _)
      | (with_reducible exact LeO.none _)
      | (with_reducible refine LeO.ite ?_ ?_)
      | (with_reducible refine LeO.bind ?_ (fun _ => ?_))
      | exact laws_eqDialed.mono _ _ _ _ _ _ _ _ _ _ _
      | exact LeO.none _
      | refine LeO.ite ?_ ?_
      | refine LeO.bind ?_ (fun _ => ?_)
set_option maxHeartbeats 8000000 in
set_option maxRecDepth 100000 in
theorem laws_eqLogged.calls (k : Nat) (a0_0 : Int) (a0_1 : Int) (a0_2 : Bool) (a0_3 : Bool) (a0_4 : Int) (A0_5 : Option Addr) (c0_5 : Nat) (l0_5 : List Int) (a0_6 : Int) (A0_7 : Option Addr) (c0_7 : Nat) (l0_7 : List Int) (a1_0 : Int) (a1_1 : Int) (a1_2 : Bool) (a1_3 : Bool) (a1_4 : Int) (A1_5 : Option Addr) (c1_5 : Nat) (l1_5 : List Int) (a1_6 : Int) (A1_7 : Option Addr) (c1_7 : Nat) (l1_7 : List Int) (r : Bool) (w : World) (hr0_5 : Kd.C (Kd.int .i64) w A0_5 l0_5.length l0_5) (hc0_5 : l0_5.length ≤ c0_5) (hr0_7 : Kd.C (Kd.int .i64) w A0_7 l0_7.length l0_7) (hc0_7 : l0_7.length ≤ c0_7) (hr1_5 : Kd.C (Kd.int .i64) w A1_5 l1_5.length l1_5) (hc1_5 : l1_5.length ≤ c1_5) (hr1_7 : Kd.C (Kd.int .i64) w A1_7 l1_7.length l1_7) (hc1_7 : l1_7.length ≤ c1_7) (h : laws_eqLogged.f k a0_0 a0_1 a0_2 a0_3 a0_4 l0_5 a0_6 l0_7 a1_0 a1_1 a1_2 a1_3 a1_4 l1_5 a1_6 l1_7 = some r) :
    Calls Try.prog 71 #[.agg #[.int .i64 a0_0, .int .i64 a0_1, .bool a0_2, .bool a0_3, .int .i64 a0_4, .slice A0_5 l0_5.length c0_5, .int .i64 a0_6, .slice A0_7 l0_7.length c0_7], .agg #[.int .i64 a1_0, .int .i64 a1_1, .bool a1_2, .bool a1_3, .int .i64 a1_4, .slice A1_5 l1_5.length c1_5, .int .i64 a1_6, .slice A1_7 l1_7.length c1_7]] w fun e w' => e = .returned (.bool r) ∧ Below w.heap.size w w' := by
  have hu57 := Try.underlying57
  have hu55 := Try.underlying55
  have HR0_5 := Aside0.mk hr0_5
  have HC0_5 := Aside0.mk hc0_5
  clear hr0_5 hc0_5
  have HR0_7 := Aside0.mk hr0_7
  have HC0_7 := Aside0.mk hc0_7
  clear hr0_7 hc0_7
  have HR1_5 := Aside0.mk hr1_5
  have HC1_5 := Aside0.mk hc1_5
  clear hr1_5 hc1_5
  have HR1_7 := Aside0.mk hr1_7
  have HC1_7 := Aside0.mk hc1_7
  clear hr1_7 hc1_7
  have HB := Aside0.mk (Below.refl w.heap.size w)
  have H : (if a0_0 = a1_0 then (if a0_1 = a1_1 then (if a0_2 = true then (if a1_2 = true then ((laws_eqDialed.f k a0_3 a0_4 l0_5 a0_6 l0_7 a1_3 a1_4 l1_5 a1_6 l1_7).bind fun t309 => (if t309 = true then (some true) else (some false))) else (some false)) else (if a1_2 = true then (some false) else ((laws_eqDialed.f k a0_3 a0_4 l0_5 a0_6 l0_7 a1_3 a1_4 l1_5 a1_6 l1_7).bind fun t310 => (if t310 = true then (some true) else (some false))))) else (some false)) else (some false)) = some r := h
  clear h
  have HS_ := Aside0.mk H
  clear H
  go_enter Try.func71, Try.ntmps71
  go_upto_region 1 with (first | ((with_reducible refine gate_dst (N := 2) rfl ?_); refine box_event ?hg (N := 2) ?hd (cs := #[.int .i64 a0_0, .int .i64 a0_1, .bool a0_2, .bool a0_3, .int .i64 a0_4, .slice A0_5 l0_5.length c0_5, .int .i64 a0_6, .slice A0_7 l0_7.length c0_7]) (t := 57) ?hr ?_; (case hd => rfl); (case hg => rfl); (case hr => first | (go_simp; done) | (go_simp; rfl)); intro gb307 hg w3 hbox hb; have n0_ := Aside0.mk (below_step (pb_ HB.out) hb); have n1_ := Aside0.mk (hbox); have n2_ := Aside0.mk ((by rw [hg]; exact (below_size (pb_ HB.out)) : w.heap.size ≤ gb307)); have n3_ := Aside0.mk ((by rw [hg]; exact (below_size (pb_ HB.out)) : w.heap.size ≤ gb307)); clear HB; have HB := n0_; have BK307 := n1_; have GW307 := n2_; have GE307 := n3_; clear n0_ n1_ n2_ n3_; clear hb hbox hg) | ((with_reducible refine gate_dst (N := 3) rfl ?_); refine box_event ?hg (N := 3) ?hd (cs := #[.int .i64 a1_0, .int .i64 a1_1, .bool a1_2, .bool a1_3, .int .i64 a1_4, .slice A1_5 l1_5.length c1_5, .int .i64 a1_6, .slice A1_7 l1_7.length c1_7]) (t := 57) ?hr ?_; (case hd => rfl); (case hg => rfl); (case hr => first | (go_simp; done) | (go_simp; rfl)); intro gb308 hg w4 hbox hb; have n0_ := Aside0.mk (bb_ BK307.out hb); have n1_ := Aside0.mk (below_step (pb1_ HB.out GE307.out) hb); have n2_ := Aside0.mk (hbox); have n3_ := Aside0.mk ((by rw [hg]; exact (below_size (pb1_ HB.out GE307.out)) : w.heap.size ≤ gb308)); have n4_ := Aside0.mk ((by rw [hg]; exact (below_size (pb1_ HB.out GE307.out)) : w.heap.size ≤ gb308)); have n5_ := Aside0.mk ((by rw [hg]; exact Nat.ne_of_lt (blk_lt (pk_ BK307.out)) : gb307 ≠ gb308)); have n6_ := Aside0.mk ((by rw [hg]; exact Nat.ne_of_gt (blk_lt (pk_ BK307.out)) : gb308 ≠ gb307)); clear BK307; clear HB; have BK307 := n0_; have HB := n1_; have BK308 := n2_; have GW308 := n3_; have GE308 := n4_; have NB307_308 := n5_; have NB308_307 := n6_; clear n0_ n1_ n2_ n3_ n4_ n5_ n6_; clear hb hbox hg))
  (try simp only [Act.put, List.setIfInBounds_toArray, List.set_cons_zero, List.set_cons_succ])
  have H := HS_.out
  clear HS_
  by_cases c5 : a0_0 = a1_0
  rotate_left
  · rw [if_neg c5] at H
    have c5b0 : (a0_0 == a1_0) = false := beq_eq_false_iff_ne.mpr c5
    have c5b1 : (a0_0 != a1_0) = true := bne_iff_ne.mpr c5
    (first | rw [c5b0] | (simp only [i64_w, i32_w]; rw [c5b0]) | rw [c5b1] | (have c_ := c5b1; rw [bne] at c_; rw [c_]; clear c_) | skip)
    obtain rfl := Option.some.inj H
    have hnb6 := NB307_308.out
    have hnc6 := NB308_307.out
    have hcz7 := bc8_ BK307.out
    have hcz8 := bc8_ BK308.out
    go_wp2
    go_ret
    exact ⟨er_, pb2_ HB.out GE307.out GE308.out⟩
  rw [if_pos c5] at H
  have c5b0 : (a0_0 == a1_0) = true := beq_iff_eq.mpr c5
  have c5b1 : (a0_0 != a1_0) = false := bne_eq_false_iff_eq.mpr c5
  clear c5
  (first | rw [c5b0] | (simp only [i64_w, i32_w]; rw [c5b0]) | rw [c5b1] | (have c_ := c5b1; rw [bne] at c_; rw [c_]; clear c_) | skip)
  by_cases c9 : a0_1 = a1_1
  rotate_left
  · rw [if_neg c9] at H
    have c9b0 : (a0_1 == a1_1) = false := beq_eq_false_iff_ne.mpr c9
    have c9b1 : (a0_1 != a1_1) = true := bne_iff_ne.mpr c9
    obtain rfl := Option.some.inj H
    have hnb10 := NB307_308.out
    have hnc10 := NB308_307.out
    have hcz11 := bc8_ BK307.out
    have hcz12 := bc8_ BK308.out
    go_wp2
    go_ret
    exact ⟨er_, pb2_ HB.out GE307.out GE308.out⟩
  rw [if_pos c9] at H
  have c9b0 : (a0_1 == a1_1) = true := beq_iff_eq.mpr c9
  have c9b1 : (a0_1 != a1_1) = false := bne_eq_false_iff_eq.mpr c9
  clear c9
  by_cases c13 : a0_2 = true
  rotate_left
  · replace c13 := Bool.eq_false_iff.mpr c13
    subst c13
    rw [if_neg (show ¬ (false = true) by decide)] at H
    by_cases c14 : a1_2 = true
    · subst c14
      rw [if_pos rfl] at H
      obtain rfl := Option.some.inj H
      have hnb15 := NB307_308.out
      have hnc15 := NB308_307.out
      have hcz16 := bc8_ BK307.out
      have hcz17 := bc8_ BK308.out
      go_wp2
      go_ret
      exact ⟨er_, pb2_ HB.out GE307.out GE308.out⟩
    replace c14 := Bool.eq_false_iff.mpr c14
    subst c14
    rw [if_neg (show ¬ (false = true) by decide)] at H
    replace H := Option.bind_eq_some_iff.mp H
    obtain ⟨t310, A180, H⟩ := H
    replace H : (if t310 = true then (some true) else (some false)) = some r := H
    have A18 := Aside0.mk A180
    clear A180
    have HS_ := Aside0.mk H
    clear H
    have hnb19 := NB307_308.out
    have hnc19 := NB308_307.out
    have hcz20 := bc8_ BK307.out
    have hcz21 := bc8_ BK308.out
    go_upto_if 25 with (first | ((with_reducible refine gate_callee (f := 70) rfl ?_); refine gl_ (some 24) Try.func70 #[.agg #[.bool a0_3, .int .i64 a0_4, .slice A0_5 l0_5.length c0_5, .int .i64 a0_6, .slice A0_7 l0_7.length c0_7], .agg #[.bool a1_3, .int .i64 a1_4, .slice A1_5 l1_5.length c1_5, .int .i64 a1_6, .slice A1_7 l1_7.length c1_7]] ?_; (with_reducible refine (laws_eqDialed.calls k a0_3 a0_4 _ _ l0_5 a0_6 _ _ l0_7 a1_3 a1_4 _ _ l1_5 a1_6 _ _ l1_7 t310 _ ?side1 ?side2 ?side3 ?side4 ?side5 ?side6 ?side7 ?side8 A18.out).mono ?_); (case side1 => exact cb_ HR0_5 HB); (case side2 => exact HC0_5.out); (case side3 => exact cb_ HR0_7 HB); (case side4 => exact HC0_7.out); (case side5 => exact cb_ HR1_5 HB); (case side6 => exact HC1_5.out); (case side7 => exact cb_ HR1_7 HB); (case side8 => exact HC1_7.out); rintro e w22 ⟨rfl, hb⟩; refine ⟨_, rfl, ?_⟩; have _ := Aside0.mk (bb_ BK307.out hb); have _ := Aside0.mk (bb_ BK308.out hb); have _ := Aside0.mk (below_step (pb2_ HB.out GE307.out GE308.out) hb); clear BK307 BK308 HB; rename_i BK307 BK308 HB; (try clear hb); (try clear hb2); (try clear hk); (try clear hi)))
    (try simp only [Act.put, List.setIfInBounds_toArray, List.set_cons_zero, List.set_cons_succ])
    have H := HS_.out
    clear HS_
    by_cases c23 : t310 = true
    rotate_left
    · replace c23 := Bool.eq_false_iff.mpr c23
      subst c23
      rw [if_neg (show ¬ (false = true) by decide)] at H
      obtain rfl := Option.some.inj H
      go_wp2
      go_ret
      exact ⟨er_, pb2_ HB.out GE307.out GE308.out⟩
    subst c23
    rw [if_pos rfl] at H
    obtain rfl := Option.some.inj H
    go_wp2
    go_ret
    exact ⟨er_, pb2_ HB.out GE307.out GE308.out⟩
  subst c13
  rw [if_pos rfl] at H
  by_cases c24 : a1_2 = true
  rotate_left
  · replace c24 := Bool.eq_false_iff.mpr c24
    subst c24
    rw [if_neg (show ¬ (false = true) by decide)] at H
    obtain rfl := Option.some.inj H
    have hnb25 := NB307_308.out
    have hnc25 := NB308_307.out
    have hcz26 := bc8_ BK307.out
    have hcz27 := bc8_ BK308.out
    go_wp2
    go_ret
    exact ⟨er_, pb2_ HB.out GE307.out GE308.out⟩
  subst c24
  rw [if_pos rfl] at H
  replace H := Option.bind_eq_some_iff.mp H
  obtain ⟨t309, A280, H⟩ := H
  replace H : (if t309 = true then (some true) else (some false)) = some r := H
  have A28 := Aside0.mk A280
  clear A280
  have HS_ := Aside0.mk H
  clear H
  have hnb29 := NB307_308.out
  have hnc29 := NB308_307.out
  have hcz30 := bc8_ BK307.out
  have hcz31 := bc8_ BK308.out
  go_upto_if 25 with (first | ((with_reducible refine gate_callee (f := 70) rfl ?_); refine gl_ (some 24) Try.func70 #[.agg #[.bool a0_3, .int .i64 a0_4, .slice A0_5 l0_5.length c0_5, .int .i64 a0_6, .slice A0_7 l0_7.length c0_7], .agg #[.bool a1_3, .int .i64 a1_4, .slice A1_5 l1_5.length c1_5, .int .i64 a1_6, .slice A1_7 l1_7.length c1_7]] ?_; (with_reducible refine (laws_eqDialed.calls k a0_3 a0_4 _ _ l0_5 a0_6 _ _ l0_7 a1_3 a1_4 _ _ l1_5 a1_6 _ _ l1_7 t309 _ ?side1 ?side2 ?side3 ?side4 ?side5 ?side6 ?side7 ?side8 A28.out).mono ?_); (case side1 => exact cb_ HR0_5 HB); (case side2 => exact HC0_5.out); (case side3 => exact cb_ HR0_7 HB); (case side4 => exact HC0_7.out); (case side5 => exact cb_ HR1_5 HB); (case side6 => exact HC1_5.out); (case side7 => exact cb_ HR1_7 HB); (case side8 => exact HC1_7.out); rintro e w32 ⟨rfl, hb⟩; refine ⟨_, rfl, ?_⟩; have _ := Aside0.mk (bb_ BK307.out hb); have _ := Aside0.mk (bb_ BK308.out hb); have _ := Aside0.mk (below_step (pb2_ HB.out GE307.out GE308.out) hb); clear BK307 BK308 HB; rename_i BK307 BK308 HB; (try clear hb); (try clear hb2); (try clear hk); (try clear hi)))
  (try simp only [Act.put, List.setIfInBounds_toArray, List.set_cons_zero, List.set_cons_succ])
  have H := HS_.out
  clear HS_
  by_cases c33 : t309 = true
  rotate_left
  · replace c33 := Bool.eq_false_iff.mpr c33
    subst c33
    rw [if_neg (show ¬ (false = true) by decide)] at H
    obtain rfl := Option.some.inj H
    go_wp2
    go_ret
    exact ⟨er_, pb2_ HB.out GE307.out GE308.out⟩
  subst c33
  rw [if_pos rfl] at H
  obtain rfl := Option.some.inj H
  go_wp2
  go_ret
  exact ⟨er_, pb2_ HB.out GE307.out GE308.out⟩

end Go.Proofs.Ytchnkakjjbfklaa.Print
