-- Written by a program of this session (printx.py) out of the translation; Lean checks it.
import Derived.Test.YtlcpaebidnaolaaPrint0
import Derived.Test.YtlcpaebidnaolaaPrint2
import Derived.Test.YtlcpaebidnaolaaPrint8
import Derived.Test.YtlcpaebidnaolaaPrint10
import Derived.Test.YtlcpaebidnaolaaPrint13
namespace Go.Proofs.Ytlcpaebidnaolaa.Print
open Go.RowKit Go.Proofs.YtlcpaebidnaolaaW.PrintWords Go.Proofs.YtlcpaebidnaolaaW.PrintLast Go.Proofs.YtlcpaebidnaolaaW.PrintMore Go.Proofs.Ytlcpaebidnaolaa.Short
attribute [local go_sem] max2_int min2_int max_two min_two max_three min_three max_four min_four   -- for this text's walks alone
set_option linter.unusedVariables false
set_option maxHeartbeats 8000000
set_option maxRecDepth 100000
set_option linter.unusedSimpArgs false

/-! ### spec_GivenUp: function 52 -/
def spec_GivenUp.l0 : Nat → List Int → Int → List Int → List (S113) → List Int → List (S113) → Option (List Int)
 | 0, _, _, _, _, _, _ => none
 | k + 1, x5, x6, x614000, x614001, x615000, x615001 => if x6 < (x614001.length : Int) then (if 0 ≤ x6 then ((spec_ExtOf.f k x615001 ((rd_T113 x614001 x6).f0)).bind fun t619 => (if t619 < 0 then ((spec_l1In.f ((rd_T113 x614001 x6).f0) 0 255).bind fun t621 => (if t621 = true then (if x5.length < 17592186044416 then (spec_GivenUp.l0 k (x5 ++ [wrap64 (1000 + ((rd_T113 x614001 x6).f0))]) (wrap64 (x6 + 1)) x614000 x614001 x615000 x615001) else (none)) else (spec_GivenUp.l0 k x5 (wrap64 (x6 + 1)) x614000 x614001 x615000 x615001))) else (spec_GivenUp.l0 k x5 (wrap64 (x6 + 1)) x614000 x614001 x615000 x615001))) else (none)) else (some x5)
def spec_GivenUp.f (k : Nat) (l0_0 : List Int) (l0_1 : List (S113)) (l1_0 : List Int) (l1_1 : List (S113)) : Option (List Int) := (spec_l21Left.f k l0_0 l1_0).bind fun t615 => (spec_GivenUp.l0 k t615 0 l0_0 l0_1 l1_0 l1_1)
theorem spec_GivenUp.mono_l : ∀ k, (∀ y0 y1 y2 y3 y4 y5, LeO (spec_GivenUp.l0 k y0 y1 y2 y3 y4 y5) (spec_GivenUp.l0 (k + 1) y0 y1 y2 y3 y4 y5))
 | 0 => fun _ _ _ _ _ _ r h => by simp [spec_GivenUp.l0] at h
 | k + 1 => by
  have ih0 := spec_GivenUp.mono_l k
  ·intro y0 y1 y2 y3 y4 y5
   unfold spec_GivenUp.l0
   exact mo3_ ih0 spec_ExtOf.mono spec_l21Left.mono
theorem spec_GivenUp.mono : ∀ a0 a1 a2 a3 k, LeO (spec_GivenUp.f k a0 a1 a2 a3) (spec_GivenUp.f (k + 1) a0 a1 a2 a3) := by
 intro a0 a1 a2 a3 k
 have ih0 := spec_GivenUp.mono_l k
 unfold spec_GivenUp.f
 exact mo3_ ih0 spec_ExtOf.mono spec_l21Left.mono
theorem spec_GivenUp.calls (k : Nat) (A0_0 : Option Addr) (c0_0 : Nat) (l0_0 : List Int) (A0_1 : Option Addr) (c0_1 : Nat) (l0_1 : List (S113)) (A1_0 : Option Addr) (c1_0 : Nat) (l1_0 : List Int) (A1_1 : Option Addr) (c1_1 : Nat) (l1_1 : List (S113)) (r : List Int) (w : World) (hr0_0 : Kd.C (Kd.int .i64) w A0_0 l0_0.length l0_0) (hc0_0 : l0_0.length ≤ c0_0) (hr0_1 : Kd.C k113 w A0_1 l0_1.length l0_1) (hc0_1 : l0_1.length ≤ c0_1) (hr1_0 : Kd.C (Kd.int .i64) w A1_0 l1_0.length l1_0) (hc1_0 : l1_0.length ≤ c1_0) (hr1_1 : Kd.C k113 w A1_1 l1_1.length l1_1) (hc1_1 : l1_1.length ≤ c1_1) (h : spec_GivenUp.f k l0_0 l0_1 l1_0 l1_1 = some r) :
  Calls Try.prog 52 #[.agg #[.slice A0_0 l0_0.length c0_0, .slice A0_1 l0_1.length c0_1], .agg #[.slice A1_0 l1_0.length c1_0, .slice A1_1 l1_1.length c1_1]] w fun e w' => ∃ v0_ : Value, e = .returned (v0_) ∧ Kd.R (Kd.int .i64) 3 w' w.heap.size (fun _ => True) v0_ r ∧ Below w.heap.size w w' := by
 have hu71 := Try.underlying71
 have HR0_0 := Q_ hr0_0
 have HC0_0 := Q_ hc0_0
 clear hr0_0 hc0_0
 have HR0_1 := Q_ hr0_1
 have HC0_1 := Q_ hc0_1
 clear hr0_1 hc0_1
 have HR1_0 := Q_ hr1_0
 have HC1_0 := Q_ hc1_0
 clear hr1_0 hc1_0
 have HR1_1 := Q_ hr1_1
 have HC1_1 := Q_ hc1_1
 clear hr1_1 hc1_1
 have HB := Q_ (Below.refl w.heap.size w)
 have H : ((spec_l21Left.f k l0_0 l1_0).bind fun t615 => (spec_GivenUp.l0 k t615 0 l0_0 l0_1 l1_0 l1_1)) = some r := h
 clear h
 replace H := Option.bind_eq_some_iff.mp H
 obtain ⟨t615, A30, H⟩ := H
 replace H : (spec_GivenUp.l0 k t615 0 l0_0 l0_1 l1_0 l1_1) = some r := H
 have A3 := Q_ A30
 clear A30
 have H' := Q_ H
 clear H
 go_enter Try.func52, Try.ntmps52
 go_wp2_with (first | ((with_reducible refine gate_dst (N := 2) rfl ?_); refine box_event ?hg (N := 2) ?hd (cs := #[.slice A0_0 l0_0.length c0_0, .slice A0_1 l0_1.length c0_1]) (t := 71) ?hr ?_; (case hd => rfl); (case hg => rfl); (case hr => first | (go_simp; done) | (go_simp; rfl)); intro gb613 hg w4 hbox hb; have _ := Q_ (below_step (pb_ HB.out) hb); have BK613 := Q_ (hbox); have GW613 := Q_ ((by rw [hg]; exact (below_size (pb_ HB.out)) : w.heap.size ≤ gb613)); have GE613 := GW613; clear HB; rename_i HB; clear hb hbox hg) | ((with_reducible refine gate_dst (N := 3) rfl ?_); refine box_event ?hg (N := 3) ?hd (cs := #[.slice A1_0 l1_0.length c1_0, .slice A1_1 l1_1.length c1_1]) (t := 71) ?hr ?_; (case hd => rfl); (case hg => rfl); (case hr => first | (go_simp; done) | (go_simp; rfl)); intro gb614 hg w5 hbox hb; have _ := Q_ (bb_ BK613.out hb); have _ := Q_ (below_step (pb1_ HB.out GE613.out) hb); have BK614 := Q_ (hbox); have GW614 := Q_ ((by rw [hg]; exact (below_size (pb1_ HB.out GE613.out)) : w.heap.size ≤ gb614)); have GE614 := GW614; have NB613_614 := Q_ ((by rw [hg]; exact Nat.ne_of_lt (blk_lt (pk_ BK613.out)) : gb613 ≠ gb614)); have NB614_613 := Q_ NB613_614.out.symm; clear BK613 HB; rename_i BK613 HB; clear hb hbox hg; have hnb6 := NB613_614.out; have hnc6 := NB614_613.out; obtain ⟨hcz7_0, hcz7_1, hfz7_0, hfz7_1⟩ := bc2_ BK613.out; obtain ⟨hcz8_0, hcz8_1, hfz8_0, hfz8_1⟩ := bc2_ BK614.out) | (go_at_call 70; (with_reducible refine (spec_l21Left.calls k _ _ l0_0 _ _ l1_0 t615 _ ?side1 ?side2 ?side3 ?side4 A3.out).mono ?_); (case side1 => exact cb_ HR0_0 HB); (case side2 => exact HC0_0.out); (case side3 => exact cb_ HR1_0 HB); (case side4 => exact HC1_0.out); rintro e w9 ⟨v616, rfl, ho0, hb⟩; have _ := Q_ (Kd.R_lower ho0 (below_size (pb2_ HB.out GE613.out GE614.out))); have _ := Q_ (bb_ BK613.out hb); have _ := Q_ (bb_ BK614.out hb); have _ := Q_ (below_step (pb2_ HB.out GE613.out GE614.out) hb); clear BK613 BK614 HB; rename_i HO617 BK613 BK614 HB; (try clear hb); (try clear hb2); (try clear hk); (try clear hi); (try clear ho0)))
 repeat (go_quiet (first | ((with_reducible refine gate_dst (N := 2) rfl ?_); refine box_event ?hg (N := 2) ?hd (cs := #[.slice A0_0 l0_0.length c0_0, .slice A0_1 l0_1.length c0_1]) (t := 71) ?hr ?_; (case hd => rfl); (case hg => rfl); (case hr => first | (go_simp; done) | (go_simp; rfl)); intro gb613 hg w4 hbox hb; have _ := Q_ (below_step (pb_ HB.out) hb); have BK613 := Q_ (hbox); have GW613 := Q_ ((by rw [hg]; exact (below_size (pb_ HB.out)) : w.heap.size ≤ gb613)); have GE613 := GW613; clear HB; rename_i HB; clear hb hbox hg) | ((with_reducible refine gate_dst (N := 3) rfl ?_); refine box_event ?hg (N := 3) ?hd (cs := #[.slice A1_0 l1_0.length c1_0, .slice A1_1 l1_1.length c1_1]) (t := 71) ?hr ?_; (case hd => rfl); (case hg => rfl); (case hr => first | (go_simp; done) | (go_simp; rfl)); intro gb614 hg w5 hbox hb; have _ := Q_ (bb_ BK613.out hb); have _ := Q_ (below_step (pb1_ HB.out GE613.out) hb); have BK614 := Q_ (hbox); have GW614 := Q_ ((by rw [hg]; exact (below_size (pb1_ HB.out GE613.out)) : w.heap.size ≤ gb614)); have GE614 := GW614; have NB613_614 := Q_ ((by rw [hg]; exact Nat.ne_of_lt (blk_lt (pk_ BK613.out)) : gb613 ≠ gb614)); have NB614_613 := Q_ NB613_614.out.symm; clear BK613 HB; rename_i BK613 HB; clear hb hbox hg; have hnb6 := NB613_614.out; have hnc6 := NB614_613.out; obtain ⟨hcz7_0, hcz7_1, hfz7_0, hfz7_1⟩ := bc2_ BK613.out; obtain ⟨hcz8_0, hcz8_1, hfz8_0, hfz8_1⟩ := bc2_ BK614.out) | (go_at_call 70; (with_reducible refine (spec_l21Left.calls k _ _ l0_0 _ _ l1_0 t615 _ ?side1 ?side2 ?side3 ?side4 A3.out).mono ?_); (case side1 => exact cb_ HR0_0 HB); (case side2 => exact HC0_0.out); (case side3 => exact cb_ HR1_0 HB); (case side4 => exact HC1_0.out); rintro e w9 ⟨v616, rfl, ho0, hb⟩; have _ := Q_ (Kd.R_lower ho0 (below_size (pb2_ HB.out GE613.out GE614.out))); have _ := Q_ (bb_ BK613.out hb); have _ := Q_ (bb_ BK614.out hb); have _ := Q_ (below_step (pb2_ HB.out GE613.out GE614.out) hb); clear BK613 BK614 HB; rename_i HO617 BK613 BK614 HB; (try clear hb); (try clear hb2); (try clear hk); (try clear hi); (try clear ho0))); try go_wp2_with (first | ((with_reducible refine gate_dst (N := 2) rfl ?_); refine box_event ?hg (N := 2) ?hd (cs := #[.slice A0_0 l0_0.length c0_0, .slice A0_1 l0_1.length c0_1]) (t := 71) ?hr ?_; (case hd => rfl); (case hg => rfl); (case hr => first | (go_simp; done) | (go_simp; rfl)); intro gb613 hg w4 hbox hb; have _ := Q_ (below_step (pb_ HB.out) hb); have BK613 := Q_ (hbox); have GW613 := Q_ ((by rw [hg]; exact (below_size (pb_ HB.out)) : w.heap.size ≤ gb613)); have GE613 := GW613; clear HB; rename_i HB; clear hb hbox hg) | ((with_reducible refine gate_dst (N := 3) rfl ?_); refine box_event ?hg (N := 3) ?hd (cs := #[.slice A1_0 l1_0.length c1_0, .slice A1_1 l1_1.length c1_1]) (t := 71) ?hr ?_; (case hd => rfl); (case hg => rfl); (case hr => first | (go_simp; done) | (go_simp; rfl)); intro gb614 hg w5 hbox hb; have _ := Q_ (bb_ BK613.out hb); have _ := Q_ (below_step (pb1_ HB.out GE613.out) hb); have BK614 := Q_ (hbox); have GW614 := Q_ ((by rw [hg]; exact (below_size (pb1_ HB.out GE613.out)) : w.heap.size ≤ gb614)); have GE614 := GW614; have NB613_614 := Q_ ((by rw [hg]; exact Nat.ne_of_lt (blk_lt (pk_ BK613.out)) : gb613 ≠ gb614)); have NB614_613 := Q_ NB613_614.out.symm; clear BK613 HB; rename_i BK613 HB; clear hb hbox hg; have hnb6 := NB613_614.out; have hnc6 := NB614_613.out; obtain ⟨hcz7_0, hcz7_1, hfz7_0, hfz7_1⟩ := bc2_ BK613.out; obtain ⟨hcz8_0, hcz8_1, hfz8_0, hfz8_1⟩ := bc2_ BK614.out) | (go_at_call 70; (with_reducible refine (spec_l21Left.calls k _ _ l0_0 _ _ l1_0 t615 _ ?side1 ?side2 ?side3 ?side4 A3.out).mono ?_); (case side1 => exact cb_ HR0_0 HB); (case side2 => exact HC0_0.out); (case side3 => exact cb_ HR1_0 HB); (case side4 => exact HC1_0.out); rintro e w9 ⟨v616, rfl, ho0, hb⟩; have _ := Q_ (Kd.R_lower ho0 (below_size (pb2_ HB.out GE613.out GE614.out))); have _ := Q_ (bb_ BK613.out hb); have _ := Q_ (bb_ BK614.out hb); have _ := Q_ (below_step (pb2_ HB.out GE613.out GE614.out) hb); clear BK613 BK614 HB; rename_i HO617 BK613 BK614 HB; (try clear hb); (try clear hb2); (try clear hk); (try clear hi); (try clear ho0))))
 (try simp only [Act.put, List.setIfInBounds_toArray, List.set_cons_zero, List.set_cons_succ])
 go_loopg [5, 6] k (fun kq v5 v6 w' => ∃ (x5_1 : List Int) (x6_1 : Int), v6 = .int .i64 x6_1 ∧ Aside0 (spec_GivenUp.l0 kq x5_1 x6_1 l0_0 l0_1 l1_0 l1_1 = some r) ∧ Aside0 (kq ≤ k) ∧ Aside0 (Kd.R (Kd.int .i64) 3 w' w.heap.size (fun _ => True) v5 x5_1) ∧ Aside0 (w'.heap[gb613]? = some (.cells #[(.slice A0_0 l0_0.length c0_0), (.slice A0_1 l0_1.length c0_1)] 71 (0, 0))) ∧ Aside0 (w'.heap[gb614]? = some (.cells #[(.slice A1_0 l1_0.length c1_0), (.slice A1_1 l1_1.length c1_1)] 71 (0, 0))) ∧ Aside0 (Below w.heap.size w w'))
 case atStart => exact ⟨(t615), (0), el_, H', ⟨Nat.le_refl _⟩, ⟨pr_ HO617.out⟩, ⟨pk_ BK613.out⟩, ⟨pk_ BK614.out⟩, ⟨pb2_ HB.out GE613.out GE614.out⟩⟩
 clear H'
 try clear c1
 try clear p2
 try clear c5
 try clear c6
 try clear hcz7_0
 try clear hcz7_1
 try clear hcz8_0
 try clear hcz8_1
 try clear hfz7_0
 try clear hfz7_1
 try clear hfz8_0
 try clear hfz8_1
 obtain ⟨x5_1, x6_1, rfl, HA, HK1, HO_5, BK613, BK614, HB⟩ := hrel
 rcases gk with _ | k1
 ·exact absurd HA.out (by simp [spec_GivenUp.l0])
 have H := HA.out
 clear HA
 simp only [spec_GivenUp.l0] at H
 by_cases c10 : x6_1 < (l0_1.length : Int)
 rotate_left
 ·rw [if_neg c10] at H
  have c10b0 : decide (x6_1 < (l0_1.length : Int)) = false := decide_eq_false c10
  clear c10
  obtain rfl := Option.some.inj H
  have hnb11 := NB613_614.out
  have hnc11 := NB614_613.out
  have hcz12 := bc2_ BK613.out
  go_wp2
  repeat (go_quiet (fail); try go_wp2)
  go_ret
  exact ⟨_, er_, pr_ HO_5.out, pb2_ HB.out GE613.out GE614.out⟩
 rw [if_pos c10] at H
 have c10b0 : decide (x6_1 < (l0_1.length : Int)) = true := decide_eq_true c10
 clear c10
 by_cases c13 : 0 ≤ x6_1
 rotate_left
 ·rw [if_neg c13] at H
  exact absurd H (by simp)
 rw [if_pos c13] at H
 have c13b0 : decide (0 ≤ x6_1) = true := decide_eq_true c13
 clear c13
 replace H := Option.bind_eq_some_iff.mp H
 obtain ⟨t619, A140, H⟩ := H
 (try dsimp only at H)
 have A14 := Q_ A140
 clear A140
 by_cases c15 : t619 < 0
 rotate_left
 ·rw [if_neg c15] at H
  have c15b0 : decide (t619 < 0) = false := decide_eq_false c15
  clear c15
  have H' := Q_ H
  clear H
  have hnb16 := NB613_614.out
  have hnc16 := NB614_613.out
  have hcz17 := bc2_ BK613.out
  have hcz18 := bc2_ BK614.out
  have p618 : 0 ≤ (x6_1 : Int) := dt_
  have q618 : x6_1 < (l0_1.length : Int) := dt_
  obtain ⟨ad618, A618_1, c618_1, e618, hx618_0, hx618_1, hl618_1, hi618_1⟩ := at_T113 HR0_1.out x6_1 p618 q618
  cases e618
  replace hx618_0 := bt_ HB hx618_0
  replace hx618_1 := bt_ HB hx618_1
  have HR618_1 := Q_ hi618_1
  have HC618_1 := Q_ hl618_1
  clear hi618_1 hl618_1
  replace p618 := eq_true p618
  replace q618 := eq_true q618
  go_wp2_with (first | (go_at_call 71; (with_reducible refine (spec_ExtOf.calls k1 _ _ l1_1 ((rd_T113 l0_1 x6_1).f0) t619 _ ?side1 ?side2 A14.out).mono ?_); (case side1 => exact cb_ HR1_1 HB); (case side2 => exact HC1_1.out); rintro e w' ⟨rfl, ⟨nd, rfl⟩⟩; (try first | exact ⟨rfl, _, World.drewN_drewN _ _ _⟩ | exact ⟨rfl, _, Eq.trans (World.drewN_drewN _ _ _) (congrArg (World.drewN _) (Nat.add_assoc _ _ _))⟩)))
  repeat (go_quiet (first | (go_at_call 71; (with_reducible refine (spec_ExtOf.calls k1 _ _ l1_1 ((rd_T113 l0_1 x6_1).f0) t619 _ ?side1 ?side2 A14.out).mono ?_); (case side1 => exact cb_ HR1_1 HB); (case side2 => exact HC1_1.out); rintro e w' ⟨rfl, ⟨nd, rfl⟩⟩; (try first | exact ⟨rfl, _, World.drewN_drewN _ _ _⟩ | exact ⟨rfl, _, Eq.trans (World.drewN_drewN _ _ _) (congrArg (World.drewN _) (Nat.add_assoc _ _ _))⟩))); try go_wp2_with (first | (go_at_call 71; (with_reducible refine (spec_ExtOf.calls k1 _ _ l1_1 ((rd_T113 l0_1 x6_1).f0) t619 _ ?side1 ?side2 A14.out).mono ?_); (case side1 => exact cb_ HR1_1 HB); (case side2 => exact HC1_1.out); rintro e w' ⟨rfl, ⟨nd, rfl⟩⟩; (try first | exact ⟨rfl, _, World.drewN_drewN _ _ _⟩ | exact ⟨rfl, _, Eq.trans (World.drewN_drewN _ _ _) (congrArg (World.drewN _) (Nat.add_assoc _ _ _))⟩))))
  go_roundg k1
  case measure => have := HK1.out; omega
  case rel => exact ⟨(x5_1), (wrap64 (x6_1 + 1)), el_, H', ⟨by have := HK1.out; omega⟩, ⟨pr_ HO_5.out⟩, ⟨pk_ BK613.out⟩, ⟨pk_ BK614.out⟩, ⟨pb2_ HB.out GE613.out GE614.out⟩⟩
 rw [if_pos c15] at H
 have c15b0 : decide (t619 < 0) = true := decide_eq_true c15
 clear c15
 replace H := Option.bind_eq_some_iff.mp H
 obtain ⟨t621, A190, H⟩ := H
 (try dsimp only at H)
 have A19 := Q_ A190
 clear A190
 have HS_ := Q_ H
 clear H
 have hnb20 := NB613_614.out
 have hnc20 := NB614_613.out
 have hcz21 := bc2_ BK613.out
 have hcz22 := bc2_ BK614.out
 have p618 : 0 ≤ (x6_1 : Int) := dt_
 have q618 : x6_1 < (l0_1.length : Int) := dt_
 obtain ⟨ad618, A618_1, c618_1, e618, hx618_0, hx618_1, hl618_1, hi618_1⟩ := at_T113 HR0_1.out x6_1 p618 q618
 cases e618
 replace hx618_0 := bt_ HB hx618_0
 replace hx618_1 := bt_ HB hx618_1
 have HR618_1 := Q_ hi618_1
 have HC618_1 := Q_ hl618_1
 clear hi618_1 hl618_1
 replace p618 := eq_true p618
 replace q618 := eq_true q618
 go_upto_if 37 with (first | (go_at_call 71; (with_reducible refine (spec_ExtOf.calls k1 _ _ l1_1 ((rd_T113 l0_1 x6_1).f0) t619 _ ?side1 ?side2 A14.out).mono ?_); (case side1 => exact cb_ HR1_1 HB); (case side2 => exact HC1_1.out); rintro e w' ⟨rfl, ⟨nd, rfl⟩⟩; (try first | exact ⟨rfl, _, World.drewN_drewN _ _ _⟩ | exact ⟨rfl, _, Eq.trans (World.drewN_drewN _ _ _) (congrArg (World.drewN _) (Nat.add_assoc _ _ _))⟩); have p620 : 0 ≤ (x6_1 : Int) := dt_; have q620 : x6_1 < (l0_1.length : Int) := dt_; obtain ⟨ad620, A620_1, c620_1, e620, hx620_0, hx620_1, hl620_1, hi620_1⟩ := at_T113 HR0_1.out x6_1 p620 q620; obtain rfl : ad618 = ad620 := (by injection e620); replace hx620_0 := bt_ HB hx620_0; replace hx620_1 := bt_ HB hx620_1; have HR620_1 := Q_ hi620_1; have HC620_1 := Q_ hl620_1; clear hi620_1 hl620_1; replace p620 := eq_true p620; replace q620 := eq_true q620; have ea_ := Option.some.inj (hx618_1.symm.trans hx620_1); injection ea_ with ea_ en_ ec_; subst ea_; subst ec_; clear en_) | (go_at_call 72; (with_reducible refine (spec_l1In.calls ((rd_T113 l0_1 x6_1).f0) 0 255 t621 _ A19.out).mono ?_); rintro e w' ⟨rfl, ⟨nd, rfl⟩⟩; (try first | exact ⟨rfl, _, World.drewN_drewN _ _ _⟩ | exact ⟨rfl, _, Eq.trans (World.drewN_drewN _ _ _) (congrArg (World.drewN _) (Nat.add_assoc _ _ _))⟩)))
 repeat (go_quiet (first | (go_at_call 71; (with_reducible refine (spec_ExtOf.calls k1 _ _ l1_1 ((rd_T113 l0_1 x6_1).f0) t619 _ ?side1 ?side2 A14.out).mono ?_); (case side1 => exact cb_ HR1_1 HB); (case side2 => exact HC1_1.out); rintro e w' ⟨rfl, ⟨nd, rfl⟩⟩; (try first | exact ⟨rfl, _, World.drewN_drewN _ _ _⟩ | exact ⟨rfl, _, Eq.trans (World.drewN_drewN _ _ _) (congrArg (World.drewN _) (Nat.add_assoc _ _ _))⟩); have p620 : 0 ≤ (x6_1 : Int) := dt_; have q620 : x6_1 < (l0_1.length : Int) := dt_; obtain ⟨ad620, A620_1, c620_1, e620, hx620_0, hx620_1, hl620_1, hi620_1⟩ := at_T113 HR0_1.out x6_1 p620 q620; obtain rfl : ad618 = ad620 := (by injection e620); replace hx620_0 := bt_ HB hx620_0; replace hx620_1 := bt_ HB hx620_1; have HR620_1 := Q_ hi620_1; have HC620_1 := Q_ hl620_1; clear hi620_1 hl620_1; replace p620 := eq_true p620; replace q620 := eq_true q620; have ea_ := Option.some.inj (hx618_1.symm.trans hx620_1); injection ea_ with ea_ en_ ec_; subst ea_; subst ec_; clear en_) | (go_at_call 72; (with_reducible refine (spec_l1In.calls ((rd_T113 l0_1 x6_1).f0) 0 255 t621 _ A19.out).mono ?_); rintro e w' ⟨rfl, ⟨nd, rfl⟩⟩; (try first | exact ⟨rfl, _, World.drewN_drewN _ _ _⟩ | exact ⟨rfl, _, Eq.trans (World.drewN_drewN _ _ _) (congrArg (World.drewN _) (Nat.add_assoc _ _ _))⟩))); go_upto_if 37 with (first | (go_at_call 71; (with_reducible refine (spec_ExtOf.calls k1 _ _ l1_1 ((rd_T113 l0_1 x6_1).f0) t619 _ ?side1 ?side2 A14.out).mono ?_); (case side1 => exact cb_ HR1_1 HB); (case side2 => exact HC1_1.out); rintro e w' ⟨rfl, ⟨nd, rfl⟩⟩; (try first | exact ⟨rfl, _, World.drewN_drewN _ _ _⟩ | exact ⟨rfl, _, Eq.trans (World.drewN_drewN _ _ _) (congrArg (World.drewN _) (Nat.add_assoc _ _ _))⟩); have p620 : 0 ≤ (x6_1 : Int) := dt_; have q620 : x6_1 < (l0_1.length : Int) := dt_; obtain ⟨ad620, A620_1, c620_1, e620, hx620_0, hx620_1, hl620_1, hi620_1⟩ := at_T113 HR0_1.out x6_1 p620 q620; obtain rfl : ad618 = ad620 := (by injection e620); replace hx620_0 := bt_ HB hx620_0; replace hx620_1 := bt_ HB hx620_1; have HR620_1 := Q_ hi620_1; have HC620_1 := Q_ hl620_1; clear hi620_1 hl620_1; replace p620 := eq_true p620; replace q620 := eq_true q620; have ea_ := Option.some.inj (hx618_1.symm.trans hx620_1); injection ea_ with ea_ en_ ec_; subst ea_; subst ec_; clear en_) | (go_at_call 72; (with_reducible refine (spec_l1In.calls ((rd_T113 l0_1 x6_1).f0) 0 255 t621 _ A19.out).mono ?_); rintro e w' ⟨rfl, ⟨nd, rfl⟩⟩; (try first | exact ⟨rfl, _, World.drewN_drewN _ _ _⟩ | exact ⟨rfl, _, Eq.trans (World.drewN_drewN _ _ _) (congrArg (World.drewN _) (Nat.add_assoc _ _ _))⟩))))
 (try simp only [Act.put, List.setIfInBounds_toArray, List.set_cons_zero, List.set_cons_succ])
 have H := HS_.out
 clear HS_
 by_cases c23 : t621 = true
 rotate_left
 ·replace c23 := bf_ c23
  subst c23
  rw [if_neg ff_] at H
  have H' := Q_ H
  clear H
  go_wp2
  repeat (go_quiet (fail); try go_wp2)
  go_roundg k1
  case measure => have := HK1.out; omega
  case rel => exact ⟨(x5_1), (wrap64 (x6_1 + 1)), el_, H', ⟨by have := HK1.out; omega⟩, ⟨pr_ HO_5.out⟩, ⟨pk_ BK613.out⟩, ⟨pk_ BK614.out⟩, ⟨pb2_ HB.out GE613.out GE614.out⟩⟩
 subst c23
 rw [if_pos rfl] at H
 by_cases c24 : x5_1.length < 17592186044416
 rotate_left
 ·rw [if_neg c24] at H
  exact absurd H (by simp)
 rw [if_pos c24] at H
 have LMc24 := Q_ c24
 clear c24
 obtain ⟨y623, hy623⟩ : ∃ y_ : List Int, y_ = (x5_1 ++ [wrap64 (1000 + ((rd_T113 l0_1 x6_1).f0))]) := ⟨_, rfl⟩
 replace H : (spec_GivenUp.l0 k1 y623 (wrap64 (x6_1 + 1)) l0_0 l0_1 l1_0 l1_1) = some r := hb_ hy623 H
 have Ny623 := Q_ hy623
 clear hy623
 have H' := Q_ H
 clear H
 have hnb25 := NB613_614.out
 have hnc25 := NB614_613.out
 have hcz26 := bc2_ BK613.out
 have p622 : 0 ≤ (x6_1 : Int) := dt_
 have q622 : x6_1 < (l0_1.length : Int) := dt_
 obtain ⟨ad622, A622_1, c622_1, e622, hx622_0, hx622_1, hl622_1, hi622_1⟩ := at_T113 HR0_1.out x6_1 p622 q622
 obtain rfl : ad618 = ad622 := (by injection e622)
 replace hx622_0 := bt_ HB hx622_0
 replace hx622_1 := bt_ HB hx622_1
 have HR622_1 := Q_ hi622_1
 have HC622_1 := Q_ hl622_1
 clear hi622_1 hl622_1
 replace p622 := eq_true p622
 replace q622 := eq_true q622
 go_wp2_with (first | ((with_reducible refine gate_builtin (b := .append) (xs := #[.tmp 38, .tmp 46]) rfl ?_); at_builtin; refine Kd.R_append (Kd.int .i64) (w0 := w) w.heap.size rfl (.tmp 38) (.tmp 46) 25 3 (.int .i64 0) 8 rfl Try.underlying25 info3 rfl (by decide) (by omega) u5 x5_1 (wrap64 (1000 + ((rd_T113 l0_1 x6_1).f0))) [.int .i64 (wrap64 (1000 + ((rd_T113 l0_1 x6_1).f0)))] (fun _ => True) (fun _ => False) rfl rfl ?aP (fun _ hk => hk.elim) ?aF ?aO ?aB ?aS ?aL ?_; (case aP => exact rfl); (case aB => exact (pb2_ HB.out GE613.out GE614.out)); (case aF => exact (fun _ _ => trivial)); (case aO => exact (pr_ HO_5.out)); (case aS => exact (below_size (pb2_ HB.out GE613.out GE614.out))); (case aL => have := LMc24.out; omega); intro v624 w27 ho hb hg hat; rw [← Ny623.out] at ho; have _ := Q_ (blk_grown (g := gb613) (o := .cells #[.slice A0_0 l0_0.length c0_0, .slice (some ad618) l0_1.length c0_1] 71 (0, 0)) (pk_ BK613.out) hg (Kd.R_ne HO_5.out BK613.out (by decide))); have _ := Q_ (blk_grown (g := gb614) (o := .cells #[.slice A1_0 l1_0.length c1_0, .slice A1_1 l1_1.length c1_1] 71 (0, 0)) (pk_ BK614.out) hg (Kd.R_ne HO_5.out BK614.out (by decide))); have _ := Q_ (hb); have _ := Q_ (ho); clear BK613 BK614 HB HO_5; rename_i BK613 BK614 HB HO625; clear ho hb hg hat))
 repeat (go_quiet (first | ((with_reducible refine gate_builtin (b := .append) (xs := #[.tmp 38, .tmp 46]) rfl ?_); at_builtin; refine Kd.R_append (Kd.int .i64) (w0 := w) w.heap.size rfl (.tmp 38) (.tmp 46) 25 3 (.int .i64 0) 8 rfl Try.underlying25 info3 rfl (by decide) (by omega) u5 x5_1 (wrap64 (1000 + ((rd_T113 l0_1 x6_1).f0))) [.int .i64 (wrap64 (1000 + ((rd_T113 l0_1 x6_1).f0)))] (fun _ => True) (fun _ => False) rfl rfl ?aP (fun _ hk => hk.elim) ?aF ?aO ?aB ?aS ?aL ?_; (case aP => exact rfl); (case aB => exact (pb2_ HB.out GE613.out GE614.out)); (case aF => exact (fun _ _ => trivial)); (case aO => exact (pr_ HO_5.out)); (case aS => exact (below_size (pb2_ HB.out GE613.out GE614.out))); (case aL => have := LMc24.out; omega); intro v624 w27 ho hb hg hat; rw [← Ny623.out] at ho; have _ := Q_ (blk_grown (g := gb613) (o := .cells #[.slice A0_0 l0_0.length c0_0, .slice (some ad618) l0_1.length c0_1] 71 (0, 0)) (pk_ BK613.out) hg (Kd.R_ne HO_5.out BK613.out (by decide))); have _ := Q_ (blk_grown (g := gb614) (o := .cells #[.slice A1_0 l1_0.length c1_0, .slice A1_1 l1_1.length c1_1] 71 (0, 0)) (pk_ BK614.out) hg (Kd.R_ne HO_5.out BK614.out (by decide))); have _ := Q_ (hb); have _ := Q_ (ho); clear BK613 BK614 HB HO_5; rename_i BK613 BK614 HB HO625; clear ho hb hg hat)); try go_wp2_with (first | ((with_reducible refine gate_builtin (b := .append) (xs := #[.tmp 38, .tmp 46]) rfl ?_); at_builtin; refine Kd.R_append (Kd.int .i64) (w0 := w) w.heap.size rfl (.tmp 38) (.tmp 46) 25 3 (.int .i64 0) 8 rfl Try.underlying25 info3 rfl (by decide) (by omega) u5 x5_1 (wrap64 (1000 + ((rd_T113 l0_1 x6_1).f0))) [.int .i64 (wrap64 (1000 + ((rd_T113 l0_1 x6_1).f0)))] (fun _ => True) (fun _ => False) rfl rfl ?aP (fun _ hk => hk.elim) ?aF ?aO ?aB ?aS ?aL ?_; (case aP => exact rfl); (case aB => exact (pb2_ HB.out GE613.out GE614.out)); (case aF => exact (fun _ _ => trivial)); (case aO => exact (pr_ HO_5.out)); (case aS => exact (below_size (pb2_ HB.out GE613.out GE614.out))); (case aL => have := LMc24.out; omega); intro v624 w27 ho hb hg hat; rw [← Ny623.out] at ho; have _ := Q_ (blk_grown (g := gb613) (o := .cells #[.slice A0_0 l0_0.length c0_0, .slice (some ad618) l0_1.length c0_1] 71 (0, 0)) (pk_ BK613.out) hg (Kd.R_ne HO_5.out BK613.out (by decide))); have _ := Q_ (blk_grown (g := gb614) (o := .cells #[.slice A1_0 l1_0.length c1_0, .slice A1_1 l1_1.length c1_1] 71 (0, 0)) (pk_ BK614.out) hg (Kd.R_ne HO_5.out BK614.out (by decide))); have _ := Q_ (hb); have _ := Q_ (ho); clear BK613 BK614 HB HO_5; rename_i BK613 BK614 HB HO625; clear ho hb hg hat)))
 go_roundg k1
 case measure => have := HK1.out; omega
 case rel => exact ⟨(y623), (wrap64 (x6_1 + 1)), el_, H', ⟨by have := HK1.out; omega⟩, ⟨pr_ HO625.out⟩, ⟨pk_ BK613.out⟩, ⟨pk_ BK614.out⟩, ⟨pb2_ HB.out GE613.out GE614.out⟩⟩

/-! ### spec_Dial: function 39 -/
def spec_Dial.f (k : Nat) (l0_0 : List Int) (l0_1 : List (S113)) (l1 : List (S89)) (l2 : List Int) (l3 : List Int) (a4 : Int) : Option (Bool × Int × List Int × Int × List Int) := (spec_HelloFor.f k l0_0 l0_1 l1).bind fun bt628 => (if bt628.2.2.2 = true then ((spec_DialOnce.f k bt628.1 bt628.2.1 l1 l2 l3 a4).bind fun bt637 => ((spec_GivenUp.f k l0_0 l0_1 bt628.1 bt628.2.1).bind fun t642 => (some (bt637.1, bt637.2.1, bt637.2.2, bt628.2.2.1, t642)))) else (some (false, 0, ([] : List Int), bt628.2.2.1, ([] : List Int))))
theorem spec_Dial.mono : ∀ a0 a1 a2 a3 a4 a5 k, LeO (spec_Dial.f k a0 a1 a2 a3 a4 a5) (spec_Dial.f (k + 1) a0 a1 a2 a3 a4 a5) := by
 intro a0 a1 a2 a3 a4 a5 k
 unfold spec_Dial.f
 exact mo3_ spec_DialOnce.mono spec_GivenUp.mono spec_HelloFor.mono
def spec_Dial.T4 : Bool × List (List Nat × List Nat) := (true, [([], []), ([], []), ([], []), ([], []), ([], []), ([0, 1, 2, 3, 4], [0, 1, 2, 3, 4]), ([], []), ([], []), ([], []), ([7, 8, 5], [7, 8]), ([5, 6, 9], [5, 6, 9]), ([10, 9, 0, 1, 2, 3, 4, 5, 6, 7, 8, 9, 10], [10])])
def spec_Dial.B4 : List Nat := [0, 0, 0, 0, 0, 31, 0, 0, 0, 447, 1023, 2047]
theorem spec_Dial.tab4 : rtab .any (opsOf Try.f39 4) = spec_Dial.T4 := by kernel_rfl
theorem spec_Dial.bits4 : waitsOk spec_Dial.T4.2 spec_Dial.B4 = true := by kernel_rfl
theorem spec_Dial.calls (k : Nat) (A0_0 : Option Addr) (c0_0 : Nat) (l0_0 : List Int) (A0_1 : Option Addr) (c0_1 : Nat) (l0_1 : List (S113)) (A1 : Option Addr) (c1 : Nat) (l1 : List (S89)) (A2 : Option Addr) (c2 : Nat) (l2 : List Int) (A3 : Option Addr) (c3 : Nat) (l3 : List Int) (a4 : Int) (r1 : Bool) (r2 : Int) (r3 : List Int) (r4 : Int) (r5 : List Int) (w : World) (hr0_0 : Kd.C (Kd.int .i64) w A0_0 l0_0.length l0_0) (hc0_0 : l0_0.length ≤ c0_0) (hr0_1 : Kd.C k113 w A0_1 l0_1.length l0_1) (hc0_1 : l0_1.length ≤ c0_1) (hr1 : Kd.C k89 w A1 l1.length l1) (hc1 : l1.length ≤ c1) (hr2 : Kd.C (Kd.int .i64) w A2 l2.length l2) (hc2 : l2.length ≤ c2) (hr3 : Kd.C (Kd.int .i64) w A3 l3.length l3) (hc3 : l3.length ≤ c3) (h : spec_Dial.f k l0_0 l0_1 l1 l2 l3 a4 = some (r1, r2, r3, r4, r5)) :
  Calls Try.prog 39 #[.agg #[.slice A0_0 l0_0.length c0_0, .slice A0_1 l0_1.length c0_1], .slice A1 l1.length c1, .slice A2 l2.length c2, .slice A3 l3.length c3, .int .i64 a4] w fun e w' => ∃ v2_ v4_ : Value, e = .returned (.agg #[.bool r1, .int .i64 r2, v2_, .int .i64 r4, v4_]) ∧ Kd.R (Kd.int .i64) 3 w' w.heap.size (fun k_ => some k_ ≠ (v4_ : Value).ownBlock) v2_ r3 ∧ Kd.R (Kd.int .i64) 3 w' w.heap.size (fun k_ => some k_ ≠ (v2_ : Value).ownBlock) v4_ r5 ∧ Below w.heap.size w w' := by
 have hu71 := Try.underlying71
 have hu50 := Try.underlying50
 have HR0_0 := Q_ hr0_0
 have HC0_0 := Q_ hc0_0
 clear hr0_0 hc0_0
 have HR0_1 := Q_ hr0_1
 have HC0_1 := Q_ hc0_1
 clear hr0_1 hc0_1
 have HR1 := Q_ hr1
 have HC1 := Q_ hc1
 clear hr1 hc1
 have HR2 := Q_ hr2
 have HC2 := Q_ hc2
 clear hr2 hc2
 have HR3 := Q_ hr3
 have HC3 := Q_ hc3
 clear hr3 hc3
 have HB := Q_ (Below.refl w.heap.size w)
 have H : ((spec_HelloFor.f k l0_0 l0_1 l1).bind fun bt628 => (if bt628.2.2.2 = true then ((spec_DialOnce.f k bt628.1 bt628.2.1 l1 l2 l3 a4).bind fun bt637 => ((spec_GivenUp.f k l0_0 l0_1 bt628.1 bt628.2.1).bind fun t642 => (some (bt637.1, bt637.2.1, bt637.2.2, bt628.2.2.1, t642)))) else (some (false, 0, ([] : List Int), bt628.2.2.1, ([] : List Int))))) = some (r1, r2, r3, r4, r5) := h
 clear h
 have HS_ := Q_ H
 clear H
 go_enter Try.func39, Try.ntmps39
 go_upto_region 1 with (first | ((with_reducible refine gate_dst (N := 5) rfl ?_); refine box_event ?hg (N := 5) ?hd (cs := #[.slice A0_0 l0_0.length c0_0, .slice A0_1 l0_1.length c0_1]) (t := 71) ?hr ?_; (case hd => rfl); (case hg => rfl); (case hr => first | (go_simp; done) | (go_simp; rfl)); intro gb626 hg w6 hbox hb; have _ := Q_ (below_step (pb_ HB.out) hb); have BK626 := Q_ (hbox); have GW626 := Q_ ((by rw [hg]; exact (below_size (pb_ HB.out)) : w.heap.size ≤ gb626)); have GE626 := GW626; clear HB; rename_i HB; clear hb hbox hg) | ((with_reducible refine gate_dst (N := 10) rfl ?_); refine box_event ?hg (N := 10) ?hd (cs := #[.bool false, .int .i64 0, .slice none 0 0, .int .i64 0, .slice none 0 0]) (t := 50) ?hr ?_; (case hd => rfl); (case hg => rfl); (case hr => first | (go_simp; done) | (go_simp; rfl)); intro gb627 hg w7 hbox hb; have _ := Q_ (bb_ BK626.out hb); have _ := Q_ (below_step (pb1_ HB.out GE626.out) hb); have BK627 := Q_ (hbox); have GW627 := Q_ ((by rw [hg]; exact (below_size (pb1_ HB.out GE626.out)) : w.heap.size ≤ gb627)); have GE627 := GW627; have NB626_627 := Q_ ((by rw [hg]; exact Nat.ne_of_lt (blk_lt (pk_ BK626.out)) : gb626 ≠ gb627)); have NB627_626 := Q_ NB626_627.out.symm; clear BK626 HB; rename_i BK626 HB; clear hb hbox hg))
 (try simp only [Act.put, List.setIfInBounds_toArray, List.set_cons_zero, List.set_cons_succ])
 have H := HS_.out
 clear HS_
 replace H := Option.bind_eq_some_iff.mp H
 obtain ⟨⟨t628, t631, t634, t635⟩, A80, H⟩ := H
 (try dsimp only at H)
 have A8 := Q_ A80
 clear A80
 have HS_ := Q_ H
 clear H
 have hnb9 := NB626_627.out
 have hnc9 := NB627_626.out
 have hcz10 := bc2_ BK626.out
 go_upto_if 22 with (first | ((with_reducible refine gate_callee (f := 50) rfl ?_); refine gl_ (some 17) Try.func50 #[.agg #[.slice A0_0 l0_0.length c0_0, .slice A0_1 l0_1.length c0_1], .slice A1 l1.length c1] ?_; (with_reducible refine (spec_HelloFor.calls k _ _ l0_0 _ _ l0_1 _ _ l1 t628 t631 t634 t635 _ ?side1 ?side2 ?side3 ?side4 ?side5 ?side6 A8.out).mono ?_); (case side1 => exact cb_ HR0_0 HB); (case side2 => exact HC0_0.out); (case side3 => exact cb_ HR0_1 HB); (case side4 => exact HC0_1.out); (case side5 => exact cb_ HR1 HB); (case side6 => exact HC1.out); rintro e w11 ⟨v629, v632, rfl, ho0, ho1, hb⟩; refine ⟨_, rfl, ?_⟩; have _ := Q_ (Kd.R_lower ho0 (below_size (pb2_ HB.out GE626.out GE627.out))); have _ := Q_ (Kd.S_lower ho1 (below_size (pb2_ HB.out GE626.out GE627.out))); have _ := Q_ (bb_ BK626.out hb); have _ := Q_ (bb_ BK627.out hb); have _ := Q_ (below_step (pb2_ HB.out GE626.out GE627.out) hb); clear BK626 BK627 HB; rename_i HO630 HO633 BK626 BK627 HB; (try clear hb); (try clear hb2); (try clear hk); (try clear hi); (try clear ho0); (try clear ho1)) | ((with_reducible refine gate_dst (N := 11) rfl ?_); refine box_event ?hg (N := 11) ?hd (cs := #[.slice none 0 0, .slice none 0 0]) (t := 71) ?hr ?_; (case hd => rfl); (case hg => rfl); (case hr => first | (go_simp; done) | (go_simp; rfl)); intro gb636 hg w12 hbox hb; have _ := Q_ (Kd.R_below (pr_ HO630.out) hb); have _ := Q_ (Kd.S_below (ps_ HO633.out) hb); have _ := Q_ (bb_ BK626.out hb); have _ := Q_ (bb_ BK627.out hb); have _ := Q_ (below_step (pb2_ HB.out GE626.out GE627.out) hb); have BK636 := Q_ (hbox); have GW636 := Q_ ((by rw [hg]; exact (below_size (pb2_ HB.out GE626.out GE627.out)) : w.heap.size ≤ gb636)); have GE636 := GW636; have NB626_636 := Q_ ((by rw [hg]; exact Nat.ne_of_lt (blk_lt (pk_ BK626.out)) : gb626 ≠ gb636)); have NB636_626 := Q_ NB626_636.out.symm; have NB627_636 := Q_ ((by rw [hg]; exact Nat.ne_of_lt (blk_lt (pk_ BK627.out)) : gb627 ≠ gb636)); have NB636_627 := Q_ NB627_636.out.symm; clear HO630 HO633 BK626 BK627 HB; rename_i HO630 HO633 BK626 BK627 HB; clear hb hbox hg; obtain ⟨Ao13, co13, eo13⟩ := Kd.R_slice HO630.out; subst eo13; have hnb14 := NB636_626.out; have hnc14 := NB626_636.out; have hnb15 := NB636_627.out; have hnc15 := NB627_636.out; have hcz16 := bc2_ BK636.out; obtain ⟨Ao17, co17, eo17⟩ := Kd.S_slice HO633.out; subst eo17))
 (try simp only [Act.put, List.setIfInBounds_toArray, List.set_cons_zero, List.set_cons_succ])
 have H := HS_.out
 clear HS_
 by_cases c18 : t635 = true
 rotate_left
 ·replace c18 := bf_ c18
  subst c18
  rw [if_neg ff_] at H
  simp only [Option.some.injEq, Prod.mk.injEq] at H
  obtain ⟨rfl, rfl, rfl, rfl, rfl⟩ := H
  have hnb19 := NB627_626.out
  have hnc19 := NB626_627.out
  have hnb20 := NB627_636.out
  have hnc20 := NB636_627.out
  have hcz21 := bc5_ BK627.out
  go_wp2
  refine bodyPost_ret (results_cell_row rfl _ _ gb627 50 #[.bool false, .int .i64 0, .slice none 0 0, .int .i64 t634, .slice none 0 0] (0, 0) _ rfl (pp_ BK627.out) Try.underlying50 rfl (by kernel_rfl)) rfl ?_
  exact ⟨_, _, er_, by first | exact Kd.R_nil _ _ _ _ _ | exact Kd.N_nil _ _ _ _ _ | exact Kd.V_nil _ _ _ _ _ | exact Kd.Q_nil _ _ _ _ _ | exact Kd.S_nil _ _ _ _ _, by first | exact Kd.R_nil _ _ _ _ _ | exact Kd.N_nil _ _ _ _ _ | exact Kd.V_nil _ _ _ _ _ | exact Kd.Q_nil _ _ _ _ _ | exact Kd.S_nil _ _ _ _ _, pb3_ HB.out GE626.out GE627.out GE636.out⟩
 subst c18
 rw [if_pos rfl] at H
 replace H := Option.bind_eq_some_iff.mp H
 obtain ⟨⟨t637, t638, t639⟩, A220, H⟩ := H
 (try dsimp only at H)
 have A22 := Q_ A220
 clear A220
 replace H := Option.bind_eq_some_iff.mp H
 obtain ⟨t642, A230, H⟩ := H
 replace H : (some (t637, t638, t639, t634, t642)) = some (r1, r2, r3, r4, r5) := H
 have A23 := Q_ A230
 clear A230
 simp only [Option.some.injEq, Prod.mk.injEq] at H
 obtain ⟨rfl, rfl, rfl, rfl, rfl⟩ := H
 try go_wp2
 have n0_ : Aside0 (Kd.R (Kd.int .i64) 3 ((w12.setCell ⟨gb636, 0, none⟩ (.slice Ao13 t628.length co13)).setCell ⟨gb636, 1, none⟩ (.slice Ao17 t631.length co17)) w.heap.size (fun _ => True) (.slice Ao13 t628.length co13) t628) := ⟨pr_ (Kd.R_mono (rf2_ HO630.out BK636.out) (fun _ hk => trivial))⟩
 have n1_ : Aside0 (Kd.S k113 113 ((w12.setCell ⟨gb636, 0, none⟩ (.slice Ao13 t628.length co13)).setCell ⟨gb636, 1, none⟩ (.slice Ao17 t631.length co17)) w.heap.size (fun k_ => some k_ ≠ (.slice Ao13 t628.length co13 : Value).ownBlock) (.slice Ao17 t631.length co17) t631) := ⟨ps_ (sf2_ HO633.out BK636.out)⟩
 have n2_ : Aside0 (((w12.setCell ⟨gb636, 0, none⟩ (.slice Ao13 t628.length co13)).setCell ⟨gb636, 1, none⟩ (.slice Ao17 t631.length co17)).heap[gb626]? = some (.cells #[.slice A0_0 l0_0.length c0_0, .slice A0_1 l0_1.length c0_1] 71 (0, 0))) := ⟨pp_ BK626.out⟩
 have n3_ : Aside0 (((w12.setCell ⟨gb636, 0, none⟩ (.slice Ao13 t628.length co13)).setCell ⟨gb636, 1, none⟩ (.slice Ao17 t631.length co17)).heap[gb627]? = some (.cells #[.bool false, .int .i64 0, .slice none 0 0, .int .i64 0, .slice none 0 0] 50 (0, 0))) := ⟨pp_ BK627.out⟩
 have n4_ : Aside0 (((w12.setCell ⟨gb636, 0, none⟩ (.slice Ao13 t628.length co13)).setCell ⟨gb636, 1, none⟩ (.slice Ao17 t631.length co17)).heap[gb636]? = some (.cells #[.slice Ao13 t628.length co13, .slice Ao17 t631.length co17] 71 (0, 0))) := ⟨pp_ BK636.out⟩
 have n5_ : Aside0 (Below w.heap.size w ((w12.setCell ⟨gb636, 0, none⟩ (.slice Ao13 t628.length co13)).setCell ⟨gb636, 1, none⟩ (.slice Ao17 t631.length co17))) := ⟨pb3_ HB.out GE626.out GE627.out GE636.out⟩
 (try clear HO630)
 (try clear HO633)
 (try clear BK626)
 (try clear BK627)
 (try clear BK636)
 (try clear HB)
 generalize ((w12.setCell ⟨gb636, 0, none⟩ (.slice Ao13 t628.length co13)).setCell ⟨gb636, 1, none⟩ (.slice Ao17 t631.length co17)) = w24 at n0_ n1_ n2_ n3_ n4_ n5_ ⊢
 (try (rw [show w24.drewN nd = w24.drewN nd from rfl]; replace n0_ := Q_ (Kd.R_drewN n0_.out nd); replace n1_ := Q_ (Kd.S_drewN n1_.out nd); replace n2_ := Q_ (blk_drewN n2_.out nd); replace n3_ := Q_ (blk_drewN n3_.out nd); replace n4_ := Q_ (blk_drewN n4_.out nd); replace n5_ := Q_ (pw_below_drewN n5_.out nd); generalize w24.drewN nd = w24 at n0_ n1_ n2_ n3_ n4_ n5_ ⊢))
 have HO630 := n0_
 have HO633 := n1_
 have BK626 := n2_
 have BK627 := n3_
 have BK636 := n4_
 have HB := n5_
 clear n0_ n1_ n2_ n3_ n4_ n5_
 have _ := Q_ (Kd.R_drew HO630.out)
 have _ := Q_ (Kd.S_drew HO633.out)
 have _ := Q_ (blk_drew BK626.out)
 have _ := Q_ (blk_drew BK627.out)
 have _ := Q_ (blk_drew BK636.out)
 have _ := Q_ (below_drew1 HB.out)
 clear HO630 HO633 BK626 BK627 BK636 HB
 rename_i HO630 HO633 BK626 BK627 BK636 HB
 refine start_ (n := 12) (S := fun w' => w'.cell? ⟨gb636, 0, none⟩ = some (.slice Ao13 t628.length co13) ∧ w'.cell? ⟨gb636, 1, none⟩ = some (.slice Ao17 t631.length co17) ∧ w'.cell? ⟨gb626, 0, none⟩ = some (.slice A0_0 l0_0.length c0_0) ∧ w'.cell? ⟨gb626, 1, none⟩ = some (.slice A0_1 l0_1.length c0_1)) (ds := []) (tf_ 0 12) (by kernel_rfl) rfl rfl ⟨(blk_cell BK636.out 0).trans rfl, (blk_cell BK636.out 1).trans rfl, (blk_cell BK626.out 0).trans rfl, (blk_cell BK626.out 1).trans rfl⟩ (fun hHeld => ?_); refine with_tabW spec_Dial.tab4 spec_Dial.bits4 (fun HT_ HW_ => ?_)
 generalize w24.drew = w25 at HO630 HO633 BK626 BK627 BK636 HB hHeld ⊢
 refine pu_ 1 (some 26) (tm_ 12 2) HT_ ?_
 refine pu_ 2 (some 27) (tm_ 12 6) HT_ ?_
 refine pu_ 3 (some 28) (tm_ 12 14) HT_ ?_
 refine pu_ 4 (some 29) (tm_ 12 30) HT_ ?_
 refine pu_ 6 (some 31) (tm_ 12 94) HT_ ?_
 refine ta_ 0 (some 25) (tm_ 12 95) HT_ HW_ hHeld ?_
 refine ta_ 7 (some 32) (tm_ 12 223) HT_ HW_ hHeld ?_
 refine ta_ 8 (some 33) (tm_ 12 479) HT_ HW_ hHeld ?_
 refine on_ 5 (some 30) (tf_ 9 12) HT_ (fun K hK => ?_)
 refine goes_ Try.func51 (by kernel_rfl) rfl #[.agg #[.slice Ao13 t628.length co13, .slice Ao17 t631.length co17], .slice A1 l1.length c1, .slice A2 l2.length c2, .slice A3 l3.length c3, .int .i64 a4] (by rfl) rfl rfl mp_ ?_
 with_reducible refine (spec_DialOnce.calls k _ _ t628 _ _ t631 _ _ l1 _ _ l2 _ _ l3 a4 t637 t638 t639 _ ?side1 ?side2 ?side3 ?side4 ?side5 ?side6 ?side7 ?side8 ?side9 ?side10 A22.out).mono ?_
 (case side1 => exact pc_ ((Kd.R_reads' HO630.out).2.2))
 (case side2 => exact (Kd.R_reads' HO630.out).2.1)
 (case side3 => exact pc_ ((Kd.S_reads' HO633.out).2.2))
 (case side4 => exact (Kd.S_reads' HO633.out).2.1)
 (case side5 => exact cb_ HR1 HB)
 (case side6 => exact HC1.out)
 (case side7 => exact cb_ HR2 HB)
 (case side8 => exact HC2.out)
 (case side9 => exact cb_ HR3 HB)
 (case side10 => exact HC3.out)
 rintro e w26 ⟨v640, rfl, ho0, hb⟩
 refine ⟨_, rfl, ?_⟩
 have _ := Q_ (Kd.R_elder' (pr_ HO630.out) (Kd.R_base ho0) hb)
 have _ := Q_ (Kd.S_elder' (ps_ HO633.out) (Kd.R_base ho0) hb)
 have _ := Q_ (Kd.R_lower (Kd.R_new' ho0 (Kd.R_lt (pr_ HO630.out))) (below_size (pb3_ HB.out GE626.out GE627.out GE636.out)))
 have _ := Q_ (bb_ BK626.out hb)
 have _ := Q_ (bb_ BK627.out hb)
 have _ := Q_ (bb_ BK636.out hb)
 have _ := Q_ (below_step (pb3_ HB.out GE626.out GE627.out GE636.out) hb)
 clear HO630 HO633 BK626 BK627 BK636 HB
 rename_i HO630 HO633 HO641 BK626 BK627 BK636 HB
 (try clear hb)
 (try clear hb2)
 (try clear hk)
 (try clear hi)
 (try clear ho0)
 refine hK.out _ _ ⟨(blk_cell BK636.out 0).trans rfl, (blk_cell BK636.out 1).trans rfl, (blk_cell BK626.out 0).trans rfl, (blk_cell BK626.out 1).trans rfl⟩ (fun hHeld => ?_)
 clear hK K
 refine no_ (some 30) ?_
 refine on_ 9 (some 34) (tf_ 10 12) HT_ (fun K hK => ?_)
 refine goes_ Try.func52 (by kernel_rfl) rfl #[.agg #[.slice A0_0 l0_0.length c0_0, .slice A0_1 l0_1.length c0_1], .agg #[.slice Ao13 t628.length co13, .slice Ao17 t631.length co17]] (by rfl) rfl rfl mp_ ?_
 with_reducible refine (spec_GivenUp.calls k _ _ l0_0 _ _ l0_1 _ _ t628 _ _ t631 t642 _ ?side1 ?side2 ?side3 ?side4 ?side5 ?side6 ?side7 ?side8 A23.out).mono ?_
 (case side1 => exact cb_ HR0_0 HB)
 (case side2 => exact HC0_0.out)
 (case side3 => exact cb_ HR0_1 HB)
 (case side4 => exact HC0_1.out)
 (case side5 => exact pc_ ((Kd.R_reads' HO630.out).2.2))
 (case side6 => exact (Kd.R_reads' HO630.out).2.1)
 (case side7 => exact pc_ ((Kd.S_reads' HO633.out).2.2))
 (case side8 => exact (Kd.S_reads' HO633.out).2.1)
 rintro e w27 ⟨v643, rfl, ho0, hb⟩
 refine ⟨_, rfl, ?_⟩
 have _ := Q_ (Kd.R_elder' (pr_ HO630.out) (Kd.R_base ho0) hb)
 have _ := Q_ (Kd.S_elder' (ps_ HO633.out) (Kd.R_base ho0) hb)
 have _ := Q_ (Kd.R_elder' (pr_ HO641.out) (Kd.R_base ho0) hb)
 have _ := Q_ (Kd.R_lower (Kd.R_new' (Kd.R_new' ho0 (Kd.R_lt (pr_ HO630.out))) (Kd.R_lt (pr_ HO641.out))) (below_size (pb3_ HB.out GE626.out GE627.out GE636.out)))
 have _ := Q_ (bb_ BK626.out hb)
 have _ := Q_ (bb_ BK627.out hb)
 have _ := Q_ (bb_ BK636.out hb)
 have _ := Q_ (below_step (pb3_ HB.out GE626.out GE627.out GE636.out) hb)
 clear HO630 HO633 HO641 BK626 BK627 BK636 HB
 rename_i HO630 HO633 HO641 HO644 BK626 BK627 BK636 HB
 (try clear hb)
 (try clear hb2)
 (try clear hk)
 (try clear hi)
 (try clear ho0)
 obtain ⟨Ao28, co28, eo28⟩ := Kd.R_slice HO644.out
 (first | subst eo28 | (injection eo28 with f1_ f2_ f3_; have f4_ := f1_.symm; have f5_ := f3_.symm; clear f1_ f2_ f3_; subst f4_; subst f5_))
 obtain ⟨Ao29, co29, eo29⟩ := Kd.R_slice HO641.out
 (first | subst eo29 | (injection eo29 with f1_ f2_ f3_; have f4_ := f1_.symm; have f5_ := f3_.symm; clear f1_ f2_ f3_; subst f4_; subst f5_))
 refine hK.out _ _ ⟨(blk_cell BK636.out 0).trans rfl, (blk_cell BK636.out 1).trans rfl, (blk_cell BK626.out 0).trans rfl, (blk_cell BK626.out 1).trans rfl⟩ (fun hHeld => ?_)
 clear hK K
 refine no_ (some 34) ?_
 refine pu_ 10 (some 35) (tf_ 11 12) HT_ ?_
 refine on_ 11 (none) (tf_ 12 12) HT_ (fun K hK => ?_)
 have hs30 : w27.cell? ⟨gb627, 0, none⟩ = some (.bool false) := (blk_cell BK627.out 0).trans rfl
 have hfs30 := blk_frozen BK627.out 0
 have hns30_0 := NB626_627.out
 have hns30_2 := NB636_627.out
 have hms30_0 := NB627_626.out
 have hms30_2 := NB627_636.out
 have hs31 : w27.cell? ⟨gb627, 1, none⟩ = some (.int .i64 0) := (blk_cell BK627.out 1).trans rfl
 have hfs31 := blk_frozen BK627.out 1
 have hns31_0 := NB626_627.out
 have hns31_2 := NB636_627.out
 have hms31_0 := NB627_626.out
 have hms31_2 := NB627_636.out
 have hs32 : w27.cell? ⟨gb627, 2, none⟩ = some (.slice none 0 0) := (blk_cell BK627.out 2).trans rfl
 have hfs32 := blk_frozen BK627.out 2
 have hns32_0 := NB626_627.out
 have hns32_2 := NB636_627.out
 have hms32_0 := NB627_626.out
 have hms32_2 := NB627_636.out
 have hs33 : w27.cell? ⟨gb627, 3, none⟩ = some (.int .i64 0) := (blk_cell BK627.out 3).trans rfl
 have hfs33 := blk_frozen BK627.out 3
 have hns33_0 := NB626_627.out
 have hns33_2 := NB636_627.out
 have hms33_0 := NB627_626.out
 have hms33_2 := NB627_636.out
 have hs34 : w27.cell? ⟨gb627, 4, none⟩ = some (.slice none 0 0) := (blk_cell BK627.out 4).trans rfl
 have hfs34 := blk_frozen BK627.out 4
 have hns34_0 := NB626_627.out
 have hns34_2 := NB636_627.out
 have hms34_0 := NB627_626.out
 have hms34_2 := NB627_636.out
 refine skip_ (w1 := ?_) (by rfl) rfl ?_ ?_
 rotate_left
 ·go_simp
  rfl
 refine hK.out _ _ ⟨((cell_far (p := ⟨gb627, _, none⟩) NB636_627.out _).trans (((cell_far (p := ⟨gb627, _, none⟩) NB636_627.out _).trans (((cell_far (p := ⟨gb627, _, none⟩) NB636_627.out _).trans (((cell_far (p := ⟨gb627, _, none⟩) NB636_627.out _).trans (((cell_far (p := ⟨gb627, _, none⟩) NB636_627.out _).trans (hHeld.1)))))))))), ((cell_far (p := ⟨gb627, _, none⟩) NB636_627.out _).trans (((cell_far (p := ⟨gb627, _, none⟩) NB636_627.out _).trans (((cell_far (p := ⟨gb627, _, none⟩) NB636_627.out _).trans (((cell_far (p := ⟨gb627, _, none⟩) NB636_627.out _).trans (((cell_far (p := ⟨gb627, _, none⟩) NB636_627.out _).trans (hHeld.2.1)))))))))), ((cell_far (p := ⟨gb627, _, none⟩) NB626_627.out _).trans (((cell_far (p := ⟨gb627, _, none⟩) NB626_627.out _).trans (((cell_far (p := ⟨gb627, _, none⟩) NB626_627.out _).trans (((cell_far (p := ⟨gb627, _, none⟩) NB626_627.out _).trans (((cell_far (p := ⟨gb627, _, none⟩) NB626_627.out _).trans (hHeld.2.2.1)))))))))), ((cell_far (p := ⟨gb627, _, none⟩) NB626_627.out _).trans (((cell_far (p := ⟨gb627, _, none⟩) NB626_627.out _).trans (((cell_far (p := ⟨gb627, _, none⟩) NB626_627.out _).trans (((cell_far (p := ⟨gb627, _, none⟩) NB626_627.out _).trans (((cell_far (p := ⟨gb627, _, none⟩) NB626_627.out _).trans (hHeld.2.2.2))))))))))⟩ (fun hHeld => ?_)
 clear hK K
 refine done_ (done_of HT_.out (by kernel_rfl)) ?_
 try go_wp2
 refine bodyPost_ret (results_cell_row rfl _ _ gb627 50 #[.bool t637, .int .i64 t638, .slice Ao29 t639.length co29, .int .i64 t634, .slice Ao28 t642.length co28] (0, 0) _ rfl (pp_ BK627.out) Try.underlying50 rfl (by kernel_rfl)) rfl ?_
 exact ⟨_, _, er_, pr_ (Kd.R_mono (Kd.R_far (p := ⟨gb627, 4, none⟩) (Kd.R_far (p := ⟨gb627, 3, none⟩) (Kd.R_far (p := ⟨gb627, 2, none⟩) (Kd.R_far (p := ⟨gb627, 1, none⟩) (Kd.R_far (p := ⟨gb627, 0, none⟩) (Kd.R_types HO641.out BK627.out (by decide)) (fun _ hk => hk.2) (.bool t637)) (fun _ hk => hk.2) (.int .i64 t638)) (fun _ hk => hk.2) (.slice Ao29 t639.length co29)) (fun _ hk => hk.2) (.int .i64 t634)) (fun _ hk => hk.2) (.slice Ao28 t642.length co28)) (fun _ hk => hk.1.2)), pr_ (Kd.R_mono (Kd.R_far (p := ⟨gb627, 4, none⟩) (Kd.R_far (p := ⟨gb627, 3, none⟩) (Kd.R_far (p := ⟨gb627, 2, none⟩) (Kd.R_far (p := ⟨gb627, 1, none⟩) (Kd.R_far (p := ⟨gb627, 0, none⟩) (Kd.R_types HO644.out BK627.out (by decide)) (fun _ hk => hk.2) (.bool t637)) (fun _ hk => hk.2) (.int .i64 t638)) (fun _ hk => hk.2) (.slice Ao29 t639.length co29)) (fun _ hk => hk.2) (.int .i64 t634)) (fun _ hk => hk.2) (.slice Ao28 t642.length co28)) (fun _ hk => hk.1.2)), pb3_ HB.out GE626.out GE627.out GE636.out⟩

end Go.Proofs.Ytlcpaebidnaolaa.Print
