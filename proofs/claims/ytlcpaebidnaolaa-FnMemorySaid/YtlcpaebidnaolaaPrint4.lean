-- Written by a program of this session (printx.py) out of the translation; Lean checks it.
import Derived.Test.YtlcpaebidnaolaaPrint0
import Derived.Test.YtlcpaebidnaolaaPrint3
namespace Go.Proofs.Ytlcpaebidnaolaa.Print
open Go.RowKit Go.Proofs.YtlcpaebidnaolaaW.PrintWords Go.Proofs.YtlcpaebidnaolaaW.PrintLast Go.Proofs.YtlcpaebidnaolaaW.PrintMore Go.Proofs.Ytlcpaebidnaolaa.Short
attribute [local go_sem] max2_int min2_int max_two min_two max_three min_three max_four min_four   -- for this text's walks alone
set_option linter.unusedVariables false
set_option maxHeartbeats 8000000
set_option maxRecDepth 100000
set_option linter.unusedSimpArgs false

/-! ### spec_GivenUp: function 52 -/
def spec_GivenUp.l0 : Nat → List Int → Int → List Int → List (S113) → List Int → List (S113) → Option (List Int)
 | 0, _, _, _, _, _, _ => none
 | k + 1, x5, x6, x242000, x242001, x243000, x243001 => if x6 < (x242001.length : Int) then (if 0 ≤ x6 then ((spec_ExtOf.f k x243001 ((rd_T113 x242001 x6).f0)).bind fun t247 => (if t247 < 0 then ((spec_l1In.f ((rd_T113 x242001 x6).f0) 0 255).bind fun t249 => (if t249 = true then (if x5.length < 17592186044416 then (spec_GivenUp.l0 k (x5 ++ [wrap64 (1000 + ((rd_T113 x242001 x6).f0))]) (wrap64 (x6 + 1)) x242000 x242001 x243000 x243001) else (none)) else (spec_GivenUp.l0 k x5 (wrap64 (x6 + 1)) x242000 x242001 x243000 x243001))) else (spec_GivenUp.l0 k x5 (wrap64 (x6 + 1)) x242000 x242001 x243000 x243001))) else (none)) else (some x5)
def spec_GivenUp.f (k : Nat) (l0_0 : List Int) (l0_1 : List (S113)) (l1_0 : List Int) (l1_1 : List (S113)) : Option (List Int) := (spec_l21Left.f k l0_0 l1_0).bind fun t243 => (spec_GivenUp.l0 k t243 0 l0_0 l0_1 l1_0 l1_1)
theorem spec_GivenUp.mono_l : ∀ k, (∀ y0 y1 y2 y3 y4 y5, LeO (spec_GivenUp.l0 k y0 y1 y2 y3 y4 y5) (spec_GivenUp.l0 (k + 1) y0 y1 y2 y3 y4 y5))
 | 0 => fun _ _ _ _ _ _ r h => by simp [spec_GivenUp.l0] at h
 | k + 1 => by
  have ih0 := spec_GivenUp.mono_l k
  ·intro y0 y1 y2 y3 y4 y5
   unfold spec_GivenUp.l0
   exact mo3_ ih0 spec_ExtOf.mono spec_l21Left.mono
theorem spec_GivenUp.mono : ∀ a0 a1 a2 a3 k, LeO (spec_GivenUp.f k a0 a1 a2 a3) (spec_GivenUp.f (k + 1) a0 a1 a2 a3) := by
 intro a0 a1 a2 a3 k
 have ih0 := spec_GivenUp.mono_l k
 unfold spec_GivenUp.f
 exact mo3_ ih0 spec_ExtOf.mono spec_l21Left.mono
theorem spec_GivenUp.calls (k : Nat) (A0_0 : Option Addr) (c0_0 : Nat) (l0_0 : List Int) (A0_1 : Option Addr) (c0_1 : Nat) (l0_1 : List (S113)) (A1_0 : Option Addr) (c1_0 : Nat) (l1_0 : List Int) (A1_1 : Option Addr) (c1_1 : Nat) (l1_1 : List (S113)) (r : List Int) (w : World) (hr0_0 : Kd.C (Kd.int .i64) w A0_0 l0_0.length l0_0) (hc0_0 : l0_0.length ≤ c0_0) (hr0_1 : Kd.C k113 w A0_1 l0_1.length l0_1) (hc0_1 : l0_1.length ≤ c0_1) (hr1_0 : Kd.C (Kd.int .i64) w A1_0 l1_0.length l1_0) (hc1_0 : l1_0.length ≤ c1_0) (hr1_1 : Kd.C k113 w A1_1 l1_1.length l1_1) (hc1_1 : l1_1.length ≤ c1_1) (h : spec_GivenUp.f k l0_0 l0_1 l1_0 l1_1 = some r) :
  Calls Try.prog 52 #[.agg #[.slice A0_0 l0_0.length c0_0, .slice A0_1 l0_1.length c0_1], .agg #[.slice A1_0 l1_0.length c1_0, .slice A1_1 l1_1.length c1_1]] w fun e w' => ∃ v0_ : Value, e = .returned (v0_) ∧ Kd.R (Kd.int .i64) 3 w' w.heap.size (fun _ => True) v0_ r ∧ Below w.heap.size w w' := by
 have hu71 := Try.underlying71
 have HR0_0 := Q_ hr0_0
 have HC0_0 := Q_ hc0_0
 clear hr0_0 hc0_0
 have HR0_1 := Q_ hr0_1
 have HC0_1 := Q_ hc0_1
 clear hr0_1 hc0_1
 have HR1_0 := Q_ hr1_0
 have HC1_0 := Q_ hc1_0
 clear hr1_0 hc1_0
 have HR1_1 := Q_ hr1_1
 have HC1_1 := Q_ hc1_1
 clear hr1_1 hc1_1
 have HB := Q_ (Below.refl w.heap.size w)
 have H : ((spec_l21Left.f k l0_0 l1_0).bind fun t243 => (spec_GivenUp.l0 k t243 0 l0_0 l0_1 l1_0 l1_1)) = some r := h
 clear h
 replace H := Option.bind_eq_some_iff.mp H
 obtain ⟨t243, A30, H⟩ := H
 replace H : (spec_GivenUp.l0 k t243 0 l0_0 l0_1 l1_0 l1_1) = some r := H
 have A3 := Q_ A30
 clear A30
 have H' := Q_ H
 clear H
 go_enter Try.func52, Try.ntmps52
 go_wp2_with (first | ((with_reducible refine gate_dst (N := 2) rfl ?_); refine box_event ?hg (N := 2) ?hd (cs := #[.slice A0_0 l0_0.length c0_0, .slice A0_1 l0_1.length c0_1]) (t := 71) ?hr ?_; (case hd => rfl); (case hg => rfl); (case hr => first | (go_simp; done) | (go_simp; rfl)); intro gb241 hg w4 hbox hb; have _ := Q_ (below_step (pb_ HB.out) hb); have BK241 := Q_ (hbox); have GW241 := Q_ ((by rw [hg]; exact (below_size (pb_ HB.out)) : w.heap.size ≤ gb241)); have GE241 := GW241; clear HB; rename_i HB; clear hb hbox hg) | ((with_reducible refine gate_dst (N := 3) rfl ?_); refine box_event ?hg (N := 3) ?hd (cs := #[.slice A1_0 l1_0.length c1_0, .slice A1_1 l1_1.length c1_1]) (t := 71) ?hr ?_; (case hd => rfl); (case hg => rfl); (case hr => first | (go_simp; done) | (go_simp; rfl)); intro gb242 hg w5 hbox hb; have _ := Q_ (bb_ BK241.out hb); have _ := Q_ (below_step (pb1_ HB.out GE241.out) hb); have BK242 := Q_ (hbox); have GW242 := Q_ ((by rw [hg]; exact (below_size (pb1_ HB.out GE241.out)) : w.heap.size ≤ gb242)); have GE242 := GW242; have NB241_242 := Q_ ((by rw [hg]; exact Nat.ne_of_lt (blk_lt (pk_ BK241.out)) : gb241 ≠ gb242)); have NB242_241 := Q_ NB241_242.out.symm; clear BK241 HB; rename_i BK241 HB; clear hb hbox hg; have hnb6 := NB241_242.out; have hnc6 := NB242_241.out; obtain ⟨hcz7_0, hcz7_1, hfz7_0, hfz7_1⟩ := bc2_ BK241.out; obtain ⟨hcz8_0, hcz8_1, hfz8_0, hfz8_1⟩ := bc2_ BK242.out) | (go_at_call 70; (with_reducible refine (spec_l21Left.calls k _ _ l0_0 _ _ l1_0 t243 _ ?side1 ?side2 ?side3 ?side4 A3.out).mono ?_); (case side1 => exact cb_ HR0_0 HB); (case side2 => exact HC0_0.out); (case side3 => exact cb_ HR1_0 HB); (case side4 => exact HC1_0.out); rintro e w9 ⟨v244, rfl, ho0, hb⟩; have _ := Q_ (Kd.R_lower ho0 (below_size (pb2_ HB.out GE241.out GE242.out))); have _ := Q_ (bb_ BK241.out hb); have _ := Q_ (bb_ BK242.out hb); have _ := Q_ (below_step (pb2_ HB.out GE241.out GE242.out) hb); clear BK241 BK242 HB; rename_i HO245 BK241 BK242 HB; (try clear hb); (try clear hb2); (try clear hk); (try clear hi); (try clear ho0)))
 repeat (go_quiet (first | ((with_reducible refine gate_dst (N := 2) rfl ?_); refine box_event ?hg (N := 2) ?hd (cs := #[.slice A0_0 l0_0.length c0_0, .slice A0_1 l0_1.length c0_1]) (t := 71) ?hr ?_; (case hd => rfl); (case hg => rfl); (case hr => first | (go_simp; done) | (go_simp; rfl)); intro gb241 hg w4 hbox hb; have _ := Q_ (below_step (pb_ HB.out) hb); have BK241 := Q_ (hbox); have GW241 := Q_ ((by rw [hg]; exact (below_size (pb_ HB.out)) : w.heap.size ≤ gb241)); have GE241 := GW241; clear HB; rename_i HB; clear hb hbox hg) | ((with_reducible refine gate_dst (N := 3) rfl ?_); refine box_event ?hg (N := 3) ?hd (cs := #[.slice A1_0 l1_0.length c1_0, .slice A1_1 l1_1.length c1_1]) (t := 71) ?hr ?_; (case hd => rfl); (case hg => rfl); (case hr => first | (go_simp; done) | (go_simp; rfl)); intro gb242 hg w5 hbox hb; have _ := Q_ (bb_ BK241.out hb); have _ := Q_ (below_step (pb1_ HB.out GE241.out) hb); have BK242 := Q_ (hbox); have GW242 := Q_ ((by rw [hg]; exact (below_size (pb1_ HB.out GE241.out)) : w.heap.size ≤ gb242)); have GE242 := GW242; have NB241_242 := Q_ ((by rw [hg]; exact Nat.ne_of_lt (blk_lt (pk_ BK241.out)) : gb241 ≠ gb242)); have NB242_241 := Q_ NB241_242.out.symm; clear BK241 HB; rename_i BK241 HB; clear hb hbox hg; have hnb6 := NB241_242.out; have hnc6 := NB242_241.out; obtain ⟨hcz7_0, hcz7_1, hfz7_0, hfz7_1⟩ := bc2_ BK241.out; obtain ⟨hcz8_0, hcz8_1, hfz8_0, hfz8_1⟩ := bc2_ BK242.out) | (go_at_call 70; (with_reducible refine (spec_l21Left.calls k _ _ l0_0 _ _ l1_0 t243 _ ?side1 ?side2 ?side3 ?side4 A3.out).mono ?_); (case side1 => exact cb_ HR0_0 HB); (case side2 => exact HC0_0.out); (case side3 => exact cb_ HR1_0 HB); (case side4 => exact HC1_0.out); rintro e w9 ⟨v244, rfl, ho0, hb⟩; have _ := Q_ (Kd.R_lower ho0 (below_size (pb2_ HB.out GE241.out GE242.out))); have _ := Q_ (bb_ BK241.out hb); have _ := Q_ (bb_ BK242.out hb); have _ := Q_ (below_step (pb2_ HB.out GE241.out GE242.out) hb); clear BK241 BK242 HB; rename_i HO245 BK241 BK242 HB; (try clear hb); (try clear hb2); (try clear hk); (try clear hi); (try clear ho0))); try go_wp2_with (first | ((with_reducible refine gate_dst (N := 2) rfl ?_); refine box_event ?hg (N := 2) ?hd (cs := #[.slice A0_0 l0_0.length c0_0, .slice A0_1 l0_1.length c0_1]) (t := 71) ?hr ?_; (case hd => rfl); (case hg => rfl); (case hr => first | (go_simp; done) | (go_simp; rfl)); intro gb241 hg w4 hbox hb; have _ := Q_ (below_step (pb_ HB.out) hb); have BK241 := Q_ (hbox); have GW241 := Q_ ((by rw [hg]; exact (below_size (pb_ HB.out)) : w.heap.size ≤ gb241)); have GE241 := GW241; clear HB; rename_i HB; clear hb hbox hg) | ((with_reducible refine gate_dst (N := 3) rfl ?_); refine box_event ?hg (N := 3) ?hd (cs := #[.slice A1_0 l1_0.length c1_0, .slice A1_1 l1_1.length c1_1]) (t := 71) ?hr ?_; (case hd => rfl); (case hg => rfl); (case hr => first | (go_simp; done) | (go_simp; rfl)); intro gb242 hg w5 hbox hb; have _ := Q_ (bb_ BK241.out hb); have _ := Q_ (below_step (pb1_ HB.out GE241.out) hb); have BK242 := Q_ (hbox); have GW242 := Q_ ((by rw [hg]; exact (below_size (pb1_ HB.out GE241.out)) : w.heap.size ≤ gb242)); have GE242 := GW242; have NB241_242 := Q_ ((by rw [hg]; exact Nat.ne_of_lt (blk_lt (pk_ BK241.out)) : gb241 ≠ gb242)); have NB242_241 := Q_ NB241_242.out.symm; clear BK241 HB; rename_i BK241 HB; clear hb hbox hg; have hnb6 := NB241_242.out; have hnc6 := NB242_241.out; obtain ⟨hcz7_0, hcz7_1, hfz7_0, hfz7_1⟩ := bc2_ BK241.out; obtain ⟨hcz8_0, hcz8_1, hfz8_0, hfz8_1⟩ := bc2_ BK242.out) | (go_at_call 70; (with_reducible refine (spec_l21Left.calls k _ _ l0_0 _ _ l1_0 t243 _ ?side1 ?side2 ?side3 ?side4 A3.out).mono ?_); (case side1 => exact cb_ HR0_0 HB); (case side2 => exact HC0_0.out); (case side3 => exact cb_ HR1_0 HB); (case side4 => exact HC1_0.out); rintro e w9 ⟨v244, rfl, ho0, hb⟩; have _ := Q_ (Kd.R_lower ho0 (below_size (pb2_ HB.out GE241.out GE242.out))); have _ := Q_ (bb_ BK241.out hb); have _ := Q_ (bb_ BK242.out hb); have _ := Q_ (below_step (pb2_ HB.out GE241.out GE242.out) hb); clear BK241 BK242 HB; rename_i HO245 BK241 BK242 HB; (try clear hb); (try clear hb2); (try clear hk); (try clear hi); (try clear ho0))))
 (try simp only [Act.put, List.setIfInBounds_toArray, List.set_cons_zero, List.set_cons_succ])
 go_loopg [5, 6] k (fun kq v5 v6 w' => ∃ (x5_1 : List Int) (x6_1 : Int), v6 = .int .i64 x6_1 ∧ Aside0 (spec_GivenUp.l0 kq x5_1 x6_1 l0_0 l0_1 l1_0 l1_1 = some r) ∧ Aside0 (kq ≤ k) ∧ Aside0 (Kd.R (Kd.int .i64) 3 w' w.heap.size (fun _ => True) v5 x5_1) ∧ Aside0 (w'.heap[gb241]? = some (.cells #[(.slice A0_0 l0_0.length c0_0), (.slice A0_1 l0_1.length c0_1)] 71 (0, 0))) ∧ Aside0 (w'.heap[gb242]? = some (.cells #[(.slice A1_0 l1_0.length c1_0), (.slice A1_1 l1_1.length c1_1)] 71 (0, 0))) ∧ Aside0 (Below w.heap.size w w'))
 case atStart => exact ⟨(t243), (0), el_, H', ⟨Nat.le_refl _⟩, ⟨pr_ HO245.out⟩, ⟨pk_ BK241.out⟩, ⟨pk_ BK242.out⟩, ⟨pb2_ HB.out GE241.out GE242.out⟩⟩
 clear H'
 try clear c1
 try clear p2
 try clear c5
 try clear c6
 try clear hcz7_0
 try clear hcz7_1
 try clear hcz8_0
 try clear hcz8_1
 try clear hfz7_0
 try clear hfz7_1
 try clear hfz8_0
 try clear hfz8_1
 obtain ⟨x5_1, x6_1, rfl, HA, HK1, HO_5, BK241, BK242, HB⟩ := hrel
 rcases gk with _ | k1
 ·exact absurd HA.out (by simp [spec_GivenUp.l0])
 have H := HA.out
 clear HA
 simp only [spec_GivenUp.l0] at H
 by_cases c10 : x6_1 < (l0_1.length : Int)
 rotate_left
 ·rw [if_neg c10] at H
  have c10b0 : decide (x6_1 < (l0_1.length : Int)) = false := decide_eq_false c10
  clear c10
  obtain rfl := Option.some.inj H
  have hnb11 := NB241_242.out
  have hnc11 := NB242_241.out
  have hcz12 := bc2_ BK241.out
  go_wp2
  repeat (go_quiet (fail); try go_wp2)
  go_ret
  exact ⟨_, er_, pr_ HO_5.out, pb2_ HB.out GE241.out GE242.out⟩
 rw [if_pos c10] at H
 have c10b0 : decide (x6_1 < (l0_1.length : Int)) = true := decide_eq_true c10
 clear c10
 by_cases c13 : 0 ≤ x6_1
 rotate_left
 ·rw [if_neg c13] at H
  exact absurd H (by simp)
 rw [if_pos c13] at H
 have c13b0 : decide (0 ≤ x6_1) = true := decide_eq_true c13
 clear c13
 replace H := Option.bind_eq_some_iff.mp H
 obtain ⟨t247, A140, H⟩ := H
 (try dsimp only at H)
 have A14 := Q_ A140
 clear A140
 by_cases c15 : t247 < 0
 rotate_left
 ·rw [if_neg c15] at H
  have c15b0 : decide (t247 < 0) = false := decide_eq_false c15
  clear c15
  have H' := Q_ H
  clear H
  have hnb16 := NB241_242.out
  have hnc16 := NB242_241.out
  have hcz17 := bc2_ BK241.out
  have hcz18 := bc2_ BK242.out
  have p246 : 0 ≤ (x6_1 : Int) := dt_
  have q246 : x6_1 < (l0_1.length : Int) := dt_
  obtain ⟨ad246, A246_1, c246_1, e246, hx246_0, hx246_1, hl246_1, hi246_1⟩ := at_T113 HR0_1.out x6_1 p246 q246
  cases e246
  replace hx246_0 := bt_ HB hx246_0
  replace hx246_1 := bt_ HB hx246_1
  have HR246_1 := Q_ hi246_1
  have HC246_1 := Q_ hl246_1
  clear hi246_1 hl246_1
  replace p246 := eq_true p246
  replace q246 := eq_true q246
  go_wp2_with (first | (go_at_call 71; (with_reducible refine (spec_ExtOf.calls k1 _ _ l1_1 ((rd_T113 l0_1 x6_1).f0) t247 _ ?side1 ?side2 A14.out).mono ?_); (case side1 => exact cb_ HR1_1 HB); (case side2 => exact HC1_1.out); rintro e w' ⟨rfl, ⟨nd, rfl⟩⟩; (try first | exact ⟨rfl, _, World.drewN_drewN _ _ _⟩ | exact ⟨rfl, _, Eq.trans (World.drewN_drewN _ _ _) (congrArg (World.drewN _) (Nat.add_assoc _ _ _))⟩)))
  repeat (go_quiet (first | (go_at_call 71; (with_reducible refine (spec_ExtOf.calls k1 _ _ l1_1 ((rd_T113 l0_1 x6_1).f0) t247 _ ?side1 ?side2 A14.out).mono ?_); (case side1 => exact cb_ HR1_1 HB); (case side2 => exact HC1_1.out); rintro e w' ⟨rfl, ⟨nd, rfl⟩⟩; (try first | exact ⟨rfl, _, World.drewN_drewN _ _ _⟩ | exact ⟨rfl, _, Eq.trans (World.drewN_drewN _ _ _) (congrArg (World.drewN _) (Nat.add_assoc _ _ _))⟩))); try go_wp2_with (first | (go_at_call 71; (with_reducible refine (spec_ExtOf.calls k1 _ _ l1_1 ((rd_T113 l0_1 x6_1).f0) t247 _ ?side1 ?side2 A14.out).mono ?_); (case side1 => exact cb_ HR1_1 HB); (case side2 => exact HC1_1.out); rintro e w' ⟨rfl, ⟨nd, rfl⟩⟩; (try first | exact ⟨rfl, _, World.drewN_drewN _ _ _⟩ | exact ⟨rfl, _, Eq.trans (World.drewN_drewN _ _ _) (congrArg (World.drewN _) (Nat.add_assoc _ _ _))⟩))))
  go_roundg k1
  case measure => have := HK1.out; omega
  case rel => exact ⟨(x5_1), (wrap64 (x6_1 + 1)), el_, H', ⟨by have := HK1.out; omega⟩, ⟨pr_ HO_5.out⟩, ⟨pk_ BK241.out⟩, ⟨pk_ BK242.out⟩, ⟨pb2_ HB.out GE241.out GE242.out⟩⟩
 rw [if_pos c15] at H
 have c15b0 : decide (t247 < 0) = true := decide_eq_true c15
 clear c15
 replace H := Option.bind_eq_some_iff.mp H
 obtain ⟨t249, A190, H⟩ := H
 (try dsimp only at H)
 have A19 := Q_ A190
 clear A190
 have HS_ := Q_ H
 clear H
 have hnb20 := NB241_242.out
 have hnc20 := NB242_241.out
 have hcz21 := bc2_ BK241.out
 have hcz22 := bc2_ BK242.out
 have p246 : 0 ≤ (x6_1 : Int) := dt_
 have q246 : x6_1 < (l0_1.length : Int) := dt_
 obtain ⟨ad246, A246_1, c246_1, e246, hx246_0, hx246_1, hl246_1, hi246_1⟩ := at_T113 HR0_1.out x6_1 p246 q246
 cases e246
 replace hx246_0 := bt_ HB hx246_0
 replace hx246_1 := bt_ HB hx246_1
 have HR246_1 := Q_ hi246_1
 have HC246_1 := Q_ hl246_1
 clear hi246_1 hl246_1
 replace p246 := eq_true p246
 replace q246 := eq_true q246
 go_upto_if 37 with (first | (go_at_call 71; (with_reducible refine (spec_ExtOf.calls k1 _ _ l1_1 ((rd_T113 l0_1 x6_1).f0) t247 _ ?side1 ?side2 A14.out).mono ?_); (case side1 => exact cb_ HR1_1 HB); (case side2 => exact HC1_1.out); rintro e w' ⟨rfl, ⟨nd, rfl⟩⟩; (try first | exact ⟨rfl, _, World.drewN_drewN _ _ _⟩ | exact ⟨rfl, _, Eq.trans (World.drewN_drewN _ _ _) (congrArg (World.drewN _) (Nat.add_assoc _ _ _))⟩); have p248 : 0 ≤ (x6_1 : Int) := dt_; have q248 : x6_1 < (l0_1.length : Int) := dt_; obtain ⟨ad248, A248_1, c248_1, e248, hx248_0, hx248_1, hl248_1, hi248_1⟩ := at_T113 HR0_1.out x6_1 p248 q248; obtain rfl : ad246 = ad248 := (by injection e248); replace hx248_0 := bt_ HB hx248_0; replace hx248_1 := bt_ HB hx248_1; have HR248_1 := Q_ hi248_1; have HC248_1 := Q_ hl248_1; clear hi248_1 hl248_1; replace p248 := eq_true p248; replace q248 := eq_true q248; have ea_ := Option.some.inj (hx246_1.symm.trans hx248_1); injection ea_ with ea_ en_ ec_; subst ea_; subst ec_; clear en_) | (go_at_call 72; (with_reducible refine (spec_l1In.calls ((rd_T113 l0_1 x6_1).f0) 0 255 t249 _ A19.out).mono ?_); rintro e w' ⟨rfl, ⟨nd, rfl⟩⟩; (try first | exact ⟨rfl, _, World.drewN_drewN _ _ _⟩ | exact ⟨rfl, _, Eq.trans (World.drewN_drewN _ _ _) (congrArg (World.drewN _) (Nat.add_assoc _ _ _))⟩)))
 repeat (go_quiet (first | (go_at_call 71; (with_reducible refine (spec_ExtOf.calls k1 _ _ l1_1 ((rd_T113 l0_1 x6_1).f0) t247 _ ?side1 ?side2 A14.out).mono ?_); (case side1 => exact cb_ HR1_1 HB); (case side2 => exact HC1_1.out); rintro e w' ⟨rfl, ⟨nd, rfl⟩⟩; (try first | exact ⟨rfl, _, World.drewN_drewN _ _ _⟩ | exact ⟨rfl, _, Eq.trans (World.drewN_drewN _ _ _) (congrArg (World.drewN _) (Nat.add_assoc _ _ _))⟩); have p248 : 0 ≤ (x6_1 : Int) := dt_; have q248 : x6_1 < (l0_1.length : Int) := dt_; obtain ⟨ad248, A248_1, c248_1, e248, hx248_0, hx248_1, hl248_1, hi248_1⟩ := at_T113 HR0_1.out x6_1 p248 q248; obtain rfl : ad246 = ad248 := (by injection e248); replace hx248_0 := bt_ HB hx248_0; replace hx248_1 := bt_ HB hx248_1; have HR248_1 := Q_ hi248_1; have HC248_1 := Q_ hl248_1; clear hi248_1 hl248_1; replace p248 := eq_true p248; replace q248 := eq_true q248; have ea_ := Option.some.inj (hx246_1.symm.trans hx248_1); injection ea_ with ea_ en_ ec_; subst ea_; subst ec_; clear en_) | (go_at_call 72; (with_reducible refine (spec_l1In.calls ((rd_T113 l0_1 x6_1).f0) 0 255 t249 _ A19.out).mono ?_); rintro e w' ⟨rfl, ⟨nd, rfl⟩⟩; (try first | exact ⟨rfl, _, World.drewN_drewN _ _ _⟩ | exact ⟨rfl, _, Eq.trans (World.drewN_drewN _ _ _) (congrArg (World.drewN _) (Nat.add_assoc _ _ _))⟩))); go_upto_if 37 with (first | (go_at_call 71; (with_reducible refine (spec_ExtOf.calls k1 _ _ l1_1 ((rd_T113 l0_1 x6_1).f0) t247 _ ?side1 ?side2 A14.out).mono ?_); (case side1 => exact cb_ HR1_1 HB); (case side2 => exact HC1_1.out); rintro e w' ⟨rfl, ⟨nd, rfl⟩⟩; (try first | exact ⟨rfl, _, World.drewN_drewN _ _ _⟩ | exact ⟨rfl, _, Eq.trans (World.drewN_drewN _ _ _) (congrArg (World.drewN _) (Nat.add_assoc _ _ _))⟩); have p248 : 0 ≤ (x6_1 : Int) := dt_; have q248 : x6_1 < (l0_1.length : Int) := dt_; obtain ⟨ad248, A248_1, c248_1, e248, hx248_0, hx248_1, hl248_1, hi248_1⟩ := at_T113 HR0_1.out x6_1 p248 q248; obtain rfl : ad246 = ad248 := (by injection e248); replace hx248_0 := bt_ HB hx248_0; replace hx248_1 := bt_ HB hx248_1; have HR248_1 := Q_ hi248_1; have HC248_1 := Q_ hl248_1; clear hi248_1 hl248_1; replace p248 := eq_true p248; replace q248 := eq_true q248; have ea_ := Option.some.inj (hx246_1.symm.trans hx248_1); injection ea_ with ea_ en_ ec_; subst ea_; subst ec_; clear en_) | (go_at_call 72; (with_reducible refine (spec_l1In.calls ((rd_T113 l0_1 x6_1).f0) 0 255 t249 _ A19.out).mono ?_); rintro e w' ⟨rfl, ⟨nd, rfl⟩⟩; (try first | exact ⟨rfl, _, World.drewN_drewN _ _ _⟩ | exact ⟨rfl, _, Eq.trans (World.drewN_drewN _ _ _) (congrArg (World.drewN _) (Nat.add_assoc _ _ _))⟩))))
 (try simp only [Act.put, List.setIfInBounds_toArray, List.set_cons_zero, List.set_cons_succ])
 have H := HS_.out
 clear HS_
 by_cases c23 : t249 = true
 rotate_left
 ·replace c23 := bf_ c23
  subst c23
  rw [if_neg ff_] at H
  have H' := Q_ H
  clear H
  go_wp2
  repeat (go_quiet (fail); try go_wp2)
  go_roundg k1
  case measure => have := HK1.out; omega
  case rel => exact ⟨(x5_1), (wrap64 (x6_1 + 1)), el_, H', ⟨by have := HK1.out; omega⟩, ⟨pr_ HO_5.out⟩, ⟨pk_ BK241.out⟩, ⟨pk_ BK242.out⟩, ⟨pb2_ HB.out GE241.out GE242.out⟩⟩
 subst c23
 rw [if_pos rfl] at H
 by_cases c24 : x5_1.length < 17592186044416
 rotate_left
 ·rw [if_neg c24] at H
  exact absurd H (by simp)
 rw [if_pos c24] at H
 have LMc24 := Q_ c24
 clear c24
 obtain ⟨y251, hy251⟩ : ∃ y_ : List Int, y_ = (x5_1 ++ [wrap64 (1000 + ((rd_T113 l0_1 x6_1).f0))]) := ⟨_, rfl⟩
 replace H : (spec_GivenUp.l0 k1 y251 (wrap64 (x6_1 + 1)) l0_0 l0_1 l1_0 l1_1) = some r := hb_ hy251 H
 have Ny251 := Q_ hy251
 clear hy251
 have H' := Q_ H
 clear H
 have hnb25 := NB241_242.out
 have hnc25 := NB242_241.out
 have hcz26 := bc2_ BK241.out
 have p250 : 0 ≤ (x6_1 : Int) := dt_
 have q250 : x6_1 < (l0_1.length : Int) := dt_
 obtain ⟨ad250, A250_1, c250_1, e250, hx250_0, hx250_1, hl250_1, hi250_1⟩ := at_T113 HR0_1.out x6_1 p250 q250
 obtain rfl : ad246 = ad250 := (by injection e250)
 replace hx250_0 := bt_ HB hx250_0
 replace hx250_1 := bt_ HB hx250_1
 have HR250_1 := Q_ hi250_1
 have HC250_1 := Q_ hl250_1
 clear hi250_1 hl250_1
 replace p250 := eq_true p250
 replace q250 := eq_true q250
 go_wp2_with (first | ((with_reducible refine gate_builtin (b := .append) (xs := #[.tmp 38, .tmp 46]) rfl ?_); at_builtin; refine Kd.R_append (Kd.int .i64) (w0 := w) w.heap.size rfl (.tmp 38) (.tmp 46) 25 3 (.int .i64 0) 8 rfl Try.underlying25 info3 rfl (by decide) (by omega) u5 x5_1 (wrap64 (1000 + ((rd_T113 l0_1 x6_1).f0))) [.int .i64 (wrap64 (1000 + ((rd_T113 l0_1 x6_1).f0)))] (fun _ => True) (fun _ => False) rfl rfl ?aP (fun _ hk => hk.elim) ?aF ?aO ?aB ?aS ?aL ?_; (case aP => exact rfl); (case aB => exact (pb2_ HB.out GE241.out GE242.out)); (case aF => exact (fun _ _ => trivial)); (case aO => exact (pr_ HO_5.out)); (case aS => exact (below_size (pb2_ HB.out GE241.out GE242.out))); (case aL => have := LMc24.out; omega); intro v252 w27 ho hb hg hat; rw [← Ny251.out] at ho; have _ := Q_ (blk_grown (g := gb241) (o := .cells #[.slice A0_0 l0_0.length c0_0, .slice (some ad246) l0_1.length c0_1] 71 (0, 0)) (pk_ BK241.out) hg (Kd.R_ne HO_5.out BK241.out (by decide))); have _ := Q_ (blk_grown (g := gb242) (o := .cells #[.slice A1_0 l1_0.length c1_0, .slice A1_1 l1_1.length c1_1] 71 (0, 0)) (pk_ BK242.out) hg (Kd.R_ne HO_5.out BK242.out (by decide))); have _ := Q_ (hb); have _ := Q_ (ho); clear BK241 BK242 HB HO_5; rename_i BK241 BK242 HB HO253; clear ho hb hg hat))
 repeat (go_quiet (first | ((with_reducible refine gate_builtin (b := .append) (xs := #[.tmp 38, .tmp 46]) rfl ?_); at_builtin; refine Kd.R_append (Kd.int .i64) (w0 := w) w.heap.size rfl (.tmp 38) (.tmp 46) 25 3 (.int .i64 0) 8 rfl Try.underlying25 info3 rfl (by decide) (by omega) u5 x5_1 (wrap64 (1000 + ((rd_T113 l0_1 x6_1).f0))) [.int .i64 (wrap64 (1000 + ((rd_T113 l0_1 x6_1).f0)))] (fun _ => True) (fun _ => False) rfl rfl ?aP (fun _ hk => hk.elim) ?aF ?aO ?aB ?aS ?aL ?_; (case aP => exact rfl); (case aB => exact (pb2_ HB.out GE241.out GE242.out)); (case aF => exact (fun _ _ => trivial)); (case aO => exact (pr_ HO_5.out)); (case aS => exact (below_size (pb2_ HB.out GE241.out GE242.out))); (case aL => have := LMc24.out; omega); intro v252 w27 ho hb hg hat; rw [← Ny251.out] at ho; have _ := Q_ (blk_grown (g := gb241) (o := .cells #[.slice A0_0 l0_0.length c0_0, .slice (some ad246) l0_1.length c0_1] 71 (0, 0)) (pk_ BK241.out) hg (Kd.R_ne HO_5.out BK241.out (by decide))); have _ := Q_ (blk_grown (g := gb242) (o := .cells #[.slice A1_0 l1_0.length c1_0, .slice A1_1 l1_1.length c1_1] 71 (0, 0)) (pk_ BK242.out) hg (Kd.R_ne HO_5.out BK242.out (by decide))); have _ := Q_ (hb); have _ := Q_ (ho); clear BK241 BK242 HB HO_5; rename_i BK241 BK242 HB HO253; clear ho hb hg hat)); try go_wp2_with (first | ((with_reducible refine gate_builtin (b := .append) (xs := #[.tmp 38, .tmp 46]) rfl ?_); at_builtin; refine Kd.R_append (Kd.int .i64) (w0 := w) w.heap.size rfl (.tmp 38) (.tmp 46) 25 3 (.int .i64 0) 8 rfl Try.underlying25 info3 rfl (by decide) (by omega) u5 x5_1 (wrap64 (1000 + ((rd_T113 l0_1 x6_1).f0))) [.int .i64 (wrap64 (1000 + ((rd_T113 l0_1 x6_1).f0)))] (fun _ => True) (fun _ => False) rfl rfl ?aP (fun _ hk => hk.elim) ?aF ?aO ?aB ?aS ?aL ?_; (case aP => exact rfl); (case aB => exact (pb2_ HB.out GE241.out GE242.out)); (case aF => exact (fun _ _ => trivial)); (case aO => exact (pr_ HO_5.out)); (case aS => exact (below_size (pb2_ HB.out GE241.out GE242.out))); (case aL => have := LMc24.out; omega); intro v252 w27 ho hb hg hat; rw [← Ny251.out] at ho; have _ := Q_ (blk_grown (g := gb241) (o := .cells #[.slice A0_0 l0_0.length c0_0, .slice (some ad246) l0_1.length c0_1] 71 (0, 0)) (pk_ BK241.out) hg (Kd.R_ne HO_5.out BK241.out (by decide))); have _ := Q_ (blk_grown (g := gb242) (o := .cells #[.slice A1_0 l1_0.length c1_0, .slice A1_1 l1_1.length c1_1] 71 (0, 0)) (pk_ BK242.out) hg (Kd.R_ne HO_5.out BK242.out (by decide))); have _ := Q_ (hb); have _ := Q_ (ho); clear BK241 BK242 HB HO_5; rename_i BK241 BK242 HB HO253; clear ho hb hg hat)))
 go_roundg k1
 case measure => have := HK1.out; omega
 case rel => exact ⟨(y251), (wrap64 (x6_1 + 1)), el_, H', ⟨by have := HK1.out; omega⟩, ⟨pr_ HO253.out⟩, ⟨pk_ BK241.out⟩, ⟨pk_ BK242.out⟩, ⟨pb2_ HB.out GE241.out GE242.out⟩⟩

/-! ### spec_AreVersions: function 76 -/
def spec_AreVersions.l0 : Nat → List Int → Int → Option (Bool)
 | 0, _, _ => none
 | k + 1, x0, x3 => if x3 < (x0.length : Int) then (if 0 ≤ x3 then ((spec_l1In.f (rd x0 x3) 1 9).bind fun t255 => (if t255 = true then (if x3 > 0 then (if 0 ≤ (wrap64 (x3 - 1)) then (if (wrap64 (x3 - 1)) < (x0.length : Int) then (if (rd x0 (wrap64 (x3 - 1))) ≥ (rd x0 x3) then (some false) else (spec_AreVersions.l0 k x0 (wrap64 (x3 + 1)))) else (none)) else (none)) else (spec_AreVersions.l0 k x0 (wrap64 (x3 + 1)))) else (some false))) else (none)) else (some (decide ((x0.length : Int) > 0)))
def spec_AreVersions.f (k : Nat) (l0 : List Int) : Option (Bool) := spec_AreVersions.l0 k l0 0
theorem spec_AreVersions.mono_l : ∀ k, (∀ y0 y1, LeO (spec_AreVersions.l0 k y0 y1) (spec_AreVersions.l0 (k + 1) y0 y1))
 | 0 => fun _ _ r h => by simp [spec_AreVersions.l0] at h
 | k + 1 => by
  have ih0 := spec_AreVersions.mono_l k
  ·intro y0 y1
   unfold spec_AreVersions.l0
   exact mo1_ ih0
theorem spec_AreVersions.mono : ∀ a0 k, LeO (spec_AreVersions.f k a0) (spec_AreVersions.f (k + 1) a0) := by
 intro a0 k
 have ih0 := spec_AreVersions.mono_l k
 unfold spec_AreVersions.f
 exact mo1_ ih0
theorem spec_AreVersions.calls (k : Nat) (A0 : Option Addr) (c0 : Nat) (l0 : List Int) (r : Bool) (w : World) (hr0 : Kd.C (Kd.int .i64) w A0 l0.length l0) (hc0 : l0.length ≤ c0) (h : spec_AreVersions.f k l0 = some r) :
  Calls Try.prog 76 #[.slice A0 l0.length c0] w fun e w' => e = .returned (.bool r) ∧ Drawn0 w w' := by
 have HR0 := Q_ hr0
 have HC0 := Q_ hc0
 clear hr0 hc0
 have H : (spec_AreVersions.l0 k l0 0) = some r := h
 clear h
 have H' := Q_ H
 clear H
 go_enter Try.func76, Try.ntmps76
 go_wp2
 repeat (go_quiet (fail); try go_wp2)
 go_loopg [3] k (fun kq v3 w' => ∃ (x3_1 : Int), v3 = .int .i64 x3_1 ∧ Aside0 (spec_AreVersions.l0 kq l0 x3_1 = some r) ∧ Aside0 (kq ≤ k) ∧ Drawn0 w w')
 case atStart => exact ⟨(0), el_, H', ⟨Nat.le_refl _⟩, by repeat (first | exact Drawn0.refl _ | apply Drawn0.step)⟩
 clear H'
 obtain ⟨x3_1, rfl, HA, HK1, ⟨m1, rfl⟩⟩ := hrel
 rcases gk with _ | k1
 ·exact absurd HA.out (by simp [spec_AreVersions.l0])
 have H := HA.out
 clear HA
 simp only [spec_AreVersions.l0] at H
 by_cases c2 : x3_1 < (l0.length : Int)
 rotate_left
 ·rw [if_neg c2] at H
  have c2b0 : decide (x3_1 < (l0.length : Int)) = false := decide_eq_false c2
  clear c2
  obtain rfl := Option.some.inj H
  go_wp2
  repeat (go_quiet (fail); try go_wp2)
  go_ret
  exact ⟨by first | rfl | (simp; done) | (simp [*]; done), by repeat (first | exact Drawn0.refl _ | apply Drawn0.step)⟩
 rw [if_pos c2] at H
 have c2b0 : decide (x3_1 < (l0.length : Int)) = true := decide_eq_true c2
 clear c2
 by_cases c3 : 0 ≤ x3_1
 rotate_left
 ·rw [if_neg c3] at H
  exact absurd H (by simp)
 rw [if_pos c3] at H
 have c3b0 : decide (0 ≤ x3_1) = true := decide_eq_true c3
 clear c3
 replace H := Option.bind_eq_some_iff.mp H
 obtain ⟨t255, A40, H⟩ := H
 (try dsimp only at H)
 have A4 := Q_ A40
 clear A40
 by_cases c5 : t255 = true
 rotate_left
 ·replace c5 := bf_ c5
  subst c5
  rw [if_neg ff_] at H
  obtain rfl := Option.some.inj H
  have p254 : 0 ≤ (x3_1 : Int) := dt_
  have q254 : x3_1 < (l0.length : Int) := dt_
  obtain ⟨ad254, e254, hx254_0⟩ := Kd.at_int HR0.out x3_1 p254 q254
  cases e254
  replace p254 := eq_true p254
  replace q254 := eq_true q254
  go_wp2_with (first | (go_at_call 72; (with_reducible refine (spec_l1In.calls (rd l0 x3_1) 1 9 false _ A4.out).mono ?_); rintro e w' ⟨rfl, ⟨nd, rfl⟩⟩; (try first | exact ⟨rfl, _, World.drewN_drewN _ _ _⟩ | exact ⟨rfl, _, Eq.trans (World.drewN_drewN _ _ _) (congrArg (World.drewN _) (Nat.add_assoc _ _ _))⟩)))
  repeat (go_quiet (first | (go_at_call 72; (with_reducible refine (spec_l1In.calls (rd l0 x3_1) 1 9 false _ A4.out).mono ?_); rintro e w' ⟨rfl, ⟨nd, rfl⟩⟩; (try first | exact ⟨rfl, _, World.drewN_drewN _ _ _⟩ | exact ⟨rfl, _, Eq.trans (World.drewN_drewN _ _ _) (congrArg (World.drewN _) (Nat.add_assoc _ _ _))⟩))); try go_wp2_with (first | (go_at_call 72; (with_reducible refine (spec_l1In.calls (rd l0 x3_1) 1 9 false _ A4.out).mono ?_); rintro e w' ⟨rfl, ⟨nd, rfl⟩⟩; (try first | exact ⟨rfl, _, World.drewN_drewN _ _ _⟩ | exact ⟨rfl, _, Eq.trans (World.drewN_drewN _ _ _) (congrArg (World.drewN _) (Nat.add_assoc _ _ _))⟩))))
  go_ret
  exact ⟨by first | rfl | (simp; done) | (simp [*]; done), by repeat (first | exact Drawn0.refl _ | apply Drawn0.step)⟩
 subst c5
 rw [if_pos rfl] at H
 by_cases c6 : x3_1 > 0
 rotate_left
 ·rw [if_neg c6] at H
  have c6b0 : decide (0 < x3_1) = false := decide_eq_false c6
  clear c6
  have H' := Q_ H
  clear H
  have p254 : 0 ≤ (x3_1 : Int) := dt_
  have q254 : x3_1 < (l0.length : Int) := dt_
  obtain ⟨ad254, e254, hx254_0⟩ := Kd.at_int HR0.out x3_1 p254 q254
  cases e254
  replace p254 := eq_true p254
  replace q254 := eq_true q254
  go_wp2_with (first | (go_at_call 72; (with_reducible refine (spec_l1In.calls (rd l0 x3_1) 1 9 true _ A4.out).mono ?_); rintro e w' ⟨rfl, ⟨nd, rfl⟩⟩; (try first | exact ⟨rfl, _, World.drewN_drewN _ _ _⟩ | exact ⟨rfl, _, Eq.trans (World.drewN_drewN _ _ _) (congrArg (World.drewN _) (Nat.add_assoc _ _ _))⟩)))
  repeat (go_quiet (first | (go_at_call 72; (with_reducible refine (spec_l1In.calls (rd l0 x3_1) 1 9 true _ A4.out).mono ?_); rintro e w' ⟨rfl, ⟨nd, rfl⟩⟩; (try first | exact ⟨rfl, _, World.drewN_drewN _ _ _⟩ | exact ⟨rfl, _, Eq.trans (World.drewN_drewN _ _ _) (congrArg (World.drewN _) (Nat.add_assoc _ _ _))⟩))); try go_wp2_with (first | (go_at_call 72; (with_reducible refine (spec_l1In.calls (rd l0 x3_1) 1 9 true _ A4.out).mono ?_); rintro e w' ⟨rfl, ⟨nd, rfl⟩⟩; (try first | exact ⟨rfl, _, World.drewN_drewN _ _ _⟩ | exact ⟨rfl, _, Eq.trans (World.drewN_drewN _ _ _) (congrArg (World.drewN _) (Nat.add_assoc _ _ _))⟩))))
  go_roundg k1
  case measure => have := HK1.out; omega
  case rel => exact ⟨(wrap64 (x3_1 + 1)), el_, H', ⟨by have := HK1.out; omega⟩, by repeat (first | exact Drawn0.refl _ | apply Drawn0.step)⟩
 rw [if_pos c6] at H
 have c6b0 : decide (0 < x3_1) = true := decide_eq_true c6
 clear c6
 obtain ⟨ji7, hji7⟩ : ∃ j_ : Int, (wrap64 (x3_1 - 1)) = j_ := ⟨_, rfl⟩
 replace H : (if 0 ≤ (ji7) then (if (ji7) < (l0.length : Int) then (if (rd l0 (ji7)) ≥ (rd l0 x3_1) then (some false) else (spec_AreVersions.l0 k1 l0 (wrap64 (x3_1 + 1)))) else (none)) else (none)) = some r := by first | (rw [hji7] at H; exact H) | (simp only [hji7] at H ⊢; exact H)
 (try rw [hji7] at A4)
 have hji7w : (IntKind.i64.wrap (x3_1 - 1)) = ji7 := (i64_w _).trans hji7
 by_cases c8 : 0 ≤ (ji7)
 rotate_left
 ·rw [if_neg c8] at H
  exact absurd H (by simp)
 rw [if_pos c8] at H
 have c8b0 : decide (0 ≤ (ji7)) = true := decide_eq_true c8
 clear c8
 by_cases c9 : (ji7) < (l0.length : Int)
 rotate_left
 ·rw [if_neg c9] at H
  exact absurd H (by simp)
 rw [if_pos c9] at H
 have c9b0 : decide ((ji7) < (l0.length : Int)) = true := decide_eq_true c9
 clear c9
 have HS_ := Q_ H
 clear H
 have p254 : 0 ≤ (x3_1 : Int) := dt_
 have q254 : x3_1 < (l0.length : Int) := dt_
 obtain ⟨ad254, e254, hx254_0⟩ := Kd.at_int HR0.out x3_1 p254 q254
 cases e254
 replace p254 := eq_true p254
 replace q254 := eq_true q254
 go_upto_if 31 with (first | (go_at_call 72; (with_reducible refine (spec_l1In.calls (rd l0 x3_1) 1 9 true _ A4.out).mono ?_); rintro e w' ⟨rfl, ⟨nd, rfl⟩⟩; (try first | exact ⟨rfl, _, World.drewN_drewN _ _ _⟩ | exact ⟨rfl, _, Eq.trans (World.drewN_drewN _ _ _) (congrArg (World.drewN _) (Nat.add_assoc _ _ _))⟩); have p256 : 0 ≤ ((ji7) : Int) := dt_; have q256 : (ji7) < (l0.length : Int) := dt_; obtain ⟨ad256, e256, hx256_0⟩ := Kd.at_int HR0.out (ji7) p256 q256; obtain rfl : ad254 = ad256 := (by injection e256); replace p256 := eq_true p256; replace q256 := eq_true q256; have p257 : 0 ≤ (x3_1 : Int) := dt_; have q257 : x3_1 < (l0.length : Int) := dt_; obtain ⟨ad257, e257, hx257_0⟩ := Kd.at_int HR0.out x3_1 p257 q257; obtain rfl : ad254 = ad257 := (by injection e257); replace p257 := eq_true p257; replace q257 := eq_true q257))
 repeat (go_quiet (first | (go_at_call 72; (with_reducible refine (spec_l1In.calls (rd l0 x3_1) 1 9 true _ A4.out).mono ?_); rintro e w' ⟨rfl, ⟨nd, rfl⟩⟩; (try first | exact ⟨rfl, _, World.drewN_drewN _ _ _⟩ | exact ⟨rfl, _, Eq.trans (World.drewN_drewN _ _ _) (congrArg (World.drewN _) (Nat.add_assoc _ _ _))⟩); have p256 : 0 ≤ ((ji7) : Int) := dt_; have q256 : (ji7) < (l0.length : Int) := dt_; obtain ⟨ad256, e256, hx256_0⟩ := Kd.at_int HR0.out (ji7) p256 q256; obtain rfl : ad254 = ad256 := (by injection e256); replace p256 := eq_true p256; replace q256 := eq_true q256; have p257 : 0 ≤ (x3_1 : Int) := dt_; have q257 : x3_1 < (l0.length : Int) := dt_; obtain ⟨ad257, e257, hx257_0⟩ := Kd.at_int HR0.out x3_1 p257 q257; obtain rfl : ad254 = ad257 := (by injection e257); replace p257 := eq_true p257; replace q257 := eq_true q257)); go_upto_if 31 with (first | (go_at_call 72; (with_reducible refine (spec_l1In.calls (rd l0 x3_1) 1 9 true _ A4.out).mono ?_); rintro e w' ⟨rfl, ⟨nd, rfl⟩⟩; (try first | exact ⟨rfl, _, World.drewN_drewN _ _ _⟩ | exact ⟨rfl, _, Eq.trans (World.drewN_drewN _ _ _) (congrArg (World.drewN _) (Nat.add_assoc _ _ _))⟩); have p256 : 0 ≤ ((ji7) : Int) := dt_; have q256 : (ji7) < (l0.length : Int) := dt_; obtain ⟨ad256, e256, hx256_0⟩ := Kd.at_int HR0.out (ji7) p256 q256; obtain rfl : ad254 = ad256 := (by injection e256); replace p256 := eq_true p256; replace q256 := eq_true q256; have p257 : 0 ≤ (x3_1 : Int) := dt_; have q257 : x3_1 < (l0.length : Int) := dt_; obtain ⟨ad257, e257, hx257_0⟩ := Kd.at_int HR0.out x3_1 p257 q257; obtain rfl : ad254 = ad257 := (by injection e257); replace p257 := eq_true p257; replace q257 := eq_true q257)))
 (try simp only [Act.put, List.setIfInBounds_toArray, List.set_cons_zero, List.set_cons_succ])
 have H := HS_.out
 clear HS_
 by_cases c10 : (rd l0 (ji7)) ≥ (rd l0 x3_1)
 rotate_left
 ·rw [if_neg c10] at H
  have c10b0 : decide ((rd l0 x3_1) ≤ (rd l0 (ji7))) = false := decide_eq_false c10
  clear c10
  (first | rw [c10b0] | (simp only [i64_w, i32_w]; rw [c10b0]) | skip)
  have H' := Q_ H
  clear H
  go_wp2
  repeat (go_quiet (fail); try go_wp2)
  go_roundg k1
  case measure => have := HK1.out; omega
  case rel => exact ⟨(wrap64 (x3_1 + 1)), el_, H', ⟨by have := HK1.out; omega⟩, by repeat (first | exact Drawn0.refl _ | apply Drawn0.step)⟩
 rw [if_pos c10] at H
 have c10b0 : decide ((rd l0 x3_1) ≤ (rd l0 (ji7))) = true := decide_eq_true c10
 clear c10
 (first | rw [c10b0] | (simp only [i64_w, i32_w]; rw [c10b0]) | skip)
 obtain rfl := Option.some.inj H
 go_wp2
 repeat (go_quiet (fail); try go_wp2)
 go_ret
 exact ⟨by first | rfl | (simp; done) | (simp only [← hji7] <;> (first | rfl | simp)) | (simp [*]; done), by repeat (first | exact Drawn0.refl _ | apply Drawn0.step)⟩

/-! ### spec_l9Byte: function 93 -/
def spec_l9Byte.l0 : Nat → List Int → Int → Option (Bool)
 | 0, _, _ => none
 | k + 1, x0, x3 => if x3 < (x0.length : Int) then (if 0 ≤ x3 then ((spec_l1In.f (rd x0 x3) 0 255).bind fun t259 => (if t259 = true then (spec_l9Byte.l0 k x0 (wrap64 (x3 + 1))) else (some false))) else (none)) else (some true)
def spec_l9Byte.f (k : Nat) (l0 : List Int) : Option (Bool) := spec_l9Byte.l0 k l0 0
theorem spec_l9Byte.mono_l : ∀ k, (∀ y0 y1, LeO (spec_l9Byte.l0 k y0 y1) (spec_l9Byte.l0 (k + 1) y0 y1))
 | 0 => fun _ _ r h => by simp [spec_l9Byte.l0] at h
 | k + 1 => by
  have ih0 := spec_l9Byte.mono_l k
  ·intro y0 y1
   unfold spec_l9Byte.l0
   exact mo1_ ih0
theorem spec_l9Byte.mono : ∀ a0 k, LeO (spec_l9Byte.f k a0) (spec_l9Byte.f (k + 1) a0) := by
 intro a0 k
 have ih0 := spec_l9Byte.mono_l k
 unfold spec_l9Byte.f
 exact mo1_ ih0
theorem spec_l9Byte.calls (k : Nat) (A0 : Option Addr) (c0 : Nat) (l0 : List Int) (r : Bool) (w : World) (hr0 : Kd.C (Kd.int .i64) w A0 l0.length l0) (hc0 : l0.length ≤ c0) (h : spec_l9Byte.f k l0 = some r) :
  Calls Try.prog 93 #[.slice A0 l0.length c0] w fun e w' => e = .returned (.bool r) ∧ Drawn0 w w' := by
 have HR0 := Q_ hr0
 have HC0 := Q_ hc0
 clear hr0 hc0
 have H : (spec_l9Byte.l0 k l0 0) = some r := h
 clear h
 have H' := Q_ H
 clear H
 go_enter Try.func93, Try.ntmps93
 go_wp2
 go_loopg [3] k (fun kq v3 w' => ∃ (x3_1 : Int), v3 = .int .i64 x3_1 ∧ Aside0 (spec_l9Byte.l0 kq l0 x3_1 = some r) ∧ Aside0 (kq ≤ k) ∧ Drawn0 w w')
 case atStart => exact ⟨(0), el_, H', ⟨Nat.le_refl _⟩, by repeat (first | exact Drawn0.refl _ | apply Drawn0.step)⟩
 clear H'
 obtain ⟨x3_1, rfl, HA, HK1, ⟨m1, rfl⟩⟩ := hrel
 rcases gk with _ | k1
 ·exact absurd HA.out (by simp [spec_l9Byte.l0])
 have H := HA.out
 clear HA
 simp only [spec_l9Byte.l0] at H
 by_cases c2 : x3_1 < (l0.length : Int)
 rotate_left
 ·rw [if_neg c2] at H
  have c2b0 : decide (x3_1 < (l0.length : Int)) = false := decide_eq_false c2
  clear c2
  obtain rfl := Option.some.inj H
  go_wp2
  go_ret
  exact ⟨by first | rfl | (simp; done) | (simp [*]; done), by repeat (first | exact Drawn0.refl _ | apply Drawn0.step)⟩
 rw [if_pos c2] at H
 have c2b0 : decide (x3_1 < (l0.length : Int)) = true := decide_eq_true c2
 clear c2
 by_cases c3 : 0 ≤ x3_1
 rotate_left
 ·rw [if_neg c3] at H
  exact absurd H (by simp)
 rw [if_pos c3] at H
 have c3b0 : decide (0 ≤ x3_1) = true := decide_eq_true c3
 clear c3
 replace H := Option.bind_eq_some_iff.mp H
 obtain ⟨t259, A40, H⟩ := H
 (try dsimp only at H)
 have A4 := Q_ A40
 clear A40
 have HS_ := Q_ H
 clear H
 have p258 : 0 ≤ (x3_1 : Int) := dt_
 have q258 : x3_1 < (l0.length : Int) := dt_
 obtain ⟨ad258, e258, hx258_0⟩ := Kd.at_int HR0.out x3_1 p258 q258
 cases e258
 replace p258 := eq_true p258
 replace q258 := eq_true q258
 go_upto_if 15 with (first | ((with_reducible refine gate_callee (f := 72) rfl ?_); refine gl_ (some 14) Try.func72 #[.int .i64 (rd l0 x3_1), .int .i64 0, .int .i64 255] ?_; (with_reducible refine (spec_l1In.calls (rd l0 x3_1) 0 255 t259 _ A4.out).mono ?_); rintro e w' ⟨rfl, ⟨nd, rfl⟩⟩; refine ⟨_, rfl, ?_⟩))
 (try simp only [Act.put, List.setIfInBounds_toArray, List.set_cons_zero, List.set_cons_succ])
 have H := HS_.out
 clear HS_
 by_cases c5 : t259 = true
 rotate_left
 ·replace c5 := bf_ c5
  subst c5
  rw [if_neg ff_] at H
  obtain rfl := Option.some.inj H
  go_wp2
  go_ret
  exact ⟨by first | rfl | (simp; done) | (simp [*]; done), by repeat (first | exact Drawn0.refl _ | apply Drawn0.step)⟩
 subst c5
 rw [if_pos rfl] at H
 have H' := Q_ H
 clear H
 go_wp2
 go_roundg k1
 case measure => have := HK1.out; omega
 case rel => exact ⟨(wrap64 (x3_1 + 1)), el_, H', ⟨by have := HK1.out; omega⟩, by repeat (first | exact Drawn0.refl _ | apply Drawn0.step)⟩

/-! ### spec_AreExts: function 77 -/
def spec_AreExts.l0 : Nat → List (S113) → Int → Option (Bool)
 | 0, _, _ => none
 | k + 1, x0, x3 => if x3 < (x0.length : Int) then (if 0 ≤ x3 then ((spec_l1In.f ((rd_T113 x0 x3).f0) 0 255).bind fun t261 => (if t261 = true then (if (((rd_T113 x0 x3).f1).length : Int) > 4 then (some false) else ((spec_l9Byte.f k ((rd_T113 x0 x3).f1)).bind fun t264 => (if t264 = true then ((spec_ExtOf.f k x0 ((rd_T113 x0 x3).f0)).bind fun t266 => (if t266 < x3 then (some false) else (spec_AreExts.l0 k x0 (wrap64 (x3 + 1))))) else (some false)))) else (some false))) else (none)) else (some (decide ((x0.length : Int) ≤ 6)))
def spec_AreExts.f (k : Nat) (l0 : List (S113)) : Option (Bool) := spec_AreExts.l0 k l0 0
theorem spec_AreExts.mono_l : ∀ k, (∀ y0 y1, LeO (spec_AreExts.l0 k y0 y1) (spec_AreExts.l0 (k + 1) y0 y1))
 | 0 => fun _ _ r h => by simp [spec_AreExts.l0] at h
 | k + 1 => by
  have ih0 := spec_AreExts.mono_l k
  ·intro y0 y1
   unfold spec_AreExts.l0
   exact mo3_ ih0 spec_ExtOf.mono spec_l9Byte.mono
theorem spec_AreExts.mono : ∀ a0 k, LeO (spec_AreExts.f k a0) (spec_AreExts.f (k + 1) a0) := by
 intro a0 k
 have ih0 := spec_AreExts.mono_l k
 unfold spec_AreExts.f
 exact mo3_ ih0 spec_ExtOf.mono spec_l9Byte.mono
theorem spec_AreExts.calls (k : Nat) (A0 : Option Addr) (c0 : Nat) (l0 : List (S113)) (r : Bool) (w : World) (hr0 : Kd.C k113 w A0 l0.length l0) (hc0 : l0.length ≤ c0) (h : spec_AreExts.f k l0 = some r) :
  Calls Try.prog 77 #[.slice A0 l0.length c0] w fun e w' => e = .returned (.bool r) ∧ Drawn0 w w' := by
 have HR0 := Q_ hr0
 have HC0 := Q_ hc0
 clear hr0 hc0
 have H : (spec_AreExts.l0 k l0 0) = some r := h
 clear h
 have H' := Q_ H
 clear H
 go_enter Try.func77, Try.ntmps77
 go_wp2
 go_loopg [3] k (fun kq v3 w' => ∃ (x3_1 : Int), v3 = .int .i64 x3_1 ∧ Aside0 (spec_AreExts.l0 kq l0 x3_1 = some r) ∧ Aside0 (kq ≤ k) ∧ Drawn0 w w')
 case atStart => exact ⟨(0), el_, H', ⟨Nat.le_refl _⟩, by repeat (first | exact Drawn0.refl _ | apply Drawn0.step)⟩
 clear H'
 obtain ⟨x3_1, rfl, HA, HK1, ⟨m1, rfl⟩⟩ := hrel
 rcases gk with _ | k1
 ·exact absurd HA.out (by simp [spec_AreExts.l0])
 have H := HA.out
 clear HA
 simp only [spec_AreExts.l0] at H
 by_cases c2 : x3_1 < (l0.length : Int)
 rotate_left
 ·rw [if_neg c2] at H
  have c2b0 : decide (x3_1 < (l0.length : Int)) = false := decide_eq_false c2
  clear c2
  obtain rfl := Option.some.inj H
  go_wp2
  go_ret
  exact ⟨by first | rfl | (simp; done) | (simp [*]; done), by repeat (first | exact Drawn0.refl _ | apply Drawn0.step)⟩
 rw [if_pos c2] at H
 have c2b0 : decide (x3_1 < (l0.length : Int)) = true := decide_eq_true c2
 clear c2
 by_cases c3 : 0 ≤ x3_1
 rotate_left
 ·rw [if_neg c3] at H
  exact absurd H (by simp)
 rw [if_pos c3] at H
 have c3b0 : decide (0 ≤ x3_1) = true := decide_eq_true c3
 clear c3
 replace H := Option.bind_eq_some_iff.mp H
 obtain ⟨t261, A40, H⟩ := H
 (try dsimp only at H)
 have A4 := Q_ A40
 clear A40
 by_cases c5 : t261 = true
 rotate_left
 ·replace c5 := bf_ c5
  subst c5
  rw [if_neg ff_] at H
  obtain rfl := Option.some.inj H
  have p260 : 0 ≤ (x3_1 : Int) := dt_
  have q260 : x3_1 < (l0.length : Int) := dt_
  obtain ⟨ad260, A260_1, c260_1, e260, hx260_0, hx260_1, hl260_1, hi260_1⟩ := at_T113 HR0.out x3_1 p260 q260
  cases e260
  have HR260_1 := Q_ hi260_1
  have HC260_1 := Q_ hl260_1
  clear hi260_1 hl260_1
  replace p260 := eq_true p260
  replace q260 := eq_true q260
  go_wp2_with (first | ((with_reducible refine gate_callee (f := 72) rfl ?_); refine gl_ (some 15) Try.func72 #[.int .i64 ((rd_T113 l0 x3_1).f0), .int .i64 0, .int .i64 255] ?_; (with_reducible refine (spec_l1In.calls ((rd_T113 l0 x3_1).f0) 0 255 false _ A4.out).mono ?_); rintro e w' ⟨rfl, ⟨nd, rfl⟩⟩; refine ⟨_, rfl, ?_⟩))
  go_ret
  exact ⟨by first | rfl | (simp; done) | (simp [*]; done), by repeat (first | exact Drawn0.refl _ | apply Drawn0.step)⟩
 subst c5
 rw [if_pos rfl] at H
 by_cases c6 : (((rd_T113 l0 x3_1).f1).length : Int) > 4
 ·rw [if_pos c6] at H
  have c6b0 : decide (4 < (((rd_T113 l0 x3_1).f1).length : Int)) = true := decide_eq_true c6
  have c6b1 : decide (4 < ((rd_T113 l0 x3_1).f1).length) = true := decide_eq_true (by omega)
  clear c6
  obtain rfl := Option.some.inj H
  have p260 : 0 ≤ (x3_1 : Int) := dt_
  have q260 : x3_1 < (l0.length : Int) := dt_
  obtain ⟨ad260, A260_1, c260_1, e260, hx260_0, hx260_1, hl260_1, hi260_1⟩ := at_T113 HR0.out x3_1 p260 q260
  cases e260
  have HR260_1 := Q_ hi260_1
  have HC260_1 := Q_ hl260_1
  clear hi260_1 hl260_1
  replace p260 := eq_true p260
  replace q260 := eq_true q260
  go_wp2_with (first | ((with_reducible refine gate_callee (f := 72) rfl ?_); refine gl_ (some 15) Try.func72 #[.int .i64 ((rd_T113 l0 x3_1).f0), .int .i64 0, .int .i64 255] ?_; (with_reducible refine (spec_l1In.calls ((rd_T113 l0 x3_1).f0) 0 255 true _ A4.out).mono ?_); rintro e w' ⟨rfl, ⟨nd, rfl⟩⟩; refine ⟨_, rfl, ?_⟩; have p262 : 0 ≤ (x3_1 : Int) := dt_; have q262 : x3_1 < (l0.length : Int) := dt_; obtain ⟨ad262, A262_1, c262_1, e262, hx262_0, hx262_1, hl262_1, hi262_1⟩ := at_T113 HR0.out x3_1 p262 q262; obtain rfl : ad260 = ad262 := (by injection e262); have HR262_1 := Q_ hi262_1; have HC262_1 := Q_ hl262_1; clear hi262_1 hl262_1; replace p262 := eq_true p262; replace q262 := eq_true q262; have ea_ := Option.some.inj (hx260_1.symm.trans hx262_1); injection ea_ with ea_ en_ ec_; subst ea_; subst ec_; clear en_))
  go_ret
  exact ⟨by first | rfl | (simp; done) | (simp [*]; done), by repeat (first | exact Drawn0.refl _ | apply Drawn0.step)⟩
 rw [if_neg c6] at H
 have c6b0 : decide (4 < (((rd_T113 l0 x3_1).f1).length : Int)) = false := decide_eq_false c6
 have c6b1 : decide (4 < ((rd_T113 l0 x3_1).f1).length) = false := decide_eq_false (by omega)
 clear c6
 replace H := Option.bind_eq_some_iff.mp H
 obtain ⟨t264, A70, H⟩ := H
 (try dsimp only at H)
 have A7 := Q_ A70
 clear A70
 by_cases c8 : t264 = true
 rotate_left
 ·replace c8 := bf_ c8
  subst c8
  rw [if_neg ff_] at H
  obtain rfl := Option.some.inj H
  have p260 : 0 ≤ (x3_1 : Int) := dt_
  have q260 : x3_1 < (l0.length : Int) := dt_
  obtain ⟨ad260, A260_1, c260_1, e260, hx260_0, hx260_1, hl260_1, hi260_1⟩ := at_T113 HR0.out x3_1 p260 q260
  cases e260
  have HR260_1 := Q_ hi260_1
  have HC260_1 := Q_ hl260_1
  clear hi260_1 hl260_1
  replace p260 := eq_true p260
  replace q260 := eq_true q260
  go_wp2_with (first | ((with_reducible refine gate_callee (f := 72) rfl ?_); refine gl_ (some 15) Try.func72 #[.int .i64 ((rd_T113 l0 x3_1).f0), .int .i64 0, .int .i64 255] ?_; (with_reducible refine (spec_l1In.calls ((rd_T113 l0 x3_1).f0) 0 255 true _ A4.out).mono ?_); rintro e w' ⟨rfl, ⟨nd, rfl⟩⟩; refine ⟨_, rfl, ?_⟩; have p262 : 0 ≤ (x3_1 : Int) := dt_; have q262 : x3_1 < (l0.length : Int) := dt_; obtain ⟨ad262, A262_1, c262_1, e262, hx262_0, hx262_1, hl262_1, hi262_1⟩ := at_T113 HR0.out x3_1 p262 q262; obtain rfl : ad260 = ad262 := (by injection e262); have HR262_1 := Q_ hi262_1; have HC262_1 := Q_ hl262_1; clear hi262_1 hl262_1; replace p262 := eq_true p262; replace q262 := eq_true q262; have ea_ := Option.some.inj (hx260_1.symm.trans hx262_1); injection ea_ with ea_ en_ ec_; subst ea_; subst ec_; clear en_; have p263 : 0 ≤ (x3_1 : Int) := dt_; have q263 : x3_1 < (l0.length : Int) := dt_; obtain ⟨ad263, A263_1, c263_1, e263, hx263_0, hx263_1, hl263_1, hi263_1⟩ := at_T113 HR0.out x3_1 p263 q263; obtain rfl : ad260 = ad263 := (by injection e263); have HR263_1 := Q_ hi263_1; have HC263_1 := Q_ hl263_1; clear hi263_1 hl263_1; replace p263 := eq_true p263; replace q263 := eq_true q263; have ea_ := Option.some.inj (hx260_1.symm.trans hx263_1); injection ea_ with ea_ en_ ec_; subst ea_; subst ec_; clear en_) | (go_at_call 93; (with_reducible refine (spec_l9Byte.calls k1 _ _ ((rd_T113 l0 x3_1).f1) false _ ?side1 ?side2 A7.out).mono ?_); (case side1 => exact pc_ HR263_1.out); (case side2 => exact HC263_1.out); rintro e w' ⟨rfl, ⟨nd, rfl⟩⟩))
  go_ret
  exact ⟨by first | rfl | (simp; done) | (simp [*]; done), by repeat (first | exact Drawn0.refl _ | apply Drawn0.step)⟩
 subst c8
 rw [if_pos rfl] at H
 replace H := Option.bind_eq_some_iff.mp H
 obtain ⟨t266, A90, H⟩ := H
 (try dsimp only at H)
 have A9 := Q_ A90
 clear A90
 have HS_ := Q_ H
 clear H
 have p260 : 0 ≤ (x3_1 : Int) := dt_
 have q260 : x3_1 < (l0.length : Int) := dt_
 obtain ⟨ad260, A260_1, c260_1, e260, hx260_0, hx260_1, hl260_1, hi260_1⟩ := at_T113 HR0.out x3_1 p260 q260
 cases e260
 have HR260_1 := Q_ hi260_1
 have HC260_1 := Q_ hl260_1
 clear hi260_1 hl260_1
 replace p260 := eq_true p260
 replace q260 := eq_true q260
 go_upto_if 45 with (first | ((with_reducible refine gate_callee (f := 72) rfl ?_); refine gl_ (some 15) Try.func72 #[.int .i64 ((rd_T113 l0 x3_1).f0), .int .i64 0, .int .i64 255] ?_; (with_reducible refine (spec_l1In.calls ((rd_T113 l0 x3_1).f0) 0 255 true _ A4.out).mono ?_); rintro e w' ⟨rfl, ⟨nd, rfl⟩⟩; refine ⟨_, rfl, ?_⟩; have p262 : 0 ≤ (x3_1 : Int) := dt_; have q262 : x3_1 < (l0.length : Int) := dt_; obtain ⟨ad262, A262_1, c262_1, e262, hx262_0, hx262_1, hl262_1, hi262_1⟩ := at_T113 HR0.out x3_1 p262 q262; obtain rfl : ad260 = ad262 := (by injection e262); have HR262_1 := Q_ hi262_1; have HC262_1 := Q_ hl262_1; clear hi262_1 hl262_1; replace p262 := eq_true p262; replace q262 := eq_true q262; have ea_ := Option.some.inj (hx260_1.symm.trans hx262_1); injection ea_ with ea_ en_ ec_; subst ea_; subst ec_; clear en_; have p263 : 0 ≤ (x3_1 : Int) := dt_; have q263 : x3_1 < (l0.length : Int) := dt_; obtain ⟨ad263, A263_1, c263_1, e263, hx263_0, hx263_1, hl263_1, hi263_1⟩ := at_T113 HR0.out x3_1 p263 q263; obtain rfl : ad260 = ad263 := (by injection e263); have HR263_1 := Q_ hi263_1; have HC263_1 := Q_ hl263_1; clear hi263_1 hl263_1; replace p263 := eq_true p263; replace q263 := eq_true q263; have ea_ := Option.some.inj (hx260_1.symm.trans hx263_1); injection ea_ with ea_ en_ ec_; subst ea_; subst ec_; clear en_) | (go_at_call 93; (with_reducible refine (spec_l9Byte.calls k1 _ _ ((rd_T113 l0 x3_1).f1) true _ ?side1 ?side2 A7.out).mono ?_); (case side1 => exact pc_ HR263_1.out); (case side2 => exact HC263_1.out); rintro e w' ⟨rfl, ⟨nd, rfl⟩⟩; have p265 : 0 ≤ (x3_1 : Int) := dt_; have q265 : x3_1 < (l0.length : Int) := dt_; obtain ⟨ad265, A265_1, c265_1, e265, hx265_0, hx265_1, hl265_1, hi265_1⟩ := at_T113 HR0.out x3_1 p265 q265; obtain rfl : ad260 = ad265 := (by injection e265); have HR265_1 := Q_ hi265_1; have HC265_1 := Q_ hl265_1; clear hi265_1 hl265_1; replace p265 := eq_true p265; replace q265 := eq_true q265; have ea_ := Option.some.inj (hx260_1.symm.trans hx265_1); injection ea_ with ea_ en_ ec_; subst ea_; subst ec_; clear en_) | (go_at_call 71; (with_reducible refine (spec_ExtOf.calls k1 _ _ l0 ((rd_T113 l0 x3_1).f0) t266 _ ?side1 ?side2 A9.out).mono ?_); (case side1 => exact pc_ HR0.out); (case side2 => exact HC0.out); rintro e w' ⟨rfl, ⟨nd, rfl⟩⟩))
 (try simp only [Act.put, List.setIfInBounds_toArray, List.set_cons_zero, List.set_cons_succ])
 have H := HS_.out
 clear HS_
 by_cases c10 : t266 < x3_1
 rotate_left
 ·rw [if_neg c10] at H
  have c10b0 : decide (t266 < x3_1) = false := decide_eq_false c10
  clear c10
  (first | rw [c10b0] | (simp only [i64_w, i32_w]; rw [c10b0]) | skip)
  have H' := Q_ H
  clear H
  go_wp2
  go_roundg k1
  case measure => have := HK1.out; omega
  case rel => exact ⟨(wrap64 (x3_1 + 1)), el_, H', ⟨by have := HK1.out; omega⟩, by repeat (first | exact Drawn0.refl _ | apply Drawn0.step)⟩
 rw [if_pos c10] at H
 have c10b0 : decide (t266 < x3_1) = true := decide_eq_true c10
 clear c10
 (first | rw [c10b0] | (simp only [i64_w, i32_w]; rw [c10b0]) | skip)
 obtain rfl := Option.some.inj H
 go_wp2
 go_ret
 exact ⟨by first | rfl | (simp; done) | (simp [*]; done), by repeat (first | exact Drawn0.refl _ | apply Drawn0.step)⟩

/-! ### spec_IsHello: function 59 -/
def spec_IsHello.f (k : Nat) (l0_0 : List Int) (l0_1 : List (S113)) : Option (Bool) := (spec_AreVersions.f k l0_0).bind fun t268 => (if t268 = true then ((spec_AreExts.f k l0_1).bind fun t269 => (some t269)) else (some false))
theorem spec_IsHello.mono : ∀ a0 a1 k, LeO (spec_IsHello.f k a0 a1) (spec_IsHello.f (k + 1) a0 a1) := by
 intro a0 a1 k
 unfold spec_IsHello.f
 exact mo2_ spec_AreExts.mono spec_AreVersions.mono
theorem spec_IsHello.calls (k : Nat) (A0_0 : Option Addr) (c0_0 : Nat) (l0_0 : List Int) (A0_1 : Option Addr) (c0_1 : Nat) (l0_1 : List (S113)) (r : Bool) (w : World) (hr0_0 : Kd.C (Kd.int .i64) w A0_0 l0_0.length l0_0) (hc0_0 : l0_0.length ≤ c0_0) (hr0_1 : Kd.C k113 w A0_1 l0_1.length l0_1) (hc0_1 : l0_1.length ≤ c0_1) (h : spec_IsHello.f k l0_0 l0_1 = some r) :
  Calls Try.prog 59 #[.agg #[.slice A0_0 l0_0.length c0_0, .slice A0_1 l0_1.length c0_1]] w fun e w' => e = .returned (.bool r) ∧ Below w.heap.size w w' := by
 have hu71 := Try.underlying71
 have HR0_0 := Q_ hr0_0
 have HC0_0 := Q_ hc0_0
 clear hr0_0 hc0_0
 have HR0_1 := Q_ hr0_1
 have HC0_1 := Q_ hc0_1
 clear hr0_1 hc0_1
 have HB := Q_ (Below.refl w.heap.size w)
 have H : ((spec_AreVersions.f k l0_0).bind fun t268 => (if t268 = true then ((spec_AreExts.f k l0_1).bind fun t269 => (some t269)) else (some false))) = some r := h
 clear h
 have HS_ := Q_ H
 clear H
 go_enter Try.func59, Try.ntmps59
 go_upto_region 1 with (first | ((with_reducible refine gate_dst (N := 1) rfl ?_); refine box_event ?hg (N := 1) ?hd (cs := #[.slice A0_0 l0_0.length c0_0, .slice A0_1 l0_1.length c0_1]) (t := 71) ?hr ?_; (case hd => rfl); (case hg => rfl); (case hr => first | (go_simp; done) | (go_simp; rfl)); intro gb267 hg w2 hbox hb; have _ := Q_ (below_step (pb_ HB.out) hb); have BK267 := Q_ (hbox); have GW267 := Q_ ((by rw [hg]; exact (below_size (pb_ HB.out)) : w.heap.size ≤ gb267)); have GE267 := GW267; clear HB; rename_i HB; clear hb hbox hg))
 (try simp only [Act.put, List.setIfInBounds_toArray, List.set_cons_zero, List.set_cons_succ])
 have H := HS_.out
 clear HS_
 replace H := Option.bind_eq_some_iff.mp H
 obtain ⟨t268, A30, H⟩ := H
 (try dsimp only at H)
 have A3 := Q_ A30
 clear A30
 by_cases c4 : t268 = true
 rotate_left
 ·replace c4 := bf_ c4
  subst c4
  rw [if_neg ff_] at H
  obtain rfl := Option.some.inj H
  have hcz5 := bc2_ BK267.out
  go_wp2_with (first | ((with_reducible refine gate_callee (f := 76) rfl ?_); refine gl_ (some 5) Try.func76 #[.slice A0_0 l0_0.length c0_0] ?_; (with_reducible refine (spec_AreVersions.calls k _ _ l0_0 false _ ?side1 ?side2 A3.out).mono ?_); (case side1 => exact cb_ HR0_0 HB); (case side2 => exact HC0_0.out); rintro e w' ⟨rfl, ⟨nd, rfl⟩⟩; refine ⟨_, rfl, ?_⟩))
  go_ret
  exact ⟨er_, pb1_ HB.out GE267.out⟩
 subst c4
 rw [if_pos rfl] at H
 replace H := Option.bind_eq_some_iff.mp H
 obtain ⟨t269, A60, H⟩ := H
 replace H : (some t269) = some r := H
 have A6 := Q_ A60
 clear A60
 obtain rfl := Option.some.inj H
 have hcz7 := bc2_ BK267.out
 go_wp2_with (first | ((with_reducible refine gate_callee (f := 76) rfl ?_); refine gl_ (some 5) Try.func76 #[.slice A0_0 l0_0.length c0_0] ?_; (with_reducible refine (spec_AreVersions.calls k _ _ l0_0 true _ ?side1 ?side2 A3.out).mono ?_); (case side1 => exact cb_ HR0_0 HB); (case side2 => exact HC0_0.out); rintro e w' ⟨rfl, ⟨nd, rfl⟩⟩; refine ⟨_, rfl, ?_⟩) | (go_at_call 77; (with_reducible refine (spec_AreExts.calls k _ _ l0_1 t269 _ ?side1 ?side2 A6.out).mono ?_); (case side1 => exact pc_ (Kd.C_below HR0_1.out (pb1_ HB.out GE267.out))); (case side2 => exact HC0_1.out); rintro e w' ⟨rfl, ⟨nd, rfl⟩⟩))
 go_ret
 exact ⟨er_, pb1_ HB.out GE267.out⟩

end Go.Proofs.Ytlcpaebidnaolaa.Print
