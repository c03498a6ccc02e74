-- Written by a program of this session (printx.py) out of the translation; Lean checks it.
import Derived.Test.YtlcpaebidnaolaaPrint0
import Derived.Test.YtlcpaebidnaolaaPrint2
import Derived.Test.YtlcpaebidnaolaaPrint3
import Derived.Test.YtlcpaebidnaolaaPrint10
namespace Go.Proofs.Ytlcpaebidnaolaa.Print
open Go.RowKit Go.Proofs.YtlcpaebidnaolaaW.PrintWords Go.Proofs.YtlcpaebidnaolaaW.PrintLast Go.Proofs.YtlcpaebidnaolaaW.PrintMore Go.Proofs.Ytlcpaebidnaolaa.Short
attribute [local go_sem] max2_int min2_int max_two min_two max_three min_three max_four min_four   -- for this text's walks alone
set_option linter.unusedVariables false
set_option maxHeartbeats 8000000
set_option maxRecDepth 100000
set_option linter.unusedSimpArgs false

/-! ### spec_ChooseAnswer: function 64 -/
def spec_ChooseAnswer.j0 : Nat → List Int → Int → Bool → List Int → List (S113) → Option (Int × (List (S113)) × Bool)
 | 0, _, _, _, _, _ => none
 | k + 1, x1, x8, x19, x466000, x466001 => if x19 = true then (some (0, ([] : List (S113)), false)) else ((spec_KnownOf.f k x466001 x1).bind fun t469 => ((spec_StripGrease.f k t469).bind fun t472 => (some (x8, t472, true))))
def spec_ChooseAnswer.f (k : Nat) (l0 : List Int) (l1 : List Int) (l2_0 : List Int) (l2_1 : List (S113)) : Option (Int × (List (S113)) × Bool) := (spec_BestCommon.f k l0 l2_0).bind fun t467 => ((spec_IsHello.f k l2_0 l2_1).bind fun t468 => (if t468 = true then (spec_ChooseAnswer.j0 k l1 t467 (t467 == 0) l2_0 l2_1) else (spec_ChooseAnswer.j0 k l1 t467 true l2_0 l2_1)))
theorem spec_ChooseAnswer.mono_l : ∀ k, (∀ y0 y1 y2 y3 y4, LeO (spec_ChooseAnswer.j0 k y0 y1 y2 y3 y4) (spec_ChooseAnswer.j0 (k + 1) y0 y1 y2 y3 y4))
 | 0 => fun _ _ _ _ _ r h => by simp [spec_ChooseAnswer.j0] at h
 | k + 1 => by
  have ih0 := spec_ChooseAnswer.mono_l k
  ·intro y0 y1 y2 y3 y4
   unfold spec_ChooseAnswer.j0
   exact mo5_ ih0 spec_BestCommon.mono spec_IsHello.mono spec_KnownOf.mono spec_StripGrease.mono
theorem spec_ChooseAnswer.mono : ∀ a0 a1 a2 a3 k, LeO (spec_ChooseAnswer.f k a0 a1 a2 a3) (spec_ChooseAnswer.f (k + 1) a0 a1 a2 a3) := by
 intro a0 a1 a2 a3 k
 have ih0 := spec_ChooseAnswer.mono_l k
 unfold spec_ChooseAnswer.f
 exact mo5_ ih0 spec_BestCommon.mono spec_IsHello.mono spec_KnownOf.mono spec_StripGrease.mono
theorem spec_ChooseAnswer.calls (k : Nat) (A0 : Option Addr) (c0 : Nat) (l0 : List Int) (A1 : Option Addr) (c1 : Nat) (l1 : List Int) (A2_0 : Option Addr) (c2_0 : Nat) (l2_0 : List Int) (A2_1 : Option Addr) (c2_1 : Nat) (l2_1 : List (S113)) (r1 : Int) (r2 : List (S113)) (r3 : Bool) (w : World) (hr0 : Kd.C (Kd.int .i64) w A0 l0.length l0) (hc0 : l0.length ≤ c0) (hr1 : Kd.C (Kd.int .i64) w A1 l1.length l1) (hc1 : l1.length ≤ c1) (hr2_0 : Kd.C (Kd.int .i64) w A2_0 l2_0.length l2_0) (hc2_0 : l2_0.length ≤ c2_0) (hr2_1 : Kd.C k113 w A2_1 l2_1.length l2_1) (hc2_1 : l2_1.length ≤ c2_1) (h : spec_ChooseAnswer.f k l0 l1 l2_0 l2_1 = some (r1, r2, r3)) :
  Calls Try.prog 64 #[.slice A0 l0.length c0, .slice A1 l1.length c1, .agg #[.slice A2_0 l2_0.length c2_0, .slice A2_1 l2_1.length c2_1]] w fun e w' => ∃ v1_ : Value, e = .returned (.tuple #[.agg #[.int .i64 r1, v1_], .bool r3]) ∧ Kd.S k113 113 w' w.heap.size (fun _ => True) v1_ r2 ∧ Below w.heap.size w w' := by
 have hu71 := Try.underlying71
 have hu101 := Try.underlying101
 have HR0 := Q_ hr0
 have HC0 := Q_ hc0
 clear hr0 hc0
 have HR1 := Q_ hr1
 have HC1 := Q_ hc1
 clear hr1 hc1
 have HR2_0 := Q_ hr2_0
 have HC2_0 := Q_ hc2_0
 clear hr2_0 hc2_0
 have HR2_1 := Q_ hr2_1
 have HC2_1 := Q_ hc2_1
 clear hr2_1 hc2_1
 have HB := Q_ (Below.refl w.heap.size w)
 have H : ((spec_BestCommon.f k l0 l2_0).bind fun t467 => ((spec_IsHello.f k l2_0 l2_1).bind fun t468 => (if t468 = true then (spec_ChooseAnswer.j0 k l1 t467 (t467 == 0) l2_0 l2_1) else (spec_ChooseAnswer.j0 k l1 t467 true l2_0 l2_1)))) = some (r1, r2, r3) := h
 clear h
 replace H := Option.bind_eq_some_iff.mp H
 obtain ⟨t467, A40, H⟩ := H
 (try dsimp only at H)
 have A4 := Q_ A40
 clear A40
 have HC5 := Q_ H
 clear H
 go_enter Try.func64, Try.ntmps64
 go_upto_region 2 with (first | ((with_reducible refine gate_dst (N := 5) rfl ?_); refine box_event ?hg (N := 5) ?hd (cs := #[.slice A2_0 l2_0.length c2_0, .slice A2_1 l2_1.length c2_1]) (t := 71) ?hr ?_; (case hd => rfl); (case hg => rfl); (case hr => first | (go_simp; done) | (go_simp; rfl)); intro gb465 hg w6 hbox hb; have _ := Q_ (below_step (pb_ HB.out) hb); have BK465 := Q_ (hbox); have GW465 := Q_ ((by rw [hg]; exact (below_size (pb_ HB.out)) : w.heap.size ≤ gb465)); have GE465 := GW465; clear HB; rename_i HB; clear hb hbox hg) | ((with_reducible refine gate_dst (N := 6) rfl ?_); refine box_event ?hg (N := 6) ?hd (cs := #[.int .i64 0, .slice none 0 0]) (t := 101) ?hr ?_; (case hd => rfl); (case hg => rfl); (case hr => first | (go_simp; done) | (go_simp; rfl)); intro gb466 hg w7 hbox hb; have _ := Q_ (bb_ BK465.out hb); have _ := Q_ (below_step (pb1_ HB.out GE465.out) hb); have BK466 := Q_ (hbox); have GW466 := Q_ ((by rw [hg]; exact (below_size (pb1_ HB.out GE465.out)) : w.heap.size ≤ gb466)); have GE466 := GW466; have NB465_466 := Q_ ((by rw [hg]; exact Nat.ne_of_lt (blk_lt (pk_ BK465.out)) : gb465 ≠ gb466)); have NB466_465 := Q_ NB465_466.out.symm; clear BK465 HB; rename_i BK465 HB; clear hb hbox hg; have hnb8 := NB465_466.out; have hnc8 := NB466_465.out; have hcz9 := bc2_ BK465.out) | ((with_reducible refine gate_callee (f := 83) rfl ?_); refine gl_ (some 12) Try.func83 #[.slice A0 l0.length c0, .slice A2_0 l2_0.length c2_0] ?_; (with_reducible refine (spec_BestCommon.calls k _ _ l0 _ _ l2_0 t467 _ ?side1 ?side2 ?side3 ?side4 A4.out).mono ?_); (case side1 => exact cb_ HR0 HB); (case side2 => exact HC0.out); (case side3 => exact cb_ HR2_0 HB); (case side4 => exact HC2_0.out); rintro e w10 ⟨rfl, hb⟩; refine ⟨_, rfl, ?_⟩; have _ := Q_ (bb_ BK465.out hb); have _ := Q_ (bb_ BK466.out hb); have _ := Q_ (below_step (pb2_ HB.out GE465.out GE466.out) hb); clear BK465 BK466 HB; rename_i BK465 BK466 HB; (try clear hb); (try clear hb2); (try clear hk); (try clear hi)))
 (try simp only [Act.put, List.setIfInBounds_toArray, List.set_cons_zero, List.set_cons_succ])
 go_cut [19] (fun v19 wc => ∃ (kq : Nat) (x19_4 : Bool), v19 = .bool x19_4 ∧ Aside0 (spec_ChooseAnswer.j0 kq l1 t467 x19_4 l2_0 l2_1 = some (r1, r2, r3)) ∧ Aside0 (kq ≤ k) ∧ Aside0 (wc.heap[gb465]? = some (.cells #[(.slice A2_0 l2_0.length c2_0), (.slice A2_1 l2_1.length c2_1)] 71 (0, 0))) ∧ Aside0 (wc.heap[gb466]? = some (.cells #[.int .i64 0, (.slice none 0 0)] 101 (0, 0))) ∧ Aside0 (Below w.heap.size w wc))
 case first =>
  have H := HC5.out
  clear HC5
  replace H := Option.bind_eq_some_iff.mp H
  obtain ⟨t468, A110, H⟩ := H
  (try dsimp only at H)
  have A11 := Q_ A110
  clear A110
  by_cases c12 : t468 = true
  rotate_left
  ·replace c12 := bf_ c12
   subst c12
   rw [if_neg ff_] at H
   have H' := Q_ H
   clear H
   have hnb13 := NB465_466.out
   have hnc13 := NB466_465.out
   have hcz14 := bc2_ BK465.out
   go_wp2_with (first | ((with_reducible refine gate_callee (f := 59) rfl ?_); refine gl_ (some 14) Try.func59 #[.agg #[.slice A2_0 l2_0.length c2_0, .slice A2_1 l2_1.length c2_1]] ?_; (with_reducible refine (spec_IsHello.calls k _ _ l2_0 _ _ l2_1 false _ ?side1 ?side2 ?side3 ?side4 A11.out).mono ?_); (case side1 => exact cb_ HR2_0 HB); (case side2 => exact HC2_0.out); (case side3 => exact cb_ HR2_1 HB); (case side4 => exact HC2_1.out); rintro e w15 ⟨rfl, hb⟩; refine ⟨_, rfl, ?_⟩; have _ := Q_ (bb_ BK465.out hb); have _ := Q_ (bb_ BK466.out hb); have _ := Q_ (below_step (pb2_ HB.out GE465.out GE466.out) hb); clear BK465 BK466 HB; rename_i BK465 BK466 HB; (try clear hb); (try clear hb2); (try clear hk); (try clear hi)))
   go_meet
   case rel => exact ⟨_, (true), el_, H', ⟨by first | omega | exact Nat.le_refl _⟩, ⟨pk_ BK465.out⟩, ⟨pk_ BK466.out⟩, ⟨pb2_ HB.out GE465.out GE466.out⟩⟩
  subst c12
  rw [if_pos rfl] at H
  have H' := Q_ H
  clear H
  have hnb16 := NB465_466.out
  have hnc16 := NB466_465.out
  have hcz17 := bc2_ BK465.out
  go_wp2_with (first | ((with_reducible refine gate_callee (f := 59) rfl ?_); refine gl_ (some 14) Try.func59 #[.agg #[.slice A2_0 l2_0.length c2_0, .slice A2_1 l2_1.length c2_1]] ?_; (with_reducible refine (spec_IsHello.calls k _ _ l2_0 _ _ l2_1 true _ ?side1 ?side2 ?side3 ?side4 A11.out).mono ?_); (case side1 => exact cb_ HR2_0 HB); (case side2 => exact HC2_0.out); (case side3 => exact cb_ HR2_1 HB); (case side4 => exact HC2_1.out); rintro e w18 ⟨rfl, hb⟩; refine ⟨_, rfl, ?_⟩; have _ := Q_ (bb_ BK465.out hb); have _ := Q_ (bb_ BK466.out hb); have _ := Q_ (below_step (pb2_ HB.out GE465.out GE466.out) hb); clear BK465 BK466 HB; rename_i BK465 BK466 HB; (try clear hb); (try clear hb2); (try clear hk); (try clear hi)))
  go_meet
  case rel => exact ⟨_, ((t467 == 0)), el_, H', ⟨by first | omega | exact Nat.le_refl _⟩, ⟨pk_ BK465.out⟩, ⟨pk_ BK466.out⟩, ⟨pb2_ HB.out GE465.out GE466.out⟩⟩
 clear HC5
 try clear c1
 try clear c2
 try clear p2
 try clear c5
 try clear c6
 try clear c8
 try clear c12
 try clear c13
 try clear c16
 try clear hcz14
 try clear hcz17
 try clear hcz9
 obtain ⟨kq, x19_4, rfl, HA, HJ4, BK465, BK466, HB⟩ := hcut
 rcases kq with _ | kj4
 ·exact absurd HA.out (by simp [spec_ChooseAnswer.j0])
 have H := HA.out
 clear HA
 simp only [spec_ChooseAnswer.j0] at H
 by_cases c19 : x19_4 = true
 ·subst c19
  rw [if_pos rfl] at H
  simp only [Option.some.injEq, Prod.mk.injEq] at H
  obtain ⟨rfl, rfl, rfl⟩ := H
  have hnb20 := NB466_465.out
  have hnc20 := NB465_466.out
  have hcz21 := bc2_ BK466.out
  go_wp2
  refine bodyPost_ret (results_ct rfl _ _ gb466 101 #[.int .i64 0, .slice none 0 0] (0, 0) _ rfl (pp_ BK466.out) Try.underlying101 rfl (by kernel_rfl)) rfl ?_
  exact ⟨_, er_, by first | exact Kd.S_nil _ _ _ _ _ | exact Kd.N_nil _ _ _ _ _ | exact Kd.V_nil _ _ _ _ _ | exact Kd.Q_nil _ _ _ _ _ | exact Kd.R_nil _ _ _ _ _, pb2_ HB.out GE465.out GE466.out⟩
 replace c19 := bf_ c19
 subst c19
 rw [if_neg ff_] at H
 replace H := Option.bind_eq_some_iff.mp H
 obtain ⟨t469, A220, H⟩ := H
 (try dsimp only at H)
 have A22 := Q_ A220
 clear A220
 replace H := Option.bind_eq_some_iff.mp H
 obtain ⟨t472, A230, H⟩ := H
 replace H : (some (t467, t472, true)) = some (r1, r2, r3) := H
 have A23 := Q_ A230
 clear A230
 simp only [Option.some.injEq, Prod.mk.injEq] at H
 obtain ⟨rfl, rfl, rfl⟩ := H
 have hnb24 := NB465_466.out
 have hnc24 := NB466_465.out
 have hcz25 := bc2_ BK465.out
 go_wp2_with (first | ((with_reducible refine gate_callee (f := 85) rfl ?_); refine gl_ (some 25) Try.func85 #[.slice A2_1 l2_1.length c2_1, .slice A1 l1.length c1] ?_; (with_reducible refine (spec_KnownOf.calls kj4 _ _ l2_1 _ _ l1 t469 _ ?side1 ?side2 ?side3 ?side4 A22.out).mono ?_); (case side1 => exact cb_ HR2_1 HB); (case side2 => exact HC2_1.out); (case side3 => exact cb_ HR1 HB); (case side4 => exact HC1.out); rintro e w26 ⟨v470, rfl, ho0, hb⟩; refine ⟨_, rfl, ?_⟩; have _ := Q_ (Kd.S_lower ho0 (below_size (pb2_ HB.out GE465.out GE466.out))); have _ := Q_ (bb_ BK465.out hb); have _ := Q_ (bb_ BK466.out hb); have _ := Q_ (below_step (pb2_ HB.out GE465.out GE466.out) hb); clear BK465 BK466 HB; rename_i HO471 BK465 BK466 HB; (try clear hb); (try clear hb2); (try clear hk); (try clear hi); (try clear ho0); obtain ⟨Ao27, co27, eo27⟩ := Kd.S_slice HO471.out; subst eo27) | ((with_reducible refine gate_callee (f := 84) rfl ?_); refine gl_ (some 26) Try.func84 #[.slice Ao27 t469.length co27] ?_; (with_reducible refine (spec_StripGrease.calls kj4 _ _ t469 t472 _ ?side1 ?side2 A23.out).mono ?_); (case side1 => exact pc_ ((Kd.S_reads' HO471.out).2.2)); (case side2 => exact (Kd.S_reads' HO471.out).2.1); rintro e w28 ⟨v473, rfl, ho0, hb⟩; refine ⟨_, rfl, ?_⟩; have _ := Q_ (Kd.S_elder' (ps_ HO471.out) (Kd.S_base ho0) hb); have _ := Q_ (Kd.S_lower (Kd.S_new' ho0 (Kd.S_lt (ps_ HO471.out))) (below_size (pb2_ HB.out GE465.out GE466.out))); have _ := Q_ (bb_ BK465.out hb); have _ := Q_ (bb_ BK466.out hb); have _ := Q_ (below_step (pb2_ HB.out GE465.out GE466.out) hb); clear HO471 BK465 BK466 HB; rename_i HO471 HO474 BK465 BK466 HB; (try clear hb); (try clear hb2); (try clear hk); (try clear hi); (try clear ho0); obtain ⟨Ao29, co29, eo29⟩ := Kd.S_slice HO474.out; subst eo29; have hcz30 := bc2_ BK466.out))
 refine bodyPost_ret (results_ct rfl _ _ gb466 101 #[.int .i64 t467, .slice Ao29 t472.length co29] (0, 0) _ rfl (pp_ BK466.out) Try.underlying101 rfl (by kernel_rfl)) rfl ?_
 exact ⟨_, er_, ps_ (Kd.S_mono (sf2_ HO474.out BK466.out) (fun _ hk => trivial)), pb2_ HB.out GE465.out GE466.out⟩

/-! ### spec_IsAnswer: function 87 -/
def spec_IsAnswer.f (k : Nat) (a0_0 : Int) (l0_1 : List (S113)) : Option (Bool) := (spec_l1In.f a0_0 1 9).bind fun t476 => (if t476 = true then ((spec_AreExts.f k l0_1).bind fun t477 => (some t477)) else (some false))
theorem spec_IsAnswer.mono : ∀ a0 a1 k, LeO (spec_IsAnswer.f k a0 a1) (spec_IsAnswer.f (k + 1) a0 a1) := by
 intro a0 a1 k
 unfold spec_IsAnswer.f
 exact mo1_ spec_AreExts.mono
theorem spec_IsAnswer.calls (k : Nat) (a0_0 : Int) (A0_1 : Option Addr) (c0_1 : Nat) (l0_1 : List (S113)) (r : Bool) (w : World) (hr0_1 : Kd.C k113 w A0_1 l0_1.length l0_1) (hc0_1 : l0_1.length ≤ c0_1) (h : spec_IsAnswer.f k a0_0 l0_1 = some r) :
  Calls Try.prog 87 #[.agg #[.int .i64 a0_0, .slice A0_1 l0_1.length c0_1]] w fun e w' => e = .returned (.bool r) ∧ Below w.heap.size w w' := by
 have hu101 := Try.underlying101
 have HR0_1 := Q_ hr0_1
 have HC0_1 := Q_ hc0_1
 clear hr0_1 hc0_1
 have HB := Q_ (Below.refl w.heap.size w)
 have H : ((spec_l1In.f a0_0 1 9).bind fun t476 => (if t476 = true then ((spec_AreExts.f k l0_1).bind fun t477 => (some t477)) else (some false))) = some r := h
 clear h
 have HS_ := Q_ H
 clear H
 go_enter Try.func87, Try.ntmps87
 go_upto_region 1 with (first | ((with_reducible refine gate_dst (N := 1) rfl ?_); refine box_event ?hg (N := 1) ?hd (cs := #[.int .i64 a0_0, .slice A0_1 l0_1.length c0_1]) (t := 101) ?hr ?_; (case hd => rfl); (case hg => rfl); (case hr => first | (go_simp; done) | (go_simp; rfl)); intro gb475 hg w2 hbox hb; have _ := Q_ (below_step (pb_ HB.out) hb); have BK475 := Q_ (hbox); have GW475 := Q_ ((by rw [hg]; exact (below_size (pb_ HB.out)) : w.heap.size ≤ gb475)); have GE475 := GW475; clear HB; rename_i HB; clear hb hbox hg))
 (try simp only [Act.put, List.setIfInBounds_toArray, List.set_cons_zero, List.set_cons_succ])
 have H := HS_.out
 clear HS_
 replace H := Option.bind_eq_some_iff.mp H
 obtain ⟨t476, A30, H⟩ := H
 (try dsimp only at H)
 have A3 := Q_ A30
 clear A30
 by_cases c4 : t476 = true
 rotate_left
 ·replace c4 := bf_ c4
  subst c4
  rw [if_neg ff_] at H
  obtain rfl := Option.some.inj H
  have hcz5 := bc2_ BK475.out
  go_wp2_with (first | ((with_reducible refine gate_callee (f := 72) rfl ?_); refine gl_ (some 5) Try.func72 #[.int .i64 a0_0, .int .i64 1, .int .i64 9] ?_; (with_reducible refine (spec_l1In.calls a0_0 1 9 false _ A3.out).mono ?_); rintro e w' ⟨rfl, ⟨nd, rfl⟩⟩; refine ⟨_, rfl, ?_⟩))
  go_ret
  exact ⟨er_, pb1_ HB.out GE475.out⟩
 subst c4
 rw [if_pos rfl] at H
 replace H := Option.bind_eq_some_iff.mp H
 obtain ⟨t477, A60, H⟩ := H
 replace H : (some t477) = some r := H
 have A6 := Q_ A60
 clear A60
 obtain rfl := Option.some.inj H
 have hcz7 := bc2_ BK475.out
 go_wp2_with (first | ((with_reducible refine gate_callee (f := 72) rfl ?_); refine gl_ (some 5) Try.func72 #[.int .i64 a0_0, .int .i64 1, .int .i64 9] ?_; (with_reducible refine (spec_l1In.calls a0_0 1 9 true _ A3.out).mono ?_); rintro e w' ⟨rfl, ⟨nd, rfl⟩⟩; refine ⟨_, rfl, ?_⟩) | (go_at_call 77; (with_reducible refine (spec_AreExts.calls k _ _ l0_1 t477 _ ?side1 ?side2 A6.out).mono ?_); (case side1 => exact pc_ (Kd.C_below HR0_1.out (pb1_ HB.out GE475.out))); (case side2 => exact HC0_1.out); rintro e w' ⟨rfl, ⟨nd, rfl⟩⟩))
 go_ret
 exact ⟨er_, pb1_ HB.out GE475.out⟩

/-! ### spec_FitsHello: function 65 -/
def spec_FitsHello.l0 : Nat → Int → List Int → List (S113) → Int → List (S113) → Option (Bool)
 | 0, _, _, _, _, _ => none
 | k + 1, x5, x479000, x479001, x480000, x480001 => if x5 < (x480001.length : Int) then (if 0 ≤ x5 then ((spec_ExtOf.f k x479001 ((rd_T113 x480001 x5).f0)).bind fun t484 => (if t484 < 0 then (some false) else ((spec_IsReserved.f ((rd_T113 x480001 x5).f0)).bind fun t486 => (if t486 = true then (some false) else (spec_FitsHello.l0 k (wrap64 (x5 + 1)) x479000 x479001 x480000 x480001))))) else (none)) else ((spec_IsHello.f k x479000 x479001).bind fun t480 => (if t480 = true then ((spec_IsAnswer.f k x480000 x480001).bind fun t481 => (if t481 = true then ((spec_l9Has.f k x479000 x480000).bind fun t482 => (some t482)) else (some false))) else (some false)))
def spec_FitsHello.f (k : Nat) (l0_0 : List Int) (l0_1 : List (S113)) (a1_0 : Int) (l1_1 : List (S113)) : Option (Bool) := spec_FitsHello.l0 k 0 l0_0 l0_1 a1_0 l1_1
theorem spec_FitsHello.mono_l : ∀ k, (∀ y0 y1 y2 y3 y4, LeO (spec_FitsHello.l0 k y0 y1 y2 y3 y4) (spec_FitsHello.l0 (k + 1) y0 y1 y2 y3 y4))
 | 0 => fun _ _ _ _ _ r h => by simp [spec_FitsHello.l0] at h
 | k + 1 => by
  have ih0 := spec_FitsHello.mono_l k
  ·intro y0 y1 y2 y3 y4
   unfold spec_FitsHello.l0
   exact mo5_ ih0 spec_ExtOf.mono spec_IsAnswer.mono spec_IsHello.mono spec_l9Has.mono
theorem spec_FitsHello.mono : ∀ a0 a1 a2 a3 k, LeO (spec_FitsHello.f k a0 a1 a2 a3) (spec_FitsHello.f (k + 1) a0 a1 a2 a3) := by
 intro a0 a1 a2 a3 k
 have ih0 := spec_FitsHello.mono_l k
 unfold spec_FitsHello.f
 exact mo5_ ih0 spec_ExtOf.mono spec_IsAnswer.mono spec_IsHello.mono spec_l9Has.mono
theorem spec_FitsHello.calls (k : Nat) (A0_0 : Option Addr) (c0_0 : Nat) (l0_0 : List Int) (A0_1 : Option Addr) (c0_1 : Nat) (l0_1 : List (S113)) (a1_0 : Int) (A1_1 : Option Addr) (c1_1 : Nat) (l1_1 : List (S113)) (r : Bool) (w : World) (hr0_0 : Kd.C (Kd.int .i64) w A0_0 l0_0.length l0_0) (hc0_0 : l0_0.length ≤ c0_0) (hr0_1 : Kd.C k113 w A0_1 l0_1.length l0_1) (hc0_1 : l0_1.length ≤ c0_1) (hr1_1 : Kd.C k113 w A1_1 l1_1.length l1_1) (hc1_1 : l1_1.length ≤ c1_1) (h : spec_FitsHello.f k l0_0 l0_1 a1_0 l1_1 = some r) :
  Calls Try.prog 65 #[.agg #[.slice A0_0 l0_0.length c0_0, .slice A0_1 l0_1.length c0_1], .agg #[.int .i64 a1_0, .slice A1_1 l1_1.length c1_1]] w fun e w' => e = .returned (.bool r) ∧ Below w.heap.size w w' := by
 have hu71 := Try.underlying71
 have hu101 := Try.underlying101
 have HR0_0 := Q_ hr0_0
 have HC0_0 := Q_ hc0_0
 clear hr0_0 hc0_0
 have HR0_1 := Q_ hr0_1
 have HC0_1 := Q_ hc0_1
 clear hr0_1 hc0_1
 have HR1_1 := Q_ hr1_1
 have HC1_1 := Q_ hc1_1
 clear hr1_1 hc1_1
 have HB := Q_ (Below.refl w.heap.size w)
 have H : (spec_FitsHello.l0 k 0 l0_0 l0_1 a1_0 l1_1) = some r := h
 clear h
 have H' := Q_ H
 clear H
 go_enter Try.func65, Try.ntmps65
 go_wp2_with (first | ((with_reducible refine gate_dst (N := 2) rfl ?_); refine box_event ?hg (N := 2) ?hd (cs := #[.slice A0_0 l0_0.length c0_0, .slice A0_1 l0_1.length c0_1]) (t := 71) ?hr ?_; (case hd => rfl); (case hg => rfl); (case hr => first | (go_simp; done) | (go_simp; rfl)); intro gb478 hg w3 hbox hb; have _ := Q_ (below_step (pb_ HB.out) hb); have BK478 := Q_ (hbox); have GW478 := Q_ ((by rw [hg]; exact (below_size (pb_ HB.out)) : w.heap.size ≤ gb478)); have GE478 := GW478; clear HB; rename_i HB; clear hb hbox hg) | ((with_reducible refine gate_dst (N := 3) rfl ?_); refine box_event ?hg (N := 3) ?hd (cs := #[.int .i64 a1_0, .slice A1_1 l1_1.length c1_1]) (t := 101) ?hr ?_; (case hd => rfl); (case hg => rfl); (case hr => first | (go_simp; done) | (go_simp; rfl)); intro gb479 hg w4 hbox hb; have _ := Q_ (bb_ BK478.out hb); have _ := Q_ (below_step (pb1_ HB.out GE478.out) hb); have BK479 := Q_ (hbox); have GW479 := Q_ ((by rw [hg]; exact (below_size (pb1_ HB.out GE478.out)) : w.heap.size ≤ gb479)); have GE479 := GW479; have NB478_479 := Q_ ((by rw [hg]; exact Nat.ne_of_lt (blk_lt (pk_ BK478.out)) : gb478 ≠ gb479)); have NB479_478 := Q_ NB478_479.out.symm; clear BK478 HB; rename_i BK478 HB; clear hb hbox hg))
 repeat (go_quiet (first | ((with_reducible refine gate_dst (N := 2) rfl ?_); refine box_event ?hg (N := 2) ?hd (cs := #[.slice A0_0 l0_0.length c0_0, .slice A0_1 l0_1.length c0_1]) (t := 71) ?hr ?_; (case hd => rfl); (case hg => rfl); (case hr => first | (go_simp; done) | (go_simp; rfl)); intro gb478 hg w3 hbox hb; have _ := Q_ (below_step (pb_ HB.out) hb); have BK478 := Q_ (hbox); have GW478 := Q_ ((by rw [hg]; exact (below_size (pb_ HB.out)) : w.heap.size ≤ gb478)); have GE478 := GW478; clear HB; rename_i HB; clear hb hbox hg) | ((with_reducible refine gate_dst (N := 3) rfl ?_); refine box_event ?hg (N := 3) ?hd (cs := #[.int .i64 a1_0, .slice A1_1 l1_1.length c1_1]) (t := 101) ?hr ?_; (case hd => rfl); (case hg => rfl); (case hr => first | (go_simp; done) | (go_simp; rfl)); intro gb479 hg w4 hbox hb; have _ := Q_ (bb_ BK478.out hb); have _ := Q_ (below_step (pb1_ HB.out GE478.out) hb); have BK479 := Q_ (hbox); have GW479 := Q_ ((by rw [hg]; exact (below_size (pb1_ HB.out GE478.out)) : w.heap.size ≤ gb479)); have GE479 := GW479; have NB478_479 := Q_ ((by rw [hg]; exact Nat.ne_of_lt (blk_lt (pk_ BK478.out)) : gb478 ≠ gb479)); have NB479_478 := Q_ NB478_479.out.symm; clear BK478 HB; rename_i BK478 HB; clear hb hbox hg)); try go_wp2_with (first | ((with_reducible refine gate_dst (N := 2) rfl ?_); refine box_event ?hg (N := 2) ?hd (cs := #[.slice A0_0 l0_0.length c0_0, .slice A0_1 l0_1.length c0_1]) (t := 71) ?hr ?_; (case hd => rfl); (case hg => rfl); (case hr => first | (go_simp; done) | (go_simp; rfl)); intro gb478 hg w3 hbox hb; have _ := Q_ (below_step (pb_ HB.out) hb); have BK478 := Q_ (hbox); have GW478 := Q_ ((by rw [hg]; exact (below_size (pb_ HB.out)) : w.heap.size ≤ gb478)); have GE478 := GW478; clear HB; rename_i HB; clear hb hbox hg) | ((with_reducible refine gate_dst (N := 3) rfl ?_); refine box_event ?hg (N := 3) ?hd (cs := #[.int .i64 a1_0, .slice A1_1 l1_1.length c1_1]) (t := 101) ?hr ?_; (case hd => rfl); (case hg => rfl); (case hr => first | (go_simp; done) | (go_simp; rfl)); intro gb479 hg w4 hbox hb; have _ := Q_ (bb_ BK478.out hb); have _ := Q_ (below_step (pb1_ HB.out GE478.out) hb); have BK479 := Q_ (hbox); have GW479 := Q_ ((by rw [hg]; exact (below_size (pb1_ HB.out GE478.out)) : w.heap.size ≤ gb479)); have GE479 := GW479; have NB478_479 := Q_ ((by rw [hg]; exact Nat.ne_of_lt (blk_lt (pk_ BK478.out)) : gb478 ≠ gb479)); have NB479_478 := Q_ NB478_479.out.symm; clear BK478 HB; rename_i BK478 HB; clear hb hbox hg)))
 (try simp only [Act.put, List.setIfInBounds_toArray, List.set_cons_zero, List.set_cons_succ])
 go_loopg [5] k (fun kq v5 w' => ∃ (x5_1 : Int), v5 = .int .i64 x5_1 ∧ Aside0 (spec_FitsHello.l0 kq x5_1 l0_0 l0_1 a1_0 l1_1 = some r) ∧ Aside0 (kq ≤ k) ∧ Aside0 (w'.heap[gb478]? = some (.cells #[(.slice A0_0 l0_0.length c0_0), (.slice A0_1 l0_1.length c0_1)] 71 (0, 0))) ∧ Aside0 (w'.heap[gb479]? = some (.cells #[.int .i64 a1_0, (.slice A1_1 l1_1.length c1_1)] 101 (0, 0))) ∧ Aside0 (Below w.heap.size w w'))
 case atStart => exact ⟨(0), el_, H', ⟨Nat.le_refl _⟩, ⟨pk_ BK478.out⟩, ⟨pk_ BK479.out⟩, ⟨pb2_ HB.out GE478.out GE479.out⟩⟩
 clear H'
 try clear c1
 try clear p2
 obtain ⟨x5_1, rfl, HA, HK1, BK478, BK479, HB⟩ := hrel
 rcases gk with _ | k1
 ·exact absurd HA.out (by simp [spec_FitsHello.l0])
 have H := HA.out
 clear HA
 simp only [spec_FitsHello.l0] at H
 by_cases c5 : x5_1 < (l1_1.length : Int)
 rotate_left
 ·rw [if_neg c5] at H
  have c5b0 : decide (x5_1 < (l1_1.length : Int)) = false := decide_eq_false c5
  clear c5
  replace H := Option.bind_eq_some_iff.mp H
  obtain ⟨t480, A60, H⟩ := H
  (try dsimp only at H)
  have A6 := Q_ A60
  clear A60
  by_cases c7 : t480 = true
  rotate_left
  ·replace c7 := bf_ c7
   subst c7
   rw [if_neg ff_] at H
   obtain rfl := Option.some.inj H
   have hnb8 := NB479_478.out
   have hnc8 := NB478_479.out
   have hcz9 := bc2_ BK479.out
   have hcz10 := bc2_ BK478.out
   go_wp2_with (first | (go_at_call 59; (with_reducible refine (spec_IsHello.calls k1 _ _ l0_0 _ _ l0_1 false _ ?side1 ?side2 ?side3 ?side4 A6.out).mono ?_); (case side1 => exact cb_ HR0_0 HB); (case side2 => exact HC0_0.out); (case side3 => exact cb_ HR0_1 HB); (case side4 => exact HC0_1.out); rintro e w11 ⟨rfl, hb⟩; have _ := Q_ (bb_ BK478.out hb); have _ := Q_ (bb_ BK479.out hb); have _ := Q_ (below_step (pb2_ HB.out GE478.out GE479.out) hb); clear BK478 BK479 HB; rename_i BK478 BK479 HB; (try clear hb); (try clear hb2); (try clear hk); (try clear hi)))
   repeat (go_quiet (first | (go_at_call 59; (with_reducible refine (spec_IsHello.calls k1 _ _ l0_0 _ _ l0_1 false _ ?side1 ?side2 ?side3 ?side4 A6.out).mono ?_); (case side1 => exact cb_ HR0_0 HB); (case side2 => exact HC0_0.out); (case side3 => exact cb_ HR0_1 HB); (case side4 => exact HC0_1.out); rintro e w11 ⟨rfl, hb⟩; have _ := Q_ (bb_ BK478.out hb); have _ := Q_ (bb_ BK479.out hb); have _ := Q_ (below_step (pb2_ HB.out GE478.out GE479.out) hb); clear BK478 BK479 HB; rename_i BK478 BK479 HB; (try clear hb); (try clear hb2); (try clear hk); (try clear hi))); try go_wp2_with (first | (go_at_call 59; (with_reducible refine (spec_IsHello.calls k1 _ _ l0_0 _ _ l0_1 false _ ?side1 ?side2 ?side3 ?side4 A6.out).mono ?_); (case side1 => exact cb_ HR0_0 HB); (case side2 => exact HC0_0.out); (case side3 => exact cb_ HR0_1 HB); (case side4 => exact HC0_1.out); rintro e w11 ⟨rfl, hb⟩; have _ := Q_ (bb_ BK478.out hb); have _ := Q_ (bb_ BK479.out hb); have _ := Q_ (below_step (pb2_ HB.out GE478.out GE479.out) hb); clear BK478 BK479 HB; rename_i BK478 BK479 HB; (try clear hb); (try clear hb2); (try clear hk); (try clear hi))))
   go_ret
   exact ⟨er_, pb2_ HB.out GE478.out GE479.out⟩
  subst c7
  rw [if_pos rfl] at H
  replace H := Option.bind_eq_some_iff.mp H
  obtain ⟨t481, A120, H⟩ := H
  (try dsimp only at H)
  have A12 := Q_ A120
  clear A120
  by_cases c13 : t481 = true
  rotate_left
  ·replace c13 := bf_ c13
   subst c13
   rw [if_neg ff_] at H
   obtain rfl := Option.some.inj H
   have hnb14 := NB479_478.out
   have hnc14 := NB478_479.out
   have hcz15 := bc2_ BK479.out
   have hcz16 := bc2_ BK478.out
   go_wp2_with (first | (go_at_call 59; (with_reducible refine (spec_IsHello.calls k1 _ _ l0_0 _ _ l0_1 true _ ?side1 ?side2 ?side3 ?side4 A6.out).mono ?_); (case side1 => exact cb_ HR0_0 HB); (case side2 => exact HC0_0.out); (case side3 => exact cb_ HR0_1 HB); (case side4 => exact HC0_1.out); rintro e w17 ⟨rfl, hb⟩; have _ := Q_ (bb_ BK478.out hb); have _ := Q_ (bb_ BK479.out hb); have _ := Q_ (below_step (pb2_ HB.out GE478.out GE479.out) hb); clear BK478 BK479 HB; rename_i BK478 BK479 HB; (try clear hb); (try clear hb2); (try clear hk); (try clear hi); obtain ⟨hcz18_0, hcz18_1, hfz18_0, hfz18_1⟩ := bc2_ BK479.out) | (go_at_call 87; (with_reducible refine (spec_IsAnswer.calls k1 a1_0 _ _ l1_1 false _ ?side1 ?side2 A12.out).mono ?_); (case side1 => exact cb_ HR1_1 HB); (case side2 => exact HC1_1.out); rintro e w19 ⟨rfl, hb⟩; have _ := Q_ (bb_ BK478.out hb); have _ := Q_ (bb_ BK479.out hb); have _ := Q_ (below_step (pb2_ HB.out GE478.out GE479.out) hb); clear BK478 BK479 HB; rename_i BK478 BK479 HB; (try clear hb); (try clear hb2); (try clear hk); (try clear hi)))
   repeat (go_quiet (first | (go_at_call 59; (with_reducible refine (spec_IsHello.calls k1 _ _ l0_0 _ _ l0_1 true _ ?side1 ?side2 ?side3 ?side4 A6.out).mono ?_); (case side1 => exact cb_ HR0_0 HB); (case side2 => exact HC0_0.out); (case side3 => exact cb_ HR0_1 HB); (case side4 => exact HC0_1.out); rintro e w17 ⟨rfl, hb⟩; have _ := Q_ (bb_ BK478.out hb); have _ := Q_ (bb_ BK479.out hb); have _ := Q_ (below_step (pb2_ HB.out GE478.out GE479.out) hb); clear BK478 BK479 HB; rename_i BK478 BK479 HB; (try clear hb); (try clear hb2); (try clear hk); (try clear hi); obtain ⟨hcz18_0, hcz18_1, hfz18_0, hfz18_1⟩ := bc2_ BK479.out) | (go_at_call 87; (with_reducible refine (spec_IsAnswer.calls k1 a1_0 _ _ l1_1 false _ ?side1 ?side2 A12.out).mono ?_); (case side1 => exact cb_ HR1_1 HB); (case side2 => exact HC1_1.out); rintro e w19 ⟨rfl, hb⟩; have _ := Q_ (bb_ BK478.out hb); have _ := Q_ (bb_ BK479.out hb); have _ := Q_ (below_step (pb2_ HB.out GE478.out GE479.out) hb); clear BK478 BK479 HB; rename_i BK478 BK479 HB; (try clear hb); (try clear hb2); (try clear hk); (try clear hi))); try go_wp2_with (first | (go_at_call 59; (with_reducible refine (spec_IsHello.calls k1 _ _ l0_0 _ _ l0_1 true _ ?side1 ?side2 ?side3 ?side4 A6.out).mono ?_); (case side1 => exact cb_ HR0_0 HB); (case side2 => exact HC0_0.out); (case side3 => exact cb_ HR0_1 HB); (case side4 => exact HC0_1.out); rintro e w17 ⟨rfl, hb⟩; have _ := Q_ (bb_ BK478.out hb); have _ := Q_ (bb_ BK479.out hb); have _ := Q_ (below_step (pb2_ HB.out GE478.out GE479.out) hb); clear BK478 BK479 HB; rename_i BK478 BK479 HB; (try clear hb); (try clear hb2); (try clear hk); (try clear hi); obtain ⟨hcz18_0, hcz18_1, hfz18_0, hfz18_1⟩ := bc2_ BK479.out) | (go_at_call 87; (with_reducible refine (spec_IsAnswer.calls k1 a1_0 _ _ l1_1 false _ ?side1 ?side2 A12.out).mono ?_); (case side1 => exact cb_ HR1_1 HB); (case side2 => exact HC1_1.out); rintro e w19 ⟨rfl, hb⟩; have _ := Q_ (bb_ BK478.out hb); have _ := Q_ (bb_ BK479.out hb); have _ := Q_ (below_step (pb2_ HB.out GE478.out GE479.out) hb); clear BK478 BK479 HB; rename_i BK478 BK479 HB; (try clear hb); (try clear hb2); (try clear hk); (try clear hi))))
   go_ret
   exact ⟨er_, pb2_ HB.out GE478.out GE479.out⟩
  subst c13
  rw [if_pos rfl] at H
  replace H := Option.bind_eq_some_iff.mp H
  obtain ⟨t482, A200, H⟩ := H
  replace H : (some t482) = some r := H
  have A20 := Q_ A200
  clear A200
  obtain rfl := Option.some.inj H
  have hnb21 := NB479_478.out
  have hnc21 := NB478_479.out
  have hcz22 := bc2_ BK479.out
  have hcz23 := bc2_ BK478.out
  go_wp2_with (first | (go_at_call 59; (with_reducible refine (spec_IsHello.calls k1 _ _ l0_0 _ _ l0_1 true _ ?side1 ?side2 ?side3 ?side4 A6.out).mono ?_); (case side1 => exact cb_ HR0_0 HB); (case side2 => exact HC0_0.out); (case side3 => exact cb_ HR0_1 HB); (case side4 => exact HC0_1.out); rintro e w24 ⟨rfl, hb⟩; have _ := Q_ (bb_ BK478.out hb); have _ := Q_ (bb_ BK479.out hb); have _ := Q_ (below_step (pb2_ HB.out GE478.out GE479.out) hb); clear BK478 BK479 HB; rename_i BK478 BK479 HB; (try clear hb); (try clear hb2); (try clear hk); (try clear hi); obtain ⟨hcz25_0, hcz25_1, hfz25_0, hfz25_1⟩ := bc2_ BK479.out) | (go_at_call 87; (with_reducible refine (spec_IsAnswer.calls k1 a1_0 _ _ l1_1 true _ ?side1 ?side2 A12.out).mono ?_); (case side1 => exact cb_ HR1_1 HB); (case side2 => exact HC1_1.out); rintro e w26 ⟨rfl, hb⟩; have _ := Q_ (bb_ BK478.out hb); have _ := Q_ (bb_ BK479.out hb); have _ := Q_ (below_step (pb2_ HB.out GE478.out GE479.out) hb); clear BK478 BK479 HB; rename_i BK478 BK479 HB; (try clear hb); (try clear hb2); (try clear hk); (try clear hi); obtain ⟨hcz27_0, hcz27_1, hfz27_0, hfz27_1⟩ := bc2_ BK478.out; obtain ⟨hcz28_0, hcz28_1, hfz28_0, hfz28_1⟩ := bc2_ BK479.out) | (go_at_call 74; (with_reducible refine (spec_l9Has.calls k1 _ _ l0_0 a1_0 t482 _ ?side1 ?side2 A20.out).mono ?_); (case side1 => exact cb_ HR0_0 HB); (case side2 => exact HC0_0.out); rintro e w' ⟨rfl, ⟨nd, rfl⟩⟩; (try first | exact ⟨rfl, _, World.drewN_drewN _ _ _⟩ | exact ⟨rfl, _, Eq.trans (World.drewN_drewN _ _ _) (congrArg (World.drewN _) (Nat.add_assoc _ _ _))⟩)))
  repeat (go_quiet (first | (go_at_call 59; (with_reducible refine (spec_IsHello.calls k1 _ _ l0_0 _ _ l0_1 true _ ?side1 ?side2 ?side3 ?side4 A6.out).mono ?_); (case side1 => exact cb_ HR0_0 HB); (case side2 => exact HC0_0.out); (case side3 => exact cb_ HR0_1 HB); (case side4 => exact HC0_1.out); rintro e w24 ⟨rfl, hb⟩; have _ := Q_ (bb_ BK478.out hb); have _ := Q_ (bb_ BK479.out hb); have _ := Q_ (below_step (pb2_ HB.out GE478.out GE479.out) hb); clear BK478 BK479 HB; rename_i BK478 BK479 HB; (try clear hb); (try clear hb2); (try clear hk); (try clear hi); obtain ⟨hcz25_0, hcz25_1, hfz25_0, hfz25_1⟩ := bc2_ BK479.out) | (go_at_call 87; (with_reducible refine (spec_IsAnswer.calls k1 a1_0 _ _ l1_1 true _ ?side1 ?side2 A12.out).mono ?_); (case side1 => exact cb_ HR1_1 HB); (case side2 => exact HC1_1.out); rintro e w26 ⟨rfl, hb⟩; have _ := Q_ (bb_ BK478.out hb); have _ := Q_ (bb_ BK479.out hb); have _ := Q_ (below_step (pb2_ HB.out GE478.out GE479.out) hb); clear BK478 BK479 HB; rename_i BK478 BK479 HB; (try clear hb); (try clear hb2); (try clear hk); (try clear hi); obtain ⟨hcz27_0, hcz27_1, hfz27_0, hfz27_1⟩ := bc2_ BK478.out; obtain ⟨hcz28_0, hcz28_1, hfz28_0, hfz28_1⟩ := bc2_ BK479.out) | (go_at_call 74; (with_reducible refine (spec_l9Has.calls k1 _ _ l0_0 a1_0 t482 _ ?side1 ?side2 A20.out).mono ?_); (case side1 => exact cb_ HR0_0 HB); (case side2 => exact HC0_0.out); rintro e w' ⟨rfl, ⟨nd, rfl⟩⟩; (try first | exact ⟨rfl, _, World.drewN_drewN _ _ _⟩ | exact ⟨rfl, _, Eq.trans (World.drewN_drewN _ _ _) (congrArg (World.drewN _) (Nat.add_assoc _ _ _))⟩))); try go_wp2_with (first | (go_at_call 59; (with_reducible refine (spec_IsHello.calls k1 _ _ l0_0 _ _ l0_1 true _ ?side1 ?side2 ?side3 ?side4 A6.out).mono ?_); (case side1 => exact cb_ HR0_0 HB); (case side2 => exact HC0_0.out); (case side3 => exact cb_ HR0_1 HB); (case side4 => exact HC0_1.out); rintro e w24 ⟨rfl, hb⟩; have _ := Q_ (bb_ BK478.out hb); have _ := Q_ (bb_ BK479.out hb); have _ := Q_ (below_step (pb2_ HB.out GE478.out GE479.out) hb); clear BK478 BK479 HB; rename_i BK478 BK479 HB; (try clear hb); (try clear hb2); (try clear hk); (try clear hi); obtain ⟨hcz25_0, hcz25_1, hfz25_0, hfz25_1⟩ := bc2_ BK479.out) | (go_at_call 87; (with_reducible refine (spec_IsAnswer.calls k1 a1_0 _ _ l1_1 true _ ?side1 ?side2 A12.out).mono ?_); (case side1 => exact cb_ HR1_1 HB); (case side2 => exact HC1_1.out); rintro e w26 ⟨rfl, hb⟩; have _ := Q_ (bb_ BK478.out hb); have _ := Q_ (bb_ BK479.out hb); have _ := Q_ (below_step (pb2_ HB.out GE478.out GE479.out) hb); clear BK478 BK479 HB; rename_i BK478 BK479 HB; (try clear hb); (try clear hb2); (try clear hk); (try clear hi); obtain ⟨hcz27_0, hcz27_1, hfz27_0, hfz27_1⟩ := bc2_ BK478.out; obtain ⟨hcz28_0, hcz28_1, hfz28_0, hfz28_1⟩ := bc2_ BK479.out) | (go_at_call 74; (with_reducible refine (spec_l9Has.calls k1 _ _ l0_0 a1_0 t482 _ ?side1 ?side2 A20.out).mono ?_); (case side1 => exact cb_ HR0_0 HB); (case side2 => exact HC0_0.out); rintro e w' ⟨rfl, ⟨nd, rfl⟩⟩; (try first | exact ⟨rfl, _, World.drewN_drewN _ _ _⟩ | exact ⟨rfl, _, Eq.trans (World.drewN_drewN _ _ _) (congrArg (World.drewN _) (Nat.add_assoc _ _ _))⟩))))
  go_ret
  exact ⟨er_, pb2_ HB.out GE478.out GE479.out⟩
 rw [if_pos c5] at H
 have c5b0 : decide (x5_1 < (l1_1.length : Int)) = true := decide_eq_true c5
 clear c5
 by_cases c29 : 0 ≤ x5_1
 rotate_left
 ·rw [if_neg c29] at H
  exact absurd H (by simp)
 rw [if_pos c29] at H
 have c29b0 : decide (0 ≤ x5_1) = true := decide_eq_true c29
 clear c29
 replace H := Option.bind_eq_some_iff.mp H
 obtain ⟨t484, A300, H⟩ := H
 (try dsimp only at H)
 have A30 := Q_ A300
 clear A300
 by_cases c31 : t484 < 0
 ·rw [if_pos c31] at H
  have c31b0 : decide (t484 < 0) = true := decide_eq_true c31
  clear c31
  obtain rfl := Option.some.inj H
  have hnb32 := NB479_478.out
  have hnc32 := NB478_479.out
  have hcz33 := bc2_ BK479.out
  have hcz34 := bc2_ BK478.out
  have p483 : 0 ≤ (x5_1 : Int) := dt_
  have q483 : x5_1 < (l1_1.length : Int) := dt_
  obtain ⟨ad483, A483_1, c483_1, e483, hx483_0, hx483_1, hl483_1, hi483_1⟩ := at_T113 HR1_1.out x5_1 p483 q483
  cases e483
  replace hx483_0 := bt_ HB hx483_0
  replace hx483_1 := bt_ HB hx483_1
  have HR483_1 := Q_ hi483_1
  have HC483_1 := Q_ hl483_1
  clear hi483_1 hl483_1
  replace p483 := eq_true p483
  replace q483 := eq_true q483
  go_wp2_with (first | (go_at_call 71; (with_reducible refine (spec_ExtOf.calls k1 _ _ l0_1 ((rd_T113 l1_1 x5_1).f0) t484 _ ?side1 ?side2 A30.out).mono ?_); (case side1 => exact cb_ HR0_1 HB); (case side2 => exact HC0_1.out); rintro e w' ⟨rfl, ⟨nd, rfl⟩⟩; (try first | exact ⟨rfl, _, World.drewN_drewN _ _ _⟩ | exact ⟨rfl, _, Eq.trans (World.drewN_drewN _ _ _) (congrArg (World.drewN _) (Nat.add_assoc _ _ _))⟩)))
  repeat (go_quiet (first | (go_at_call 71; (with_reducible refine (spec_ExtOf.calls k1 _ _ l0_1 ((rd_T113 l1_1 x5_1).f0) t484 _ ?side1 ?side2 A30.out).mono ?_); (case side1 => exact cb_ HR0_1 HB); (case side2 => exact HC0_1.out); rintro e w' ⟨rfl, ⟨nd, rfl⟩⟩; (try first | exact ⟨rfl, _, World.drewN_drewN _ _ _⟩ | exact ⟨rfl, _, Eq.trans (World.drewN_drewN _ _ _) (congrArg (World.drewN _) (Nat.add_assoc _ _ _))⟩))); try go_wp2_with (first | (go_at_call 71; (with_reducible refine (spec_ExtOf.calls k1 _ _ l0_1 ((rd_T113 l1_1 x5_1).f0) t484 _ ?side1 ?side2 A30.out).mono ?_); (case side1 => exact cb_ HR0_1 HB); (case side2 => exact HC0_1.out); rintro e w' ⟨rfl, ⟨nd, rfl⟩⟩; (try first | exact ⟨rfl, _, World.drewN_drewN _ _ _⟩ | exact ⟨rfl, _, Eq.trans (World.drewN_drewN _ _ _) (congrArg (World.drewN _) (Nat.add_assoc _ _ _))⟩))))
  go_ret
  exact ⟨er_, pb2_ HB.out GE478.out GE479.out⟩
 rw [if_neg c31] at H
 have c31b0 : decide (t484 < 0) = false := decide_eq_false c31
 clear c31
 replace H := Option.bind_eq_some_iff.mp H
 obtain ⟨t486, A350, H⟩ := H
 (try dsimp only at H)
 have A35 := Q_ A350
 clear A350
 have HS_ := Q_ H
 clear H
 have hnb36 := NB479_478.out
 have hnc36 := NB478_479.out
 have hcz37 := bc2_ BK479.out
 have hcz38 := bc2_ BK478.out
 have p483 : 0 ≤ (x5_1 : Int) := dt_
 have q483 : x5_1 < (l1_1.length : Int) := dt_
 obtain ⟨ad483, A483_1, c483_1, e483, hx483_0, hx483_1, hl483_1, hi483_1⟩ := at_T113 HR1_1.out x5_1 p483 q483
 cases e483
 replace hx483_0 := bt_ HB hx483_0
 replace hx483_1 := bt_ HB hx483_1
 have HR483_1 := Q_ hi483_1
 have HC483_1 := Q_ hl483_1
 clear hi483_1 hl483_1
 replace p483 := eq_true p483
 replace q483 := eq_true q483
 go_upto_if 31 with (first | (go_at_call 71; (with_reducible refine (spec_ExtOf.calls k1 _ _ l0_1 ((rd_T113 l1_1 x5_1).f0) t484 _ ?side1 ?side2 A30.out).mono ?_); (case side1 => exact cb_ HR0_1 HB); (case side2 => exact HC0_1.out); rintro e w' ⟨rfl, ⟨nd, rfl⟩⟩; (try first | exact ⟨rfl, _, World.drewN_drewN _ _ _⟩ | exact ⟨rfl, _, Eq.trans (World.drewN_drewN _ _ _) (congrArg (World.drewN _) (Nat.add_assoc _ _ _))⟩); have p485 : 0 ≤ (x5_1 : Int) := dt_; have q485 : x5_1 < (l1_1.length : Int) := dt_; obtain ⟨ad485, A485_1, c485_1, e485, hx485_0, hx485_1, hl485_1, hi485_1⟩ := at_T113 HR1_1.out x5_1 p485 q485; obtain rfl : ad483 = ad485 := (by injection e485); replace hx485_0 := bt_ HB hx485_0; replace hx485_1 := bt_ HB hx485_1; have HR485_1 := Q_ hi485_1; have HC485_1 := Q_ hl485_1; clear hi485_1 hl485_1; replace p485 := eq_true p485; replace q485 := eq_true q485; have ea_ := Option.some.inj (hx483_1.symm.trans hx485_1); injection ea_ with ea_ en_ ec_; subst ea_; subst ec_; clear en_) | (go_at_call 86; (with_reducible refine (spec_IsReserved.calls ((rd_T113 l1_1 x5_1).f0) t486 _ A35.out).mono ?_); rintro e w' ⟨rfl, ⟨nd, rfl⟩⟩; (try first | exact ⟨rfl, _, World.drewN_drewN _ _ _⟩ | exact ⟨rfl, _, Eq.trans (World.drewN_drewN _ _ _) (congrArg (World.drewN _) (Nat.add_assoc _ _ _))⟩)))
 repeat (go_quiet (first | (go_at_call 71; (with_reducible refine (spec_ExtOf.calls k1 _ _ l0_1 ((rd_T113 l1_1 x5_1).f0) t484 _ ?side1 ?side2 A30.out).mono ?_); (case side1 => exact cb_ HR0_1 HB); (case side2 => exact HC0_1.out); rintro e w' ⟨rfl, ⟨nd, rfl⟩⟩; (try first | exact ⟨rfl, _, World.drewN_drewN _ _ _⟩ | exact ⟨rfl, _, Eq.trans (World.drewN_drewN _ _ _) (congrArg (World.drewN _) (Nat.add_assoc _ _ _))⟩); have p485 : 0 ≤ (x5_1 : Int) := dt_; have q485 : x5_1 < (l1_1.length : Int) := dt_; obtain ⟨ad485, A485_1, c485_1, e485, hx485_0, hx485_1, hl485_1, hi485_1⟩ := at_T113 HR1_1.out x5_1 p485 q485; obtain rfl : ad483 = ad485 := (by injection e485); replace hx485_0 := bt_ HB hx485_0; replace hx485_1 := bt_ HB hx485_1; have HR485_1 := Q_ hi485_1; have HC485_1 := Q_ hl485_1; clear hi485_1 hl485_1; replace p485 := eq_true p485; replace q485 := eq_true q485; have ea_ := Option.some.inj (hx483_1.symm.trans hx485_1); injection ea_ with ea_ en_ ec_; subst ea_; subst ec_; clear en_) | (go_at_call 86; (with_reducible refine (spec_IsReserved.calls ((rd_T113 l1_1 x5_1).f0) t486 _ A35.out).mono ?_); rintro e w' ⟨rfl, ⟨nd, rfl⟩⟩; (try first | exact ⟨rfl, _, World.drewN_drewN _ _ _⟩ | exact ⟨rfl, _, Eq.trans (World.drewN_drewN _ _ _) (congrArg (World.drewN _) (Nat.add_assoc _ _ _))⟩))); go_upto_if 31 with (first | (go_at_call 71; (with_reducible refine (spec_ExtOf.calls k1 _ _ l0_1 ((rd_T113 l1_1 x5_1).f0) t484 _ ?side1 ?side2 A30.out).mono ?_); (case side1 => exact cb_ HR0_1 HB); (case side2 => exact HC0_1.out); rintro e w' ⟨rfl, ⟨nd, rfl⟩⟩; (try first | exact ⟨rfl, _, World.drewN_drewN _ _ _⟩ | exact ⟨rfl, _, Eq.trans (World.drewN_drewN _ _ _) (congrArg (World.drewN _) (Nat.add_assoc _ _ _))⟩); have p485 : 0 ≤ (x5_1 : Int) := dt_; have q485 : x5_1 < (l1_1.length : Int) := dt_; obtain ⟨ad485, A485_1, c485_1, e485, hx485_0, hx485_1, hl485_1, hi485_1⟩ := at_T113 HR1_1.out x5_1 p485 q485; obtain rfl : ad483 = ad485 := (by injection e485); replace hx485_0 := bt_ HB hx485_0; replace hx485_1 := bt_ HB hx485_1; have HR485_1 := Q_ hi485_1; have HC485_1 := Q_ hl485_1; clear hi485_1 hl485_1; replace p485 := eq_true p485; replace q485 := eq_true q485; have ea_ := Option.some.inj (hx483_1.symm.trans hx485_1); injection ea_ with ea_ en_ ec_; subst ea_; subst ec_; clear en_) | (go_at_call 86; (with_reducible refine (spec_IsReserved.calls ((rd_T113 l1_1 x5_1).f0) t486 _ A35.out).mono ?_); rintro e w' ⟨rfl, ⟨nd, rfl⟩⟩; (try first | exact ⟨rfl, _, World.drewN_drewN _ _ _⟩ | exact ⟨rfl, _, Eq.trans (World.drewN_drewN _ _ _) (congrArg (World.drewN _) (Nat.add_assoc _ _ _))⟩))))
 (try simp only [Act.put, List.setIfInBounds_toArray, List.set_cons_zero, List.set_cons_succ])
 have H := HS_.out
 clear HS_
 by_cases c39 : t486 = true
 rotate_left
 ·replace c39 := bf_ c39
  subst c39
  rw [if_neg ff_] at H
  have H' := Q_ H
  clear H
  go_wp2
  repeat (go_quiet (fail); try go_wp2)
  go_roundg k1
  case measure => have := HK1.out; omega
  case rel => exact ⟨(wrap64 (x5_1 + 1)), el_, H', ⟨by have := HK1.out; omega⟩, ⟨pk_ BK478.out⟩, ⟨pk_ BK479.out⟩, ⟨pb2_ HB.out GE478.out GE479.out⟩⟩
 subst c39
 rw [if_pos rfl] at H
 obtain rfl := Option.some.inj H
 go_wp2
 repeat (go_quiet (fail); try go_wp2)
 go_ret
 exact ⟨er_, pb2_ HB.out GE478.out GE479.out⟩

/-! ### spec_IsValidKey: function 88 -/
def spec_IsValidKey.f (a0 : Int) : Option (Bool) := (spec_l1In.f a0 1 2147483646).bind fun t487 => (some t487)
theorem spec_IsValidKey.calls (a0 : Int) (r : Bool) (w : World) (h : spec_IsValidKey.f a0 = some r) :
  Calls Try.prog 88 #[.int .i64 a0] w fun e w' => e = .returned (.bool r) ∧ Drawn0 w w' := by
 have H : ((spec_l1In.f a0 1 2147483646).bind fun t487 => (some t487)) = some r := h
 clear h
 replace H := Option.bind_eq_some_iff.mp H
 obtain ⟨t487, A20, H⟩ := H
 replace H : (some t487) = some r := H
 have A2 := Q_ A20
 clear A20
 obtain rfl := Option.some.inj H
 go_enter Try.func88, Try.ntmps88
 go_wp2_with (first | ((with_reducible refine gate_callee (f := 72) rfl ?_); refine gl_ (some 4) Try.func72 #[.int .i64 a0, .int .i64 1, .int .i64 2147483646] ?_; (with_reducible refine (spec_l1In.calls a0 1 2147483646 t487 _ A2.out).mono ?_); rintro e w' ⟨rfl, ⟨nd, rfl⟩⟩; refine ⟨_, rfl, ?_⟩))
 go_ret
 exact ⟨by first | rfl | (simp; done) | (simp [*]; done), by repeat (first | exact Drawn0.refl _ | apply Drawn0.step)⟩

/-! ### spec_IsTranscript: function 89 -/
def spec_IsTranscript.l0 : Nat → List (List Int) → Int → Option (Bool)
 | 0, _, _ => none
 | k + 1, x0, x3 => if x3 < (x0.length : Int) then (if 0 ≤ x3 then ((spec_l9Byte.f k (rd_L2 x0 x3)).bind fun t489 => (if t489 = true then (spec_IsTranscript.l0 k x0 (wrap64 (x3 + 1))) else (some false))) else (none)) else (some (decide ((x0.length : Int) ≤ 12)))
def spec_IsTranscript.f (k : Nat) (l0 : List (List Int)) : Option (Bool) := spec_IsTranscript.l0 k l0 0
theorem spec_IsTranscript.mono_l : ∀ k, (∀ y0 y1, LeO (spec_IsTranscript.l0 k y0 y1) (spec_IsTranscript.l0 (k + 1) y0 y1))
 | 0 => fun _ _ r h => by simp [spec_IsTranscript.l0] at h
 | k + 1 => by
  have ih0 := spec_IsTranscript.mono_l k
  ·intro y0 y1
   unfold spec_IsTranscript.l0
   exact mo2_ ih0 spec_l9Byte.mono
theorem spec_IsTranscript.mono : ∀ a0 k, LeO (spec_IsTranscript.f k a0) (spec_IsTranscript.f (k + 1) a0) := by
 intro a0 k
 have ih0 := spec_IsTranscript.mono_l k
 unfold spec_IsTranscript.f
 exact mo2_ ih0 spec_l9Byte.mono
theorem spec_IsTranscript.calls (k : Nat) (A0 : Option Addr) (c0 : Nat) (l0 : List (List Int)) (r : Bool) (w : World) (hr0 : Kd.C (Kd.slice 3 (Kd.int .i64)) w A0 l0.length l0) (hc0 : l0.length ≤ c0) (h : spec_IsTranscript.f k l0 = some r) :
  Calls Try.prog 89 #[.slice A0 l0.length c0] w fun e w' => e = .returned (.bool r) ∧ Drawn0 w w' := by
 have HR0 := Q_ hr0
 have HC0 := Q_ hc0
 clear hr0 hc0
 have H : (spec_IsTranscript.l0 k l0 0) = some r := h
 clear h
 have H' := Q_ H
 clear H
 go_enter Try.func89, Try.ntmps89
 go_wp2
 go_loopg [3] k (fun kq v3 w' => ∃ (x3_1 : Int), v3 = .int .i64 x3_1 ∧ Aside0 (spec_IsTranscript.l0 kq l0 x3_1 = some r) ∧ Aside0 (kq ≤ k) ∧ Drawn0 w w')
 case atStart => exact ⟨(0), el_, H', ⟨Nat.le_refl _⟩, by repeat (first | exact Drawn0.refl _ | apply Drawn0.step)⟩
 clear H'
 obtain ⟨x3_1, rfl, HA, HK1, ⟨m1, rfl⟩⟩ := hrel
 rcases gk with _ | k1
 ·exact absurd HA.out (by simp [spec_IsTranscript.l0])
 have H := HA.out
 clear HA
 simp only [spec_IsTranscript.l0] at H
 by_cases c2 : x3_1 < (l0.length : Int)
 rotate_left
 ·rw [if_neg c2] at H
  have c2b0 : decide (x3_1 < (l0.length : Int)) = false := decide_eq_false c2
  clear c2
  obtain rfl := Option.some.inj H
  go_wp2
  go_ret
  exact ⟨by first | rfl | (simp; done) | (simp [*]; done), by repeat (first | exact Drawn0.refl _ | apply Drawn0.step)⟩
 rw [if_pos c2] at H
 have c2b0 : decide (x3_1 < (l0.length : Int)) = true := decide_eq_true c2
 clear c2
 by_cases c3 : 0 ≤ x3_1
 rotate_left
 ·rw [if_neg c3] at H
  exact absurd H (by simp)
 rw [if_pos c3] at H
 have c3b0 : decide (0 ≤ x3_1) = true := decide_eq_true c3
 clear c3
 replace H := Option.bind_eq_some_iff.mp H
 obtain ⟨t489, A40, H⟩ := H
 (try dsimp only at H)
 have A4 := Q_ A40
 clear A40
 have HS_ := Q_ H
 clear H
 have p488 : 0 ≤ (x3_1 : Int) := dt_
 have q488 : x3_1 < (l0.length : Int) := dt_
 obtain ⟨ad488, A488_0, c488_0, e488, hx488_0, hl488_0, hi488_0⟩ := at_L2 HR0.out x3_1 p488 q488
 cases e488
 have HR488_0 := Q_ hi488_0
 have HC488_0 := Q_ hl488_0
 clear hi488_0 hl488_0
 replace p488 := eq_true p488
 replace q488 := eq_true q488
 go_upto_if 15 with (first | ((with_reducible refine gate_callee (f := 93) rfl ?_); refine gl_ (some 14) Try.func93 #[.slice A488_0 (rd_L2 l0 x3_1).length c488_0] ?_; (with_reducible refine (spec_l9Byte.calls k1 _ _ (rd_L2 l0 x3_1) t489 _ ?side1 ?side2 A4.out).mono ?_); (case side1 => exact pc_ HR488_0.out); (case side2 => exact HC488_0.out); rintro e w' ⟨rfl, ⟨nd, rfl⟩⟩; refine ⟨_, rfl, ?_⟩))
 (try simp only [Act.put, List.setIfInBounds_toArray, List.set_cons_zero, List.set_cons_succ])
 have H := HS_.out
 clear HS_
 by_cases c5 : t489 = true
 rotate_left
 ·replace c5 := bf_ c5
  subst c5
  rw [if_neg ff_] at H
  obtain rfl := Option.some.inj H
  go_wp2
  go_ret
  exact ⟨by first | rfl | (simp; done) | (simp [*]; done), by repeat (first | exact Drawn0.refl _ | apply Drawn0.step)⟩
 subst c5
 rw [if_pos rfl] at H
 have H' := Q_ H
 clear H
 go_wp2
 go_roundg k1
 case measure => have := HK1.out; omega
 case rel => exact ⟨(wrap64 (x3_1 + 1)), el_, H', ⟨by have := HK1.out; omega⟩, by repeat (first | exact Drawn0.refl _ | apply Drawn0.step)⟩

/-! ### spec_Mod: function 101 -/
def spec_Mod.f (a0 : Int) (a1 : Int) : Option (Int) := (spec_l1In.f a1 1 1000000000000).bind fun t490 => (if t490 = true then (if a1 = 0 then (none) else (some (Int.tmod (wrap64 ((Int.tmod a0 a1) + a1)) a1))) else (some 0))
theorem spec_Mod.calls (a0 : Int) (a1 : Int) (r : Int) (w : World) (h : spec_Mod.f a0 a1 = some r) :
  Calls Try.prog 101 #[.int .i64 a0, .int .i64 a1] w fun e w' => e = .returned (.int .i64 r) ∧ Drawn0 w w' := by
 have H : ((spec_l1In.f a1 1 1000000000000).bind fun t490 => (if t490 = true then (if a1 = 0 then (none) else (some (Int.tmod (wrap64 ((Int.tmod a0 a1) + a1)) a1))) else (some 0))) = some r := h
 clear h
 replace H := Option.bind_eq_some_iff.mp H
 obtain ⟨t490, A30, H⟩ := H
 (try dsimp only at H)
 have A3 := Q_ A30
 clear A30
 have HS_ := Q_ H
 clear H
 go_enter Try.func101, Try.ntmps101
 go_upto_if 7 with (first | ((with_reducible refine gate_callee (f := 72) rfl ?_); refine gl_ (some 6) Try.func72 #[.int .i64 a1, .int .i64 1, .int .i64 1000000000000] ?_; (with_reducible refine (spec_l1In.calls a1 1 1000000000000 t490 _ A3.out).mono ?_); rintro e w' ⟨rfl, ⟨nd, rfl⟩⟩; refine ⟨_, rfl, ?_⟩))
 (try simp only [Act.put, List.setIfInBounds_toArray, List.set_cons_zero, List.set_cons_succ])
 have H := HS_.out
 clear HS_
 by_cases c4 : t490 = true
 rotate_left
 ·replace c4 := bf_ c4
  subst c4
  rw [if_neg ff_] at H
  obtain rfl := Option.some.inj H
  go_wp2
  go_ret
  exact ⟨by first | rfl | (simp; done) | (simp [*]; done), by repeat (first | exact Drawn0.refl _ | apply Drawn0.step)⟩
 subst c4
 rw [if_pos rfl] at H
 by_cases c5 : a1 = 0
 rotate_left
 ·rw [if_neg c5] at H
  have c5b0 : (a1 == 0) = false := beq_eq_false_iff_ne.mpr c5
  have c5b1 : (a1 != 0) = true := bne_iff_ne.mpr c5
  (first | rw [c5b0] | (simp only [i64_w, i32_w]; rw [c5b0]) | rw [c5b1] | (have c_ := c5b1; rw [bne] at c_; rw [c_]; clear c_) | skip)
  obtain rfl := Option.some.inj H
  go_wp2
  go_ret
  exact ⟨by first | rfl | (simp; done) | (simp [*]; done), by repeat (first | exact Drawn0.refl _ | apply Drawn0.step)⟩
 rw [if_pos c5] at H
 exact absurd H (by simp)

/-! ### spec_Hash: function 100 -/
def spec_Hash.l0 : Nat → List Int → Int → Int → Option (Int)
 | 0, _, _, _ => none
 | k + 1, x0, x3, x4 => if x4 < (x0.length : Int) then (if 0 ≤ x4 then ((spec_Mod.f (rd x0 x4) 2147483647).bind fun t492 => (spec_Hash.l0 k x0 (Int.tmod (wrap64 ((wrap64 ((wrap64 (x3 * 1000003)) + t492)) + 13)) 2147483647) (wrap64 (x4 + 1)))) else (none)) else (some x3)
def spec_Hash.f (k : Nat) (l0 : List Int) : Option (Int) := spec_Hash.l0 k l0 11 0
theorem spec_Hash.mono_l : ∀ k, (∀ y0 y1 y2, LeO (spec_Hash.l0 k y0 y1 y2) (spec_Hash.l0 (k + 1) y0 y1 y2))
 | 0 => fun _ _ _ r h => by simp [spec_Hash.l0] at h
 | k + 1 => by
  have ih0 := spec_Hash.mono_l k
  ·intro y0 y1 y2
   unfold spec_Hash.l0
   exact mo1_ ih0
theorem spec_Hash.mono : ∀ a0 k, LeO (spec_Hash.f k a0) (spec_Hash.f (k + 1) a0) := by
 intro a0 k
 have ih0 := spec_Hash.mono_l k
 unfold spec_Hash.f
 exact mo1_ ih0
theorem spec_Hash.calls (k : Nat) (A0 : Option Addr) (c0 : Nat) (l0 : List Int) (r : Int) (w : World) (hr0 : Kd.C (Kd.int .i64) w A0 l0.length l0) (hc0 : l0.length ≤ c0) (h : spec_Hash.f k l0 = some r) :
  Calls Try.prog 100 #[.slice A0 l0.length c0] w fun e w' => e = .returned (.int .i64 r) ∧ Drawn0 w w' := by
 have HR0 := Q_ hr0
 have HC0 := Q_ hc0
 clear hr0 hc0
 have H : (spec_Hash.l0 k l0 11 0) = some r := h
 clear h
 have H' := Q_ H
 clear H
 go_enter Try.func100, Try.ntmps100
 go_wp2
 go_loopg [3, 4] k (fun kq v3 v4 w' => ∃ (x3_1 : Int) (x4_1 : Int), v3 = .int .i64 x3_1 ∧ v4 = .int .i64 x4_1 ∧ Aside0 (spec_Hash.l0 kq l0 x3_1 x4_1 = some r) ∧ Aside0 (kq ≤ k) ∧ Drawn0 w w')
 case atStart => exact ⟨(11), (0), el_, el_, H', ⟨Nat.le_refl _⟩, by repeat (first | exact Drawn0.refl _ | apply Drawn0.step)⟩
 clear H'
 try clear c1
 obtain ⟨x3_1, x4_1, rfl, rfl, HA, HK1, ⟨m1, rfl⟩⟩ := hrel
 rcases gk with _ | k1
 ·exact absurd HA.out (by simp [spec_Hash.l0])
 have H := HA.out
 clear HA
 simp only [spec_Hash.l0] at H
 by_cases c2 : x4_1 < (l0.length : Int)
 rotate_left
 ·rw [if_neg c2] at H
  have c2b0 : decide (x4_1 < (l0.length : Int)) = false := decide_eq_false c2
  clear c2
  obtain rfl := Option.some.inj H
  go_wp2
  go_ret
  exact ⟨by first | rfl | (simp; done) | (simp [*]; done), by repeat (first | exact Drawn0.refl _ | apply Drawn0.step)⟩
 rw [if_pos c2] at H
 have c2b0 : decide (x4_1 < (l0.length : Int)) = true := decide_eq_true c2
 clear c2
 by_cases c3 : 0 ≤ x4_1
 rotate_left
 ·rw [if_neg c3] at H
  exact absurd H (by simp)
 rw [if_pos c3] at H
 have c3b0 : decide (0 ≤ x4_1) = true := decide_eq_true c3
 clear c3
 replace H := Option.bind_eq_some_iff.mp H
 obtain ⟨t492, A40, H⟩ := H
 (try dsimp only at H)
 have A4 := Q_ A40
 clear A40
 have H' := Q_ H
 clear H
 have p491 : 0 ≤ (x4_1 : Int) := dt_
 have q491 : x4_1 < (l0.length : Int) := dt_
 obtain ⟨ad491, e491, hx491_0⟩ := Kd.at_int HR0.out x4_1 p491 q491
 cases e491
 replace p491 := eq_true p491
 replace q491 := eq_true q491
 go_wp2_with (first | ((with_reducible refine gate_callee (f := 101) rfl ?_); refine gl_ (some 17) Try.func101 #[.int .i64 (rd l0 x4_1), .int .i64 2147483647] ?_; (with_reducible refine (spec_Mod.calls (rd l0 x4_1) 2147483647 t492 _ A4.out).mono ?_); rintro e w' ⟨rfl, ⟨nd, rfl⟩⟩; refine ⟨_, rfl, ?_⟩))
 go_roundg k1
 case measure => have := HK1.out; omega
 case rel => exact ⟨(Int.tmod (wrap64 ((wrap64 ((wrap64 (x3_1 * 1000003)) + t492)) + 13)) 2147483647), (wrap64 (x4_1 + 1)), el_, el_, H', ⟨by have := HK1.out; omega⟩, by repeat (first | exact Drawn0.refl _ | apply Drawn0.step)⟩

/-! ### spec_KeyedHash: function 90 -/
def spec_KeyedHash.f (k : Nat) (a0 : Int) (l1 : List Int) : Option (Int) := (some (([a0] : List Int) : List Int)).bind fun y493 => (if y493.length + l1.length < 17592186044416 then ((some (y493 ++ l1 : List Int)).bind fun y496 => (if y496.length < 17592186044416 then ((spec_Hash.f k (y496 ++ [a0])).bind fun t502 => (some t502)) else (none))) else (none))
theorem spec_KeyedHash.mono : ∀ a0 a1 k, LeO (spec_KeyedHash.f k a0 a1) (spec_KeyedHash.f (k + 1) a0 a1) := by
 intro a0 a1 k
 unfold spec_KeyedHash.f
 exact mo1_ spec_Hash.mono
theorem spec_KeyedHash.calls (k : Nat) (a0 : Int) (A1 : Option Addr) (c1 : Nat) (l1 : List Int) (r : Int) (w : World) (hr1 : Kd.C (Kd.int .i64) w A1 l1.length l1) (hc1 : l1.length ≤ c1) (h : spec_KeyedHash.f k a0 l1 = some r) :
  Calls Try.prog 90 #[.int .i64 a0, .slice A1 l1.length c1] w fun e w' => e = .returned (.int .i64 r) ∧ Below w.heap.size w w' := by
 have HR1 := Q_ hr1
 have HC1 := Q_ hc1
 clear hr1 hc1
 have HB := Q_ (Below.refl w.heap.size w)
 have H : ((some (([a0] : List Int) : List Int)).bind fun y493 => (if y493.length + l1.length < 17592186044416 then ((some (y493 ++ l1 : List Int)).bind fun y496 => (if y496.length < 17592186044416 then ((spec_Hash.f k (y496 ++ [a0])).bind fun t502 => (some t502)) else (none))) else (none))) = some r := h
 clear h
 obtain ⟨y493, hy493⟩ : ∃ y_ : List Int, y_ = (([a0] : List Int)) := ⟨_, rfl⟩
 replace H : (if y493.length + l1.length < 17592186044416 then ((some (y493 ++ l1 : List Int)).bind fun y496 => (if y496.length < 17592186044416 then ((spec_Hash.f k (y496 ++ [a0])).bind fun t502 => (some t502)) else (none))) else (none)) = some r := hb_ hy493 H
 have Ny493 := Q_ hy493
 clear hy493
 by_cases c3 : y493.length + l1.length < 17592186044416
 rotate_left
 ·rw [if_neg c3] at H
  exact absurd H (by simp)
 rw [if_pos c3] at H
 have LMc3 := Q_ c3
 clear c3
 obtain ⟨y496, hy496⟩ : ∃ y_ : List Int, y_ = (y493 ++ l1) := ⟨_, rfl⟩
 replace H : (if y496.length < 17592186044416 then ((spec_Hash.f k (y496 ++ [a0])).bind fun t502 => (some t502)) else (none)) = some r := hb_ hy496 H
 have Ny496 := Q_ hy496
 clear hy496
 by_cases c4 : y496.length < 17592186044416
 rotate_left
 ·rw [if_neg c4] at H
  exact absurd H (by simp)
 rw [if_pos c4] at H
 have LMc4 := Q_ c4
 clear c4
 obtain ⟨y499, hy499⟩ : ∃ y_ : List Int, y_ = (y496 ++ [a0]) := ⟨_, rfl⟩
 replace H : ((spec_Hash.f k y499).bind fun t502 => (some t502)) = some r := hb_ hy499 H
 have Ny499 := Q_ hy499
 clear hy499
 replace H := Option.bind_eq_some_iff.mp H
 obtain ⟨t502, A50, H⟩ := H
 replace H : (some t502) = some r := H
 have A5 := Q_ A50
 clear A50
 obtain rfl := Option.some.inj H
 go_enter Try.func90, Try.ntmps90
 go_wp2_with (first | ((with_reducible refine gate_dst (N := 6) rfl ?_); refine Kd.R_lit (Kd.int .i64) _ 3 ?hg (N := 6) ?hd (xs := ([a0] : List Int)) (inner := [.int .i64 a0]) (ok := fun _ => True) (okp := fun _ => True) ?hr ?hp (fun _ hk => hk) trivial (Below.refl _ _) (Nat.le_refl _) (by simp) ?_; (case hd => rfl); (case hg => rfl); (case hr => first | (go_simp; done) | (go_simp; rfl)); (case hp => exact (Reps.one (show Kd.M (Kd.int .i64) _ _ _ a0 [.int .i64 a0] from rfl) (Reps.none _ _))); intro v494 w6 ho7 hb hg_ hnew_; clear hg_ hnew_; (first | rw [← Ny493.out] at ho7 | (simp only [Int.reduceToNat] at ho7; rw [← Ny493.out] at ho7)); have _ := Q_ (Kd.R_lower ho7 (below_size (pb_ HB.out))); have _ := Q_ (below_step (pb_ HB.out) hb); clear HB; rename_i HO495 HB; clear hb ho7) | ((with_reducible refine gate_builtin (b := .append) (xs := #[.tmp 6, .tmp 7]) rfl ?_); at_builtin; refine Kd.R_append_rows (Kd.int .i64) (w0 := w) w.heap.size rfl (.tmp 6) (.tmp 7) 25 3 (.int .i64 0) 8 rfl Try.underlying25 info3 rfl (by decide) (by omega) v494 y493 l1 _ _ _ (fun _ => True) (fun _ => False) rfl rfl ?aO ?aR (fun _ _ h => h) (fun _ h => h.elim) ?aF ?aB ?aS ?aL ?_; (case aR => exact cb_ HR1 HB); (case aB => exact (pb_ HB.out)); (case aF => exact (fun _ _ => trivial)); (case aO => exact (pr_ HO495.out)); (case aS => exact (below_size (pb_ HB.out))); (case aL => have := LMc3.out; omega); intro v497 w8 ho hb hg hat; rw [← Ny496.out] at ho; have _ := Q_ (hb); have _ := Q_ (ho); clear HB HO495; rename_i HB HO498; clear ho hb hg hat) | ((with_reducible refine gate_builtin (b := .append) (xs := #[.tmp 8, .tmp 10]) rfl ?_); at_builtin; refine Kd.R_append (Kd.int .i64) (w0 := w) w.heap.size rfl (.tmp 8) (.tmp 10) 25 3 (.int .i64 0) 8 rfl Try.underlying25 info3 rfl (by decide) (by omega) v497 y496 a0 [.int .i64 a0] (fun _ => True) (fun _ => False) rfl rfl ?aP (fun _ hk => hk.elim) ?aF ?aO ?aB ?aS ?aL ?_; (case aP => exact rfl); (case aB => exact (pb_ HB.out)); (case aF => exact (fun _ _ => trivial)); (case aO => exact (pr_ HO498.out)); (case aS => exact (below_size (pb_ HB.out))); (case aL => have := LMc4.out; omega); intro v500 w9 ho hb hg hat; rw [← Ny499.out] at ho; have _ := Q_ (hb); have _ := Q_ (ho); clear HB HO498; rename_i HB HO501; clear ho hb hg hat; obtain ⟨Ao10, co10, eo10⟩ := Kd.R_slice HO501.out; subst eo10) | ((with_reducible refine gate_callee (f := 100) rfl ?_); refine gl_ (some 12) Try.func100 #[.slice Ao10 y499.length co10] ?_; (with_reducible refine (spec_Hash.calls k _ _ y499 t502 _ ?side1 ?side2 A5.out).mono ?_); (case side1 => exact pc_ ((Kd.R_reads' HO501.out).2.2)); (case side2 => exact (Kd.R_reads' HO501.out).2.1); rintro e w' ⟨rfl, ⟨nd, rfl⟩⟩; refine ⟨_, rfl, ?_⟩))
 go_ret
 exact ⟨er_, pb_ HB.out⟩

end Go.Proofs.Ytlcpaebidnaolaa.Print
