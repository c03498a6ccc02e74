-- Written by a program of this session (printx.py) out of the translation; Lean checks it.
import Derived.Test.YtlcpaebidnaolaaPrint0
import Derived.Test.YtlcpaebidnaolaaPrint2
import Derived.Test.YtlcpaebidnaolaaPrint3
import Derived.Test.YtlcpaebidnaolaaPrint4
import Derived.Test.YtlcpaebidnaolaaPrint7
import Derived.Test.YtlcpaebidnaolaaPrint9
namespace Go.Proofs.Ytlcpaebidnaolaa.Print
open Go.RowKit Go.Proofs.YtlcpaebidnaolaaW.PrintWords Go.Proofs.YtlcpaebidnaolaaW.PrintLast Go.Proofs.YtlcpaebidnaolaaW.PrintMore Go.Proofs.Ytlcpaebidnaolaa.Short
attribute [local go_sem] max2_int min2_int max_two min_two max_three min_three max_four min_four   -- for this text's walks alone
set_option linter.unusedVariables false
set_option maxHeartbeats 8000000
set_option maxRecDepth 100000
set_option linter.unusedSimpArgs false

/-! ### spec_HelloFor: function 50 -/
def spec_HelloFor.f (k : Nat) (l0_0 : List Int) (l0_1 : List (S113)) (l1 : List (S89)) : Option (List Int × (List (S113)) × Int × Bool) := (spec_IsHello.f k l0_0 l0_1).bind fun t416 => (if t416 = true then ((spec_PassesWhole.f k l0_0 l0_1 l1).bind fun t417 => (if t417 = true then ((spec_l18Hello.f k l0_0 l0_1).bind fun bt418 => (some (bt418.1, bt418.2, 1, true))) else ((spec_FallbackHello.f k l0_0 l0_1 l1).bind fun bt424 => (if bt424.2.2 = true then ((spec_PassesWhole.f k bt424.1 bt424.2.1 l1).bind fun t432 => (if t432 = true then (some (bt424.1, bt424.2.1, 2, true)) else (some (([] : List Int), ([] : List (S113)), 2, false)))) else (some (([] : List Int), ([] : List (S113)), 2, false)))))) else (some (([] : List Int), ([] : List (S113)), 0, false)))
theorem spec_HelloFor.mono : ∀ a0 a1 a2 k, LeO (spec_HelloFor.f k a0 a1 a2) (spec_HelloFor.f (k + 1) a0 a1 a2) := by
 intro a0 a1 a2 k
 unfold spec_HelloFor.f
 exact mo4_ spec_FallbackHello.mono spec_IsHello.mono spec_PassesWhole.mono spec_l18Hello.mono
theorem spec_HelloFor.calls (k : Nat) (A0_0 : Option Addr) (c0_0 : Nat) (l0_0 : List Int) (A0_1 : Option Addr) (c0_1 : Nat) (l0_1 : List (S113)) (A1 : Option Addr) (c1 : Nat) (l1 : List (S89)) (r1 : List Int) (r2 : List (S113)) (r3 : Int) (r4 : Bool) (w : World) (hr0_0 : Kd.C (Kd.int .i64) w A0_0 l0_0.length l0_0) (hc0_0 : l0_0.length ≤ c0_0) (hr0_1 : Kd.C k113 w A0_1 l0_1.length l0_1) (hc0_1 : l0_1.length ≤ c0_1) (hr1 : Kd.C k89 w A1 l1.length l1) (hc1 : l1.length ≤ c1) (h : spec_HelloFor.f k l0_0 l0_1 l1 = some (r1, r2, r3, r4)) :
  Calls Try.prog 50 #[.agg #[.slice A0_0 l0_0.length c0_0, .slice A0_1 l0_1.length c0_1], .slice A1 l1.length c1] w fun e w' => ∃ v0_ v1_ : Value, e = .returned (.tuple #[.agg #[v0_, v1_], .int .i64 r3, .bool r4]) ∧ Kd.R (Kd.int .i64) 3 w' w.heap.size (fun _ => True) v0_ r1 ∧ Kd.S k113 113 w' w.heap.size (fun k_ => some k_ ≠ (v0_ : Value).ownBlock) v1_ r2 ∧ Below w.heap.size w w' := by
 have hu71 := Try.underlying71
 have HR0_0 := Q_ hr0_0
 have HC0_0 := Q_ hc0_0
 clear hr0_0 hc0_0
 have HR0_1 := Q_ hr0_1
 have HC0_1 := Q_ hc0_1
 clear hr0_1 hc0_1
 have HR1 := Q_ hr1
 have HC1 := Q_ hc1
 clear hr1 hc1
 have HB := Q_ (Below.refl w.heap.size w)
 have H : ((spec_IsHello.f k l0_0 l0_1).bind fun t416 => (if t416 = true then ((spec_PassesWhole.f k l0_0 l0_1 l1).bind fun t417 => (if t417 = true then ((spec_l18Hello.f k l0_0 l0_1).bind fun bt418 => (some (bt418.1, bt418.2, 1, true))) else ((spec_FallbackHello.f k l0_0 l0_1 l1).bind fun bt424 => (if bt424.2.2 = true then ((spec_PassesWhole.f k bt424.1 bt424.2.1 l1).bind fun t432 => (if t432 = true then (some (bt424.1, bt424.2.1, 2, true)) else (some (([] : List Int), ([] : List (S113)), 2, false)))) else (some (([] : List Int), ([] : List (S113)), 2, false)))))) else (some (([] : List Int), ([] : List (S113)), 0, false)))) = some (r1, r2, r3, r4) := h
 clear h
 have HS_ := Q_ H
 clear H
 go_enter Try.func50, Try.ntmps50
 go_upto_region 1 with (first | ((with_reducible refine gate_dst (N := 2) rfl ?_); refine box_event ?hg (N := 2) ?hd (cs := #[.slice A0_0 l0_0.length c0_0, .slice A0_1 l0_1.length c0_1]) (t := 71) ?hr ?_; (case hd => rfl); (case hg => rfl); (case hr => first | (go_simp; done) | (go_simp; rfl)); intro gb414 hg w3 hbox hb; have _ := Q_ (below_step (pb_ HB.out) hb); have BK414 := Q_ (hbox); have GW414 := Q_ ((by rw [hg]; exact (below_size (pb_ HB.out)) : w.heap.size ≤ gb414)); have GE414 := GW414; clear HB; rename_i HB; clear hb hbox hg) | ((with_reducible refine gate_dst (N := 4) rfl ?_); refine box_event ?hg (N := 4) ?hd (cs := #[.slice none 0 0, .slice none 0 0]) (t := 71) ?hr ?_; (case hd => rfl); (case hg => rfl); (case hr => first | (go_simp; done) | (go_simp; rfl)); intro gb415 hg w4 hbox hb; have _ := Q_ (bb_ BK414.out hb); have _ := Q_ (below_step (pb1_ HB.out GE414.out) hb); have BK415 := Q_ (hbox); have GW415 := Q_ ((by rw [hg]; exact (below_size (pb1_ HB.out GE414.out)) : w.heap.size ≤ gb415)); have GE415 := GW415; have NB414_415 := Q_ ((by rw [hg]; exact Nat.ne_of_lt (blk_lt (pk_ BK414.out)) : gb414 ≠ gb415)); have NB415_414 := Q_ NB414_415.out.symm; clear BK414 HB; rename_i BK414 HB; clear hb hbox hg))
 (try simp only [Act.put, List.setIfInBounds_toArray, List.set_cons_zero, List.set_cons_succ])
 have H := HS_.out
 clear HS_
 replace H := Option.bind_eq_some_iff.mp H
 obtain ⟨t416, A50, H⟩ := H
 (try dsimp only at H)
 have A5 := Q_ A50
 clear A50
 have HS_ := Q_ H
 clear H
 have hnb6 := NB414_415.out
 have hnc6 := NB415_414.out
 have hcz7 := bc2_ BK414.out
 go_upto_if 11 with (first | ((with_reducible refine gate_callee (f := 59) rfl ?_); refine gl_ (some 10) Try.func59 #[.agg #[.slice A0_0 l0_0.length c0_0, .slice A0_1 l0_1.length c0_1]] ?_; (with_reducible refine (spec_IsHello.calls k _ _ l0_0 _ _ l0_1 t416 _ ?side1 ?side2 ?side3 ?side4 A5.out).mono ?_); (case side1 => exact cb_ HR0_0 HB); (case side2 => exact HC0_0.out); (case side3 => exact cb_ HR0_1 HB); (case side4 => exact HC0_1.out); rintro e w8 ⟨rfl, hb⟩; refine ⟨_, rfl, ?_⟩; have _ := Q_ (bb_ BK414.out hb); have _ := Q_ (bb_ BK415.out hb); have _ := Q_ (below_step (pb2_ HB.out GE414.out GE415.out) hb); clear BK414 BK415 HB; rename_i BK414 BK415 HB; (try clear hb); (try clear hb2); (try clear hk); (try clear hi)))
 (try simp only [Act.put, List.setIfInBounds_toArray, List.set_cons_zero, List.set_cons_succ])
 have H := HS_.out
 clear HS_
 by_cases c9 : t416 = true
 rotate_left
 ·replace c9 := bf_ c9
  subst c9
  rw [if_neg ff_] at H
  simp only [Option.some.injEq, Prod.mk.injEq] at H
  obtain ⟨rfl, rfl, rfl, rfl⟩ := H
  have hnb10 := NB415_414.out
  have hnc10 := NB414_415.out
  have hcz11 := bc2_ BK415.out
  go_wp2
  refine bodyPost_ret (results_ctt rfl _ _ gb415 71 #[.slice none 0 0, .slice none 0 0] (0, 0) _ rfl (pp_ BK415.out) Try.underlying71 rfl (by kernel_rfl)) rfl ?_
  exact ⟨_, _, er_, by first | exact Kd.R_nil _ _ _ _ _ | exact Kd.N_nil _ _ _ _ _ | exact Kd.V_nil _ _ _ _ _ | exact Kd.Q_nil _ _ _ _ _ | exact Kd.S_nil _ _ _ _ _, by first | exact Kd.S_nil _ _ _ _ _ | exact Kd.N_nil _ _ _ _ _ | exact Kd.V_nil _ _ _ _ _ | exact Kd.Q_nil _ _ _ _ _ | exact Kd.R_nil _ _ _ _ _, pb2_ HB.out GE414.out GE415.out⟩
 subst c9
 rw [if_pos rfl] at H
 replace H := Option.bind_eq_some_iff.mp H
 obtain ⟨t417, A120, H⟩ := H
 (try dsimp only at H)
 have A12 := Q_ A120
 clear A120
 have HS_ := Q_ H
 clear H
 have hnb13 := NB414_415.out
 have hnc13 := NB415_414.out
 have hcz14 := bc2_ BK414.out
 go_upto_if 15 with (first | ((with_reducible refine gate_callee (f := 60) rfl ?_); refine gl_ (some 15) Try.func60 #[.agg #[.slice A0_0 l0_0.length c0_0, .slice A0_1 l0_1.length c0_1], .slice A1 l1.length c1] ?_; (with_reducible refine (spec_PassesWhole.calls k _ _ l0_0 _ _ l0_1 _ _ l1 t417 _ ?side1 ?side2 ?side3 ?side4 ?side5 ?side6 A12.out).mono ?_); (case side1 => exact cb_ HR0_0 HB); (case side2 => exact HC0_0.out); (case side3 => exact cb_ HR0_1 HB); (case side4 => exact HC0_1.out); (case side5 => exact cb_ HR1 HB); (case side6 => exact HC1.out); rintro e w15 ⟨rfl, hb⟩; refine ⟨_, rfl, ?_⟩; have _ := Q_ (bb_ BK414.out hb); have _ := Q_ (bb_ BK415.out hb); have _ := Q_ (below_step (pb2_ HB.out GE414.out GE415.out) hb); clear BK414 BK415 HB; rename_i BK414 BK415 HB; (try clear hb); (try clear hb2); (try clear hk); (try clear hi)))
 (try simp only [Act.put, List.setIfInBounds_toArray, List.set_cons_zero, List.set_cons_succ])
 have H := HS_.out
 clear HS_
 by_cases c16 : t417 = true
 ·subst c16
  rw [if_pos rfl] at H
  replace H := Option.bind_eq_some_iff.mp H
  obtain ⟨⟨t418, t421⟩, A170, H⟩ := H
  replace H : (some (t418, t421, 1, true)) = some (r1, r2, r3, r4) := H
  have A17 := Q_ A170
  clear A170
  simp only [Option.some.injEq, Prod.mk.injEq] at H
  obtain ⟨rfl, rfl, rfl, rfl⟩ := H
  have hnb18 := NB414_415.out
  have hnc18 := NB415_414.out
  have hcz19 := bc2_ BK414.out
  go_wp2_with (first | ((with_reducible refine gate_callee (f := 61) rfl ?_); refine gl_ (some 17) Try.func61 #[.agg #[.slice A0_0 l0_0.length c0_0, .slice A0_1 l0_1.length c0_1]] ?_; (with_reducible refine (spec_l18Hello.calls k _ _ l0_0 _ _ l0_1 t418 t421 _ ?side1 ?side2 ?side3 ?side4 A17.out).mono ?_); (case side1 => exact cb_ HR0_0 HB); (case side2 => exact HC0_0.out); (case side3 => exact cb_ HR0_1 HB); (case side4 => exact HC0_1.out); rintro e w20 ⟨v419, v422, rfl, ho0, ho1, hb⟩; refine ⟨_, rfl, ?_⟩; have _ := Q_ (Kd.R_lower ho0 (below_size (pb2_ HB.out GE414.out GE415.out))); have _ := Q_ (Kd.S_lower ho1 (below_size (pb2_ HB.out GE414.out GE415.out))); have _ := Q_ (bb_ BK414.out hb); have _ := Q_ (bb_ BK415.out hb); have _ := Q_ (below_step (pb2_ HB.out GE414.out GE415.out) hb); clear BK414 BK415 HB; rename_i HO420 HO423 BK414 BK415 HB; (try clear hb); (try clear hb2); (try clear hk); (try clear hi); (try clear ho0); (try clear ho1); obtain ⟨Ao21, co21, eo21⟩ := Kd.R_slice HO420.out; subst eo21; have hcz22 := bc2_ BK415.out; obtain ⟨Ao23, co23, eo23⟩ := Kd.S_slice HO423.out; subst eo23))
  refine bodyPost_ret (results_ctt rfl _ _ gb415 71 #[.slice Ao21 t418.length co21, .slice Ao23 t421.length co23] (0, 0) _ rfl (pp_ BK415.out) Try.underlying71 rfl (by kernel_rfl)) rfl ?_
  exact ⟨_, _, er_, pr_ (Kd.R_mono (rf2_ HO420.out BK415.out) (fun _ hk => trivial)), ps_ (sf2_ HO423.out BK415.out), pb2_ HB.out GE414.out GE415.out⟩
 replace c16 := bf_ c16
 subst c16
 rw [if_neg ff_] at H
 replace H := Option.bind_eq_some_iff.mp H
 obtain ⟨⟨t424, t427, t430⟩, A240, H⟩ := H
 (try dsimp only at H)
 have A24 := Q_ A240
 clear A240
 have HS_ := Q_ H
 clear H
 have hnb25 := NB414_415.out
 have hnc25 := NB415_414.out
 have hcz26 := bc2_ BK414.out
 go_upto_region 6 with (first | ((with_reducible refine gate_callee (f := 62) rfl ?_); refine gl_ (some 21) Try.func62 #[.agg #[.slice A0_0 l0_0.length c0_0, .slice A0_1 l0_1.length c0_1], .slice A1 l1.length c1] ?_; (with_reducible refine (spec_FallbackHello.calls k _ _ l0_0 _ _ l0_1 _ _ l1 t424 t427 t430 _ ?side1 ?side2 ?side3 ?side4 ?side5 ?side6 A24.out).mono ?_); (case side1 => exact cb_ HR0_0 HB); (case side2 => exact HC0_0.out); (case side3 => exact cb_ HR0_1 HB); (case side4 => exact HC0_1.out); (case side5 => exact cb_ HR1 HB); (case side6 => exact HC1.out); rintro e w27 ⟨v425, v428, rfl, ho0, ho1, hb⟩; refine ⟨_, rfl, ?_⟩; have _ := Q_ (Kd.R_lower ho0 (below_size (pb2_ HB.out GE414.out GE415.out))); have _ := Q_ (Kd.S_lower ho1 (below_size (pb2_ HB.out GE414.out GE415.out))); have _ := Q_ (bb_ BK414.out hb); have _ := Q_ (bb_ BK415.out hb); have _ := Q_ (below_step (pb2_ HB.out GE414.out GE415.out) hb); clear BK414 BK415 HB; rename_i HO426 HO429 BK414 BK415 HB; (try clear hb); (try clear hb2); (try clear hk); (try clear hi); (try clear ho0); (try clear ho1)) | ((with_reducible refine gate_dst (N := 7) rfl ?_); refine box_event ?hg (N := 7) ?hd (cs := #[.slice none 0 0, .slice none 0 0]) (t := 71) ?hr ?_; (case hd => rfl); (case hg => rfl); (case hr => first | (go_simp; done) | (go_simp; rfl)); intro gb431 hg w28 hbox hb; have _ := Q_ (Kd.R_below (pr_ HO426.out) hb); have _ := Q_ (Kd.S_below (ps_ HO429.out) hb); have _ := Q_ (bb_ BK414.out hb); have _ := Q_ (bb_ BK415.out hb); have _ := Q_ (below_step (pb2_ HB.out GE414.out GE415.out) hb); have BK431 := Q_ (hbox); have GW431 := Q_ ((by rw [hg]; exact (below_size (pb2_ HB.out GE414.out GE415.out)) : w.heap.size ≤ gb431)); have GE431 := GW431; have NB414_431 := Q_ ((by rw [hg]; exact Nat.ne_of_lt (blk_lt (pk_ BK414.out)) : gb414 ≠ gb431)); have NB431_414 := Q_ NB414_431.out.symm; have NB415_431 := Q_ ((by rw [hg]; exact Nat.ne_of_lt (blk_lt (pk_ BK415.out)) : gb415 ≠ gb431)); have NB431_415 := Q_ NB415_431.out.symm; clear HO426 HO429 BK414 BK415 HB; rename_i HO426 HO429 BK414 BK415 HB; clear hb hbox hg; obtain ⟨Ao29, co29, eo29⟩ := Kd.R_slice HO426.out; subst eo29; have hnb30 := NB431_414.out; have hnc30 := NB414_431.out; have hnb31 := NB431_415.out; have hnc31 := NB415_431.out; have hcz32 := bc2_ BK431.out; obtain ⟨Ao33, co33, eo33⟩ := Kd.S_slice HO429.out; subst eo33))
 (try simp only [Act.put, List.setIfInBounds_toArray, List.set_cons_zero, List.set_cons_succ])
 have H := HS_.out
 clear HS_
 by_cases c34 : t430 = true
 rotate_left
 ·replace c34 := bf_ c34
  subst c34
  rw [if_neg ff_] at H
  simp only [Option.some.injEq, Prod.mk.injEq] at H
  obtain ⟨rfl, rfl, rfl, rfl⟩ := H
  have hnb35 := NB415_414.out
  have hnc35 := NB414_415.out
  have hnb36 := NB415_431.out
  have hnc36 := NB431_415.out
  have hcz37 := bc2_ BK415.out
  go_wp2
  refine bodyPost_ret (results_ctt rfl _ _ gb415 71 #[.slice none 0 0, .slice none 0 0] (0, 0) _ rfl (pp_ BK415.out) Try.underlying71 rfl (by kernel_rfl)) rfl ?_
  exact ⟨_, _, er_, by first | exact Kd.R_nil _ _ _ _ _ | exact Kd.N_nil _ _ _ _ _ | exact Kd.V_nil _ _ _ _ _ | exact Kd.Q_nil _ _ _ _ _ | exact Kd.S_nil _ _ _ _ _, by first | exact Kd.S_nil _ _ _ _ _ | exact Kd.N_nil _ _ _ _ _ | exact Kd.V_nil _ _ _ _ _ | exact Kd.Q_nil _ _ _ _ _ | exact Kd.R_nil _ _ _ _ _, pb3_ HB.out GE414.out GE415.out GE431.out⟩
 subst c34
 rw [if_pos rfl] at H
 replace H := Option.bind_eq_some_iff.mp H
 obtain ⟨t432, A380, H⟩ := H
 (try dsimp only at H)
 have A38 := Q_ A380
 clear A380
 have HS_ := Q_ H
 clear H
 have hnb39 := NB431_414.out
 have hnc39 := NB414_431.out
 have hnb40 := NB431_415.out
 have hnc40 := NB415_431.out
 have hcz41 := bc2_ BK431.out
 go_upto_if 31 with (first | (go_at_call 60; (with_reducible refine (spec_PassesWhole.calls k _ _ t424 _ _ t427 _ _ l1 t432 _ ?side1 ?side2 ?side3 ?side4 ?side5 ?side6 A38.out).mono ?_); (case side1 => refine (Kd.R_reads' (e := 3) (base := w.heap.size) (ok := fun k_ => True) (n := t424.length) (c := co29) ?_).2.2; exact (pr_ (rf2_ HO426.out BK431.out))); (case side2 => exact (Kd.R_reads' HO426.out).2.1); (case side3 => refine (Kd.S_reads' (e := 113) (base := w.heap.size) (ok := fun k_ => some k_ ≠ (.slice Ao29 t424.length co29 : Value).ownBlock) (n := t427.length) (c := co33) ?_).2.2; exact (ps_ (sf2_ HO429.out BK431.out))); (case side4 => exact (Kd.S_reads' HO429.out).2.1); (case side5 => exact Kd.C_below HR1.out (pb3_ HB.out GE414.out GE415.out GE431.out)); (case side6 => exact HC1.out); rintro e w42 ⟨rfl, hb⟩; have _ := Q_ (Kd.R_below (pr_ (rf2_ HO426.out BK431.out)) hb); have _ := Q_ (Kd.S_below (ps_ (sf2_ HO429.out BK431.out)) hb); have _ := Q_ (blk_below (g := gb414) (o := .cells #[.slice A0_0 l0_0.length c0_0, .slice A0_1 l0_1.length c0_1] 71 (0, 0)) (pp_ BK414.out) hb); have _ := Q_ (blk_below (g := gb415) (o := .cells #[.slice none 0 0, .slice none 0 0] 71 (0, 0)) (pp_ BK415.out) hb); have _ := Q_ (blk_below (g := gb431) (o := .cells #[.slice Ao29 t424.length co29, .slice Ao33 t427.length co33] 71 (0, 0)) (pp_ BK431.out) hb); have _ := Q_ (below_step (pb3_ HB.out GE414.out GE415.out GE431.out) hb); clear HO426 HO429 BK414 BK415 BK431 HB; rename_i HO426 HO429 BK414 BK415 BK431 HB; (try clear hb); (try clear hb2); (try clear hk); (try clear hi)))
 (try simp only [Act.put, List.setIfInBounds_toArray, List.set_cons_zero, List.set_cons_succ])
 have H := HS_.out
 clear HS_
 by_cases c43 : t432 = true
 rotate_left
 ·replace c43 := bf_ c43
  subst c43
  rw [if_neg ff_] at H
  simp only [Option.some.injEq, Prod.mk.injEq] at H
  obtain ⟨rfl, rfl, rfl, rfl⟩ := H
  have hnb44 := NB415_414.out
  have hnc44 := NB414_415.out
  have hnb45 := NB415_431.out
  have hnc45 := NB431_415.out
  have hcz46 := bc2_ BK415.out
  go_wp2
  refine bodyPost_ret (results_ctt rfl _ _ gb415 71 #[.slice none 0 0, .slice none 0 0] (0, 0) _ rfl (pp_ BK415.out) Try.underlying71 rfl (by kernel_rfl)) rfl ?_
  exact ⟨_, _, er_, by first | exact Kd.R_nil _ _ _ _ _ | exact Kd.N_nil _ _ _ _ _ | exact Kd.V_nil _ _ _ _ _ | exact Kd.Q_nil _ _ _ _ _ | exact Kd.S_nil _ _ _ _ _, by first | exact Kd.S_nil _ _ _ _ _ | exact Kd.N_nil _ _ _ _ _ | exact Kd.V_nil _ _ _ _ _ | exact Kd.Q_nil _ _ _ _ _ | exact Kd.R_nil _ _ _ _ _, pb3_ HB.out GE414.out GE415.out GE431.out⟩
 subst c43
 rw [if_pos rfl] at H
 simp only [Option.some.injEq, Prod.mk.injEq] at H
 obtain ⟨rfl, rfl, rfl, rfl⟩ := H
 have hnb47 := NB431_414.out
 have hnc47 := NB414_431.out
 have hnb48 := NB431_415.out
 have hnc48 := NB415_431.out
 have hcz49 := bc2_ BK431.out
 have hnb50 := NB415_414.out
 have hnc50 := NB414_415.out
 have hcz51 := bc2_ BK415.out
 go_wp2
 refine bodyPost_ret (results_ctt rfl _ _ gb415 71 #[.slice Ao29 t424.length co29, .slice Ao33 t427.length co33] (0, 0) _ rfl (pp_ BK415.out) Try.underlying71 rfl (by kernel_rfl)) rfl ?_
 exact ⟨_, _, er_, pr_ (Kd.R_mono (rf2_ HO426.out BK415.out) (fun _ hk => trivial)), ps_ (sf2_ HO429.out BK415.out), pb3_ HB.out GE414.out GE415.out GE431.out⟩

/-! ### spec_CommonOf: function 99 -/
def spec_CommonOf.l0 : Nat → List Int → List Int → List Int → Int → Option (List Int)
 | 0, _, _, _, _ => none
 | k + 1, x0, x1, x5, x6 => if x6 < (x0.length : Int) then (if 0 ≤ x6 then ((spec_l9Has.f k x1 (rd x0 x6)).bind fun t437 => (if t437 = true then (if x5.length < 17592186044416 then (spec_CommonOf.l0 k x0 x1 (x5 ++ [rd x0 x6]) (wrap64 (x6 + 1))) else (none)) else (spec_CommonOf.l0 k x0 x1 x5 (wrap64 (x6 + 1))))) else (none)) else (some x5)
def spec_CommonOf.f (k : Nat) (l0 : List Int) (l1 : List Int) : Option (List Int) := spec_CommonOf.l0 k l0 l1 (([] : List Int)) 0
theorem spec_CommonOf.mono_l : ∀ k, (∀ y0 y1 y2 y3, LeO (spec_CommonOf.l0 k y0 y1 y2 y3) (spec_CommonOf.l0 (k + 1) y0 y1 y2 y3))
 | 0 => fun _ _ _ _ r h => by simp [spec_CommonOf.l0] at h
 | k + 1 => by
  have ih0 := spec_CommonOf.mono_l k
  ·intro y0 y1 y2 y3
   unfold spec_CommonOf.l0
   exact mo2_ ih0 spec_l9Has.mono
theorem spec_CommonOf.mono : ∀ a0 a1 k, LeO (spec_CommonOf.f k a0 a1) (spec_CommonOf.f (k + 1) a0 a1) := by
 intro a0 a1 k
 have ih0 := spec_CommonOf.mono_l k
 unfold spec_CommonOf.f
 exact mo2_ ih0 spec_l9Has.mono
theorem spec_CommonOf.calls (k : Nat) (A0 : Option Addr) (c0 : Nat) (l0 : List Int) (A1 : Option Addr) (c1 : Nat) (l1 : List Int) (r : List Int) (w : World) (hr0 : Kd.C (Kd.int .i64) w A0 l0.length l0) (hc0 : l0.length ≤ c0) (hr1 : Kd.C (Kd.int .i64) w A1 l1.length l1) (hc1 : l1.length ≤ c1) (h : spec_CommonOf.f k l0 l1 = some r) :
  Calls Try.prog 99 #[.slice A0 l0.length c0, .slice A1 l1.length c1] w fun e w' => ∃ v0_ : Value, e = .returned (v0_) ∧ Kd.R (Kd.int .i64) 3 w' w.heap.size (fun _ => True) v0_ r ∧ Below w.heap.size w w' := by
 have HR0 := Q_ hr0
 have HC0 := Q_ hc0
 clear hr0 hc0
 have HR1 := Q_ hr1
 have HC1 := Q_ hc1
 clear hr1 hc1
 have HB := Q_ (Below.refl w.heap.size w)
 have H : (spec_CommonOf.l0 k l0 l1 (([] : List Int)) 0) = some r := h
 clear h
 obtain ⟨y433, hy433⟩ : ∃ y_ : List Int, y_ = (([] : List Int)) := ⟨_, rfl⟩
 replace H : (spec_CommonOf.l0 k l0 l1 y433 0) = some r := hb_ hy433 H
 have Ny433 := Q_ hy433
 clear hy433
 have H' := Q_ H
 clear H
 go_enter Try.func99, Try.ntmps99
 go_wp2_with (first | ((with_reducible refine gate_dst (N := 7) rfl ?_); refine Kd.R_lit (Kd.int .i64) _ 3 ?hg (N := 7) ?hd (xs := ([] : List Int)) (inner := []) (ok := fun _ => True) (okp := fun _ => True) ?hr ?hp (fun _ hk => hk) trivial (Below.refl _ _) (Nat.le_refl _) (by simp) ?_; (case hd => rfl); (case hg => rfl); (case hr => first | (go_simp; done) | (go_simp; rfl)); (case hp => exact (Reps.none _ _)); intro v434 w3 ho4 hb hg_ hnew_; clear hg_ hnew_; (first | rw [← Ny433.out] at ho4 | (simp only [Int.reduceToNat] at ho4; rw [← Ny433.out] at ho4)); have _ := Q_ (Kd.R_lower ho4 (below_size (pb_ HB.out))); have _ := Q_ (below_step (pb_ HB.out) hb); clear HB; rename_i HO435 HB; clear hb ho4))
 (try simp only [Act.put, List.setIfInBounds_toArray, List.set_cons_zero, List.set_cons_succ])
 go_loopg [5, 6] k (fun kq v5 v6 w' => ∃ (x5_1 : List Int) (x6_1 : Int), v6 = .int .i64 x6_1 ∧ Aside0 (spec_CommonOf.l0 kq l0 l1 x5_1 x6_1 = some r) ∧ Aside0 (kq ≤ k) ∧ Aside0 (Kd.R (Kd.int .i64) 3 w' w.heap.size (fun _ => True) v5 x5_1) ∧ Aside0 (Below w.heap.size w w'))
 case atStart => exact ⟨(y433), (0), el_, H', ⟨Nat.le_refl _⟩, ⟨pr_ HO435.out⟩, ⟨pb_ HB.out⟩⟩
 clear H'
 try clear c1
 try clear p2
 obtain ⟨x5_1, x6_1, rfl, HA, HK1, HO_5, HB⟩ := hrel
 rcases gk with _ | k1
 ·exact absurd HA.out (by simp [spec_CommonOf.l0])
 have H := HA.out
 clear HA
 simp only [spec_CommonOf.l0] at H
 by_cases c5 : x6_1 < (l0.length : Int)
 rotate_left
 ·rw [if_neg c5] at H
  have c5b0 : decide (x6_1 < (l0.length : Int)) = false := decide_eq_false c5
  clear c5
  obtain rfl := Option.some.inj H
  go_wp2
  go_ret
  exact ⟨_, er_, pr_ HO_5.out, pb_ HB.out⟩
 rw [if_pos c5] at H
 have c5b0 : decide (x6_1 < (l0.length : Int)) = true := decide_eq_true c5
 clear c5
 by_cases c6 : 0 ≤ x6_1
 rotate_left
 ·rw [if_neg c6] at H
  exact absurd H (by simp)
 rw [if_pos c6] at H
 have c6b0 : decide (0 ≤ x6_1) = true := decide_eq_true c6
 clear c6
 replace H := Option.bind_eq_some_iff.mp H
 obtain ⟨t437, A70, H⟩ := H
 (try dsimp only at H)
 have A7 := Q_ A70
 clear A70
 have HS_ := Q_ H
 clear H
 have p436 : 0 ≤ (x6_1 : Int) := dt_
 have q436 : x6_1 < (l0.length : Int) := dt_
 obtain ⟨ad436, e436, hx436_0⟩ := Kd.at_int HR0.out x6_1 p436 q436
 cases e436
 replace hx436_0 := bt_ HB hx436_0
 replace p436 := eq_true p436
 replace q436 := eq_true q436
 go_upto_if 19 with (first | ((with_reducible refine gate_callee (f := 74) rfl ?_); refine gl_ (some 19) Try.func74 #[.slice A1 l1.length c1, .int .i64 (rd l0 x6_1)] ?_; (with_reducible refine (spec_l9Has.calls k1 _ _ l1 (rd l0 x6_1) t437 _ ?side1 ?side2 A7.out).mono ?_); (case side1 => exact cb_ HR1 HB); (case side2 => exact HC1.out); rintro e w' ⟨rfl, ⟨nd, rfl⟩⟩; refine ⟨_, rfl, ?_⟩))
 (try simp only [Act.put, List.setIfInBounds_toArray, List.set_cons_zero, List.set_cons_succ])
 have H := HS_.out
 clear HS_
 by_cases c8 : t437 = true
 rotate_left
 ·replace c8 := bf_ c8
  subst c8
  rw [if_neg ff_] at H
  have H' := Q_ H
  clear H
  go_wp2
  go_roundg k1
  case measure => have := HK1.out; omega
  case rel => exact ⟨(x5_1), (wrap64 (x6_1 + 1)), el_, H', ⟨by have := HK1.out; omega⟩, ⟨pr_ HO_5.out⟩, ⟨pb_ HB.out⟩⟩
 subst c8
 rw [if_pos rfl] at H
 by_cases c9 : x5_1.length < 17592186044416
 rotate_left
 ·rw [if_neg c9] at H
  exact absurd H (by simp)
 rw [if_pos c9] at H
 have LMc9 := Q_ c9
 clear c9
 obtain ⟨y439, hy439⟩ : ∃ y_ : List Int, y_ = (x5_1 ++ [rd l0 x6_1]) := ⟨_, rfl⟩
 replace H : (spec_CommonOf.l0 k1 l0 l1 y439 (wrap64 (x6_1 + 1))) = some r := hb_ hy439 H
 have Ny439 := Q_ hy439
 clear hy439
 have H' := Q_ H
 clear H
 have p438 : 0 ≤ (x6_1 : Int) := dt_
 have q438 : x6_1 < (l0.length : Int) := dt_
 obtain ⟨ad438, e438, hx438_0⟩ := Kd.at_int HR0.out x6_1 p438 q438
 obtain rfl : ad436 = ad438 := (by injection e438)
 replace hx438_0 := bt_ HB hx438_0
 replace p438 := eq_true p438
 replace q438 := eq_true q438
 go_wp2_with (first | ((with_reducible refine gate_builtin (b := .append) (xs := #[.tmp 20, .tmp 25]) rfl ?_); at_builtin; refine Kd.R_append (Kd.int .i64) (w0 := w) w.heap.size rfl (.tmp 20) (.tmp 25) 25 3 (.int .i64 0) 8 rfl Try.underlying25 info3 rfl (by decide) (by omega) u5 x5_1 (rd l0 x6_1) [.int .i64 (rd l0 x6_1)] (fun _ => True) (fun _ => False) rfl rfl ?aP (fun _ hk => hk.elim) ?aF ?aO ?aB ?aS ?aL ?_; (case aP => exact rfl); (case aB => exact (pb_ HB.out)); (case aF => exact (fun _ _ => trivial)); (case aO => exact (pr_ HO_5.out)); (case aS => exact (below_size (pb_ HB.out))); (case aL => have := LMc9.out; omega); intro v440 w10 ho hb hg hat; rw [← Ny439.out] at ho; have _ := Q_ (hb); have _ := Q_ (ho); clear HB HO_5; rename_i HB HO441; clear ho hb hg hat))
 go_roundg k1
 case measure => have := HK1.out; omega
 case rel => exact ⟨(y439), (wrap64 (x6_1 + 1)), el_, H', ⟨by have := HK1.out; omega⟩, ⟨pr_ HO441.out⟩, ⟨pb_ HB.out⟩⟩

/-! ### spec_BestCommon: function 83 -/
def spec_BestCommon.f (k : Nat) (l0 : List Int) (l1 : List Int) : Option (Int) := (spec_CommonOf.f k l0 l1).bind fun t442 => ((spec_AreVersions.f k l0).bind fun t445 => (if t445 = true then ((spec_AreVersions.f k l1).bind fun t446 => (if t446 = true then (if (t442.length : Int) = 0 then (some 0) else (if 0 ≤ (wrap64 ((t442.length : Int) - 1)) then (if (wrap64 ((t442.length : Int) - 1)) < (t442.length : Int) then (some (rd t442 (wrap64 ((t442.length : Int) - 1)))) else (none)) else (none))) else (some 0))) else (some 0)))
theorem spec_BestCommon.mono : ∀ a0 a1 k, LeO (spec_BestCommon.f k a0 a1) (spec_BestCommon.f (k + 1) a0 a1) := by
 intro a0 a1 k
 unfold spec_BestCommon.f
 exact mo2_ spec_AreVersions.mono spec_CommonOf.mono
theorem spec_BestCommon.calls (k : Nat) (A0 : Option Addr) (c0 : Nat) (l0 : List Int) (A1 : Option Addr) (c1 : Nat) (l1 : List Int) (r : Int) (w : World) (hr0 : Kd.C (Kd.int .i64) w A0 l0.length l0) (hc0 : l0.length ≤ c0) (hr1 : Kd.C (Kd.int .i64) w A1 l1.length l1) (hc1 : l1.length ≤ c1) (h : spec_BestCommon.f k l0 l1 = some r) :
  Calls Try.prog 83 #[.slice A0 l0.length c0, .slice A1 l1.length c1] w fun e w' => e = .returned (.int .i64 r) ∧ Below w.heap.size w w' := by
 have HR0 := Q_ hr0
 have HC0 := Q_ hc0
 clear hr0 hc0
 have HR1 := Q_ hr1
 have HC1 := Q_ hc1
 clear hr1 hc1
 have HB := Q_ (Below.refl w.heap.size w)
 have H : ((spec_CommonOf.f k l0 l1).bind fun t442 => ((spec_AreVersions.f k l0).bind fun t445 => (if t445 = true then ((spec_AreVersions.f k l1).bind fun t446 => (if t446 = true then (if (t442.length : Int) = 0 then (some 0) else (if 0 ≤ (wrap64 ((t442.length : Int) - 1)) then (if (wrap64 ((t442.length : Int) - 1)) < (t442.length : Int) then (some (rd t442 (wrap64 ((t442.length : Int) - 1)))) else (none)) else (none))) else (some 0))) else (some 0)))) = some r := h
 clear h
 replace H := Option.bind_eq_some_iff.mp H
 obtain ⟨t442, A30, H⟩ := H
 (try dsimp only at H)
 have A3 := Q_ A30
 clear A30
 have HS_ := Q_ H
 clear H
 go_enter Try.func83, Try.ntmps83
 go_upto_region 2 with (first | ((with_reducible refine gate_callee (f := 99) rfl ?_); refine gl_ (some 8) Try.func99 #[.slice A0 l0.length c0, .slice A1 l1.length c1] ?_; (with_reducible refine (spec_CommonOf.calls k _ _ l0 _ _ l1 t442 _ ?side1 ?side2 ?side3 ?side4 A3.out).mono ?_); (case side1 => exact pc_ HR0.out); (case side2 => exact HC0.out); (case side3 => exact pc_ HR1.out); (case side4 => exact HC1.out); rintro e w4 ⟨v443, rfl, ho0, hb⟩; refine ⟨_, rfl, ?_⟩; have _ := Q_ (Kd.R_lower ho0 (below_size (pb_ HB.out))); have _ := Q_ (below_step (pb_ HB.out) hb); clear HB; rename_i HO444 HB; (try clear hb); (try clear hb2); (try clear hk); (try clear hi); (try clear ho0)))
 (try simp only [Act.put, List.setIfInBounds_toArray, List.set_cons_zero, List.set_cons_succ])
 have H := HS_.out
 clear HS_
 replace H := Option.bind_eq_some_iff.mp H
 obtain ⟨t445, A50, H⟩ := H
 (try dsimp only at H)
 have A5 := Q_ A50
 clear A50
 by_cases c6 : t445 = true
 rotate_left
 ·replace c6 := bf_ c6
  subst c6
  rw [if_neg ff_] at H
  obtain rfl := Option.some.inj H
  go_wp2_with (first | ((with_reducible refine gate_callee (f := 76) rfl ?_); refine gl_ (some 10) Try.func76 #[.slice A0 l0.length c0] ?_; (with_reducible refine (spec_AreVersions.calls k _ _ l0 false _ ?side1 ?side2 A5.out).mono ?_); (case side1 => exact cb_ HR0 HB); (case side2 => exact HC0.out); rintro e w' ⟨rfl, ⟨nd, rfl⟩⟩; refine ⟨_, rfl, ?_⟩))
  go_ret
  exact ⟨er_, pb_ HB.out⟩
 subst c6
 rw [if_pos rfl] at H
 replace H := Option.bind_eq_some_iff.mp H
 obtain ⟨t446, A70, H⟩ := H
 (try dsimp only at H)
 have A7 := Q_ A70
 clear A70
 by_cases c8 : t446 = true
 rotate_left
 ·replace c8 := bf_ c8
  subst c8
  rw [if_neg ff_] at H
  obtain rfl := Option.some.inj H
  go_wp2_with (first | ((with_reducible refine gate_callee (f := 76) rfl ?_); refine gl_ (some 10) Try.func76 #[.slice A0 l0.length c0] ?_; (with_reducible refine (spec_AreVersions.calls k _ _ l0 true _ ?side1 ?side2 A5.out).mono ?_); (case side1 => exact cb_ HR0 HB); (case side2 => exact HC0.out); rintro e w' ⟨rfl, ⟨nd, rfl⟩⟩; refine ⟨_, rfl, ?_⟩) | (go_at_call 76; (with_reducible refine (spec_AreVersions.calls k _ _ l1 false _ ?side1 ?side2 A7.out).mono ?_); (case side1 => exact pc_ (Kd.C_below HR1.out (pb_ HB.out))); (case side2 => exact HC1.out); rintro e w' ⟨rfl, ⟨nd, rfl⟩⟩))
  go_ret
  exact ⟨er_, pb_ HB.out⟩
 subst c8
 rw [if_pos rfl] at H
 have HS_ := Q_ H
 clear H
 go_upto_if 21 with (first | ((with_reducible refine gate_callee (f := 76) rfl ?_); refine gl_ (some 10) Try.func76 #[.slice A0 l0.length c0] ?_; (with_reducible refine (spec_AreVersions.calls k _ _ l0 true _ ?side1 ?side2 A5.out).mono ?_); (case side1 => exact cb_ HR0 HB); (case side2 => exact HC0.out); rintro e w' ⟨rfl, ⟨nd, rfl⟩⟩; refine ⟨_, rfl, ?_⟩) | (go_at_call 76; (with_reducible refine (spec_AreVersions.calls k _ _ l1 true _ ?side1 ?side2 A7.out).mono ?_); (case side1 => exact pc_ (Kd.C_below HR1.out (pb_ HB.out))); (case side2 => exact HC1.out); rintro e w' ⟨rfl, ⟨nd, rfl⟩⟩; obtain ⟨Ao9, co9, eo9⟩ := Kd.R_slice HO444.out; subst eo9))
 (try simp only [Act.put, List.setIfInBounds_toArray, List.set_cons_zero, List.set_cons_succ])
 have H := HS_.out
 clear HS_
 by_cases c10 : (t442.length : Int) = 0
 ·rw [if_pos c10] at H
  have c10b0 : ((t442.length : Int) == 0) = true := beq_iff_eq.mpr c10
  have c10b1 : ((t442.length : Int) != 0) = false := bne_eq_false_iff_eq.mpr c10
  clear c10
  (first | rw [c10b0] | (simp only [i64_w, i32_w]; rw [c10b0]) | rw [c10b1] | (have c_ := c10b1; rw [bne] at c_; rw [c_]; clear c_) | skip)
  obtain rfl := Option.some.inj H
  go_wp2
  go_ret
  exact ⟨er_, pb_ HB.out⟩
 rw [if_neg c10] at H
 have c10b0 : ((t442.length : Int) == 0) = false := beq_eq_false_iff_ne.mpr c10
 have c10b1 : ((t442.length : Int) != 0) = true := bne_iff_ne.mpr c10
 have c10b2 : ¬ (t442 = []) := fun h_ => c10 (by rw [h_]; rfl)
 (first | rw [c10b0] | (simp only [i64_w, i32_w]; rw [c10b0]) | rw [c10b1] | (have c_ := c10b1; rw [bne] at c_; rw [c_]; clear c_) | skip)
 obtain ⟨ji11, hji11⟩ : ∃ j_ : Int, (wrap64 ((t442.length : Int) - 1)) = j_ := ⟨_, rfl⟩
 replace H : (if 0 ≤ (ji11) then (if (ji11) < (t442.length : Int) then (some (rd t442 (ji11))) else (none)) else (none)) = some r := by first | (rw [hji11] at H; exact H) | (simp only [hji11] at H ⊢; exact H)
 have hji11w : (IntKind.i64.wrap ((t442.length : Int) - 1)) = ji11 := (i64_w _).trans hji11
 by_cases c12 : 0 ≤ (ji11)
 rotate_left
 ·rw [if_neg c12] at H
  exact absurd H (by simp)
 rw [if_pos c12] at H
 have c12b0 : decide (0 ≤ (ji11)) = true := decide_eq_true c12
 clear c12
 by_cases c13 : (ji11) < (t442.length : Int)
 rotate_left
 ·rw [if_neg c13] at H
  exact absurd H (by simp)
 rw [if_pos c13] at H
 have c13b0 : decide ((ji11) < (t442.length : Int)) = true := decide_eq_true c13
 clear c13
 obtain rfl := Option.some.inj H
 have p447 : 0 ≤ ((ji11) : Int) := dt_
 have q447 : (ji11) < (t442.length : Int) := dt_
 obtain ⟨ad447, e447, hx447_0⟩ := Kd.at_int (Kd.R_reads' HO444.out).2.2 (ji11) p447 q447
 cases e447
 replace p447 := eq_true p447
 replace q447 := eq_true q447
 go_wp2
 go_ret
 exact ⟨by first | rfl | (simp [errW_none, errW_some] <;> rfl) | (simp only [← hji11]; first | rfl | (simp [errW_none, errW_some] <;> rfl)) | (simp [*, errW_none, errW_some] <;> rfl), pb_ HB.out⟩

/-! ### spec_IsReserved: function 86 -/
def spec_IsReserved.f (a0 : Int) : Option (Bool) := (spec_l1In.f a0 0 255).bind fun t448 => (if t448 = true then (some ((Int.tmod a0 16) == 10)) else (some false))
theorem spec_IsReserved.calls (a0 : Int) (r : Bool) (w : World) (h : spec_IsReserved.f a0 = some r) :
  Calls Try.prog 86 #[.int .i64 a0] w fun e w' => e = .returned (.bool r) ∧ Drawn0 w w' := by
 have H : ((spec_l1In.f a0 0 255).bind fun t448 => (if t448 = true then (some ((Int.tmod a0 16) == 10)) else (some false))) = some r := h
 clear h
 replace H := Option.bind_eq_some_iff.mp H
 obtain ⟨t448, A20, H⟩ := H
 (try dsimp only at H)
 have A2 := Q_ A20
 clear A20
 by_cases c3 : t448 = true
 rotate_left
 ·replace c3 := bf_ c3
  subst c3
  rw [if_neg ff_] at H
  obtain rfl := Option.some.inj H
  go_enter Try.func86, Try.ntmps86
  go_wp2_with (first | ((with_reducible refine gate_callee (f := 72) rfl ?_); refine gl_ (some 4) Try.func72 #[.int .i64 a0, .int .i64 0, .int .i64 255] ?_; (with_reducible refine (spec_l1In.calls a0 0 255 false _ A2.out).mono ?_); rintro e w' ⟨rfl, ⟨nd, rfl⟩⟩; refine ⟨_, rfl, ?_⟩))
  go_ret
  exact ⟨by first | rfl | (simp; done) | (simp [*]; done), by repeat (first | exact Drawn0.refl _ | apply Drawn0.step)⟩
 subst c3
 rw [if_pos rfl] at H
 obtain rfl := Option.some.inj H
 go_enter Try.func86, Try.ntmps86
 go_wp2_with (first | ((with_reducible refine gate_callee (f := 72) rfl ?_); refine gl_ (some 4) Try.func72 #[.int .i64 a0, .int .i64 0, .int .i64 255] ?_; (with_reducible refine (spec_l1In.calls a0 0 255 true _ A2.out).mono ?_); rintro e w' ⟨rfl, ⟨nd, rfl⟩⟩; refine ⟨_, rfl, ?_⟩))
 go_ret
 exact ⟨by first | rfl | (simp; done) | (simp [*]; done), by repeat (first | exact Drawn0.refl _ | apply Drawn0.step)⟩

/-! ### spec_StripGrease: function 84 -/
def spec_StripGrease.l0 : Nat → List (S113) → List (S113) → Int → Option ((List (S113)))
 | 0, _, _, _ => none
 | k + 1, x0, x3, x4 => if x4 < (x0.length : Int) then (if 0 ≤ x4 then ((spec_IsReserved.f ((rd_T113 x0 x4).f0)).bind fun t453 => (if t453 = true then (spec_StripGrease.l0 k x0 x3 (wrap64 (x4 + 1))) else ((some (([] : List Int) : List Int)).bind fun y455 => (if y455.length + ((rd_T113 x0 x4).f1).length < 17592186044416 then (if x3.length < 4398046511104 then (spec_StripGrease.l0 k x0 (x3 ++ [(⟨(rd_T113 x0 x4).f0, (y455 ++ ((rd_T113 x0 x4).f1))⟩ : S113)]) (wrap64 (x4 + 1))) else (none)) else (none))))) else (none)) else (some x3)
def spec_StripGrease.f (k : Nat) (l0 : List (S113)) : Option ((List (S113))) := spec_StripGrease.l0 k l0 (([] : List (S113))) 0
theorem spec_StripGrease.mono_l : ∀ k, (∀ y0 y1 y2, LeO (spec_StripGrease.l0 k y0 y1 y2) (spec_StripGrease.l0 (k + 1) y0 y1 y2))
 | 0 => fun _ _ _ r h => by simp [spec_StripGrease.l0] at h
 | k + 1 => by
  have ih0 := spec_StripGrease.mono_l k
  ·intro y0 y1 y2
   unfold spec_StripGrease.l0
   exact mo1_ ih0
theorem spec_StripGrease.mono : ∀ a0 k, LeO (spec_StripGrease.f k a0) (spec_StripGrease.f (k + 1) a0) := by
 intro a0 k
 have ih0 := spec_StripGrease.mono_l k
 unfold spec_StripGrease.f
 exact mo1_ ih0
def spec_StripGrease.T6 : Bool × List (List Nat × List Nat) := (true, [([], []), ([], []), ([], []), ([1, 2], [1, 2]), ([3], [3]), ([4], [4]), ([], []), ([], []), ([], []), ([7, 8], [7, 8]), ([9], [9]), ([10], [10]), ([6, 11], [6, 11]), ([5, 12], [5, 12]), ([13], [13]), ([0, 14, 12], [0, 14]), ([15, 15, 0, 1, 2, 3, 4, 5, 6, 7, 8, 9, 10, 11, 12, 13, 14, 15], [0, 15])])
def spec_StripGrease.B6 : List Nat := [0, 0, 0, 6, 14, 30, 0, 0, 0, 384, 896, 1920, 4032, 8190, 16382, 32767, 65535]
theorem spec_StripGrease.tab6 : rtab .any (opsOf Try.f84 6) = spec_StripGrease.T6 := by kernel_rfl
theorem spec_StripGrease.bits6 : waitsOk spec_StripGrease.T6.2 spec_StripGrease.B6 = true := by kernel_rfl
theorem spec_StripGrease.calls (k : Nat) (A0 : Option Addr) (c0 : Nat) (l0 : List (S113)) (r : List (S113)) (w : World) (hr0 : Kd.C k113 w A0 l0.length l0) (hc0 : l0.length ≤ c0) (h : spec_StripGrease.f k l0 = some r) :
  Calls Try.prog 84 #[.slice A0 l0.length c0] w fun e w' => ∃ v0_ : Value, e = .returned (v0_) ∧ Kd.S k113 113 w' w.heap.size (fun _ => True) v0_ r ∧ Below w.heap.size w w' := by
 have hu113 := Try.underlying113
 have HR0 := Q_ hr0
 have HC0 := Q_ hc0
 clear hr0 hc0
 have HB := Q_ (Below.refl w.heap.size w)
 have H : (spec_StripGrease.l0 k l0 (([] : List (S113))) 0) = some r := h
 clear h
 obtain ⟨y449, hy449⟩ : ∃ y_ : List (S113), y_ = (([] : List (S113))) := ⟨_, rfl⟩
 replace H : (spec_StripGrease.l0 k l0 y449 0) = some r := hb_ hy449 H
 have Ny449 := Q_ hy449
 clear hy449
 have H' := Q_ H
 clear H
 go_enter Try.func84, Try.ntmps84
 go_wp2_with (first | ((with_reducible refine gate_dst (N := 5) rfl ?_); refine Kd.S_lit k113 _ 113 ?hg (N := 5) ?hd (xs := ([] : List (S113))) (inner := []) (ok := fun _ => True) (okp := fun _ => True) ?hr ?hp (fun _ hk => hk) trivial (Below.refl _ _) (Nat.le_refl _) (by simp) ?_; (case hd => rfl); (case hg => rfl); (case hr => first | (go_simp; done) | (go_simp; rfl)); (case hp => exact (Reps.none _ _)); intro v450 w2 ho3 hb hg_ hnew_; clear hg_ hnew_; (first | rw [← Ny449.out] at ho3 | (simp only [Int.reduceToNat] at ho3; rw [← Ny449.out] at ho3)); have _ := Q_ (Kd.S_lower ho3 (below_size (pb_ HB.out))); have _ := Q_ (below_step (pb_ HB.out) hb); clear HB; rename_i HO451 HB; clear hb ho3))
 (try simp only [Act.put, List.setIfInBounds_toArray, List.set_cons_zero, List.set_cons_succ])
 go_loopg [3, 4] k (fun kq v3 v4 w' => ∃ (x3_1 : List (S113)) (x4_1 : Int), v4 = .int .i64 x4_1 ∧ Aside0 (spec_StripGrease.l0 kq l0 x3_1 x4_1 = some r) ∧ Aside0 (kq ≤ k) ∧ Aside0 (Kd.S k113 113 w' w.heap.size (fun _ => True) v3 x3_1) ∧ Aside0 (Below w.heap.size w w'))
 case atStart => exact ⟨(y449), (0), el_, H', ⟨Nat.le_refl _⟩, ⟨ps_ HO451.out⟩, ⟨pb_ HB.out⟩⟩
 clear H'
 try clear p2
 obtain ⟨x3_1, x4_1, rfl, HA, HK1, HO_3, HB⟩ := hrel
 rcases gk with _ | k1
 ·exact absurd HA.out (by simp [spec_StripGrease.l0])
 have H := HA.out
 clear HA
 simp only [spec_StripGrease.l0] at H
 by_cases c4 : x4_1 < (l0.length : Int)
 rotate_left
 ·rw [if_neg c4] at H
  have c4b0 : decide (x4_1 < (l0.length : Int)) = false := decide_eq_false c4
  clear c4
  obtain rfl := Option.some.inj H
  go_wp2
  go_ret
  exact ⟨_, er_, ps_ HO_3.out, pb_ HB.out⟩
 rw [if_pos c4] at H
 have c4b0 : decide (x4_1 < (l0.length : Int)) = true := decide_eq_true c4
 clear c4
 by_cases c5 : 0 ≤ x4_1
 rotate_left
 ·rw [if_neg c5] at H
  exact absurd H (by simp)
 rw [if_pos c5] at H
 have c5b0 : decide (0 ≤ x4_1) = true := decide_eq_true c5
 clear c5
 replace H := Option.bind_eq_some_iff.mp H
 obtain ⟨t453, A60, H⟩ := H
 (try dsimp only at H)
 have A6 := Q_ A60
 clear A60
 have HS_ := Q_ H
 clear H
 have p452 : 0 ≤ (x4_1 : Int) := dt_
 have q452 : x4_1 < (l0.length : Int) := dt_
 obtain ⟨ad452, A452_1, c452_1, e452, hx452_0, hx452_1, hl452_1, hi452_1⟩ := at_T113 HR0.out x4_1 p452 q452
 cases e452
 replace hx452_0 := bt_ HB hx452_0
 replace hx452_1 := bt_ HB hx452_1
 have HR452_1 := Q_ hi452_1
 have HC452_1 := Q_ hl452_1
 clear hi452_1 hl452_1
 replace p452 := eq_true p452
 replace q452 := eq_true q452
 go_upto_if 18 with (first | ((with_reducible refine gate_callee (f := 86) rfl ?_); refine gl_ (some 17) Try.func86 #[.int .i64 ((rd_T113 l0 x4_1).f0)] ?_; (with_reducible refine (spec_IsReserved.calls ((rd_T113 l0 x4_1).f0) t453 _ A6.out).mono ?_); rintro e w' ⟨rfl, ⟨nd, rfl⟩⟩; refine ⟨_, rfl, ?_⟩))
 (try simp only [Act.put, List.setIfInBounds_toArray, List.set_cons_zero, List.set_cons_succ])
 have H := HS_.out
 clear HS_
 by_cases c7 : t453 = true
 ·subst c7
  rw [if_pos rfl] at H
  have H' := Q_ H
  clear H
  go_wp2
  go_roundg k1
  case measure => have := HK1.out; omega
  case rel => exact ⟨(x3_1), (wrap64 (x4_1 + 1)), el_, H', ⟨by have := HK1.out; omega⟩, ⟨ps_ HO_3.out⟩, ⟨pb_ HB.out⟩⟩
 replace c7 := bf_ c7
 subst c7
 rw [if_neg ff_] at H
 obtain ⟨y455, hy455⟩ : ∃ y_ : List Int, y_ = (([] : List Int)) := ⟨_, rfl⟩
 replace H : (if y455.length + ((rd_T113 l0 x4_1).f1).length < 17592186044416 then (if x3_1.length < 4398046511104 then (spec_StripGrease.l0 k1 l0 (x3_1 ++ [(⟨(rd_T113 l0 x4_1).f0, (y455 ++ ((rd_T113 l0 x4_1).f1))⟩ : S113)]) (wrap64 (x4_1 + 1))) else (none)) else (none)) = some r := hb_ hy455 H
 have Ny455 := Q_ hy455
 clear hy455
 by_cases c8 : y455.length + ((rd_T113 l0 x4_1).f1).length < 17592186044416
 rotate_left
 ·rw [if_neg c8] at H
  exact absurd H (by simp)
 rw [if_pos c8] at H
 have LMc8 := Q_ c8
 clear c8
 obtain ⟨y459, hy459⟩ : ∃ y_ : List Int, y_ = (y455 ++ ((rd_T113 l0 x4_1).f1)) := ⟨_, rfl⟩
 replace H : (if x3_1.length < 4398046511104 then (spec_StripGrease.l0 k1 l0 (x3_1 ++ [(⟨(rd_T113 l0 x4_1).f0, y459⟩ : S113)]) (wrap64 (x4_1 + 1))) else (none)) = some r := hb_ hy459 H
 have Ny459 := Q_ hy459
 clear hy459
 by_cases c9 : x3_1.length < 4398046511104
 rotate_left
 ·rw [if_neg c9] at H
  exact absurd H (by simp)
 rw [if_pos c9] at H
 have LMc9 := Q_ c9
 clear c9
 obtain ⟨y462, hy462⟩ : ∃ y_ : List (S113), y_ = (x3_1 ++ [(⟨(rd_T113 l0 x4_1).f0, y459⟩ : S113)]) := ⟨_, rfl⟩
 replace H : (spec_StripGrease.l0 k1 l0 y462 (wrap64 (x4_1 + 1))) = some r := hb_ hy462 H
 have Ny462 := Q_ hy462
 clear hy462
 have H' := Q_ H
 clear H
 try go_wp2
 (try (rw [drewN_self wr]; generalize hq_ : World.drewN wr _ = wr; have n0_ : Aside0 (Kd.S k113 113 wr w.heap.size (fun _ => True) u3 x3_1) := ⟨by rw [← hq_]; exact (ps_ HO_3.out)⟩; have n1_ : Aside0 (Below w.heap.size w wr) := ⟨by rw [← hq_]; exact (pb_ HB.out)⟩; clear HO_3 HB hq_; have HO_3 := n0_; have HB := n1_; clear n0_ n1_))
 have _ := Q_ (Kd.S_drew HO_3.out)
 have _ := Q_ (below_drew1 HB.out)
 clear HO_3 HB
 rename_i HO_3 HB
 have p454 : 0 ≤ (x4_1 : Int) := dt_
 have q454 : x4_1 < (l0.length : Int) := dt_
 obtain ⟨ad454, A454_1, c454_1, e454, hx454_0, hx454_1, hl454_1, hi454_1⟩ := at_T113 HR0.out x4_1 p454 q454
 have hw454_1 := hx454_1
 have hw454_0 := hx454_0
 obtain rfl : ad452 = ad454 := (by injection e454)
 replace hx454_0 := bt_ HB hx454_0
 replace hx454_1 := bt_ HB hx454_1
 have HR454_1 := Q_ hi454_1
 have HC454_1 := Q_ hl454_1
 clear hi454_1 hl454_1
 replace p454 := eq_true p454
 replace q454 := eq_true q454
 have p458 : 0 ≤ (x4_1 : Int) := dt_
 have q458 : x4_1 < (l0.length : Int) := dt_
 obtain ⟨ad458, A458_1, c458_1, e458, hx458_0, hx458_1, hl458_1, hi458_1⟩ := at_T113 HR0.out x4_1 p458 q458
 have hw458_1 := hx458_1
 have hw458_0 := hx458_0
 obtain rfl : ad452 = ad458 := (by injection e458)
 replace hx458_0 := bt_ HB hx458_0
 replace hx458_1 := bt_ HB hx458_1
 have HR458_1 := Q_ hi458_1
 have HC458_1 := Q_ hl458_1
 clear hi458_1 hl458_1
 replace p458 := eq_true p458
 replace q458 := eq_true q458
 have ea_ := Option.some.inj (hx454_1.symm.trans hx458_1)
 injection ea_ with ea_ en_ ec_
 subst ea_
 subst ec_
 clear en_
 refine start_ (n := 17) (S := fun w' => w'.cell? (ad452.add ((x4_1).toNat * 2)) = some (.int .i64 ((rd_T113 l0 x4_1).f0)) ∧ w'.cell? ⟨(ad452.add ((x4_1).toNat * 2)).block, (ad452.add ((x4_1).toNat * 2)).off + 1, none⟩ = some (.slice A454_1 ((rd_T113 l0 x4_1).f1).length c454_1) ∧ w'.cell? (ad452.add ((x4_1).toNat * 2)) = some (.int .i64 ((rd_T113 l0 x4_1).f0)) ∧ w'.cell? ⟨(ad452.add ((x4_1).toNat * 2)).block, (ad452.add ((x4_1).toNat * 2)).off + 1, none⟩ = some (.slice A454_1 ((rd_T113 l0 x4_1).f1).length c454_1)) (ds := []) (tf_ 0 17) (by kernel_rfl) rfl rfl ⟨(bt_ HB hw454_0), (bt_ HB hw454_1), (bt_ HB hw458_0), (bt_ HB hw458_1)⟩ (fun hHeld => ?_); refine with_tabW spec_StripGrease.tab6 spec_StripGrease.bits6 (fun HT_ HW_ => ?_)
 generalize wr.drew = w10 at HO_3 HB HR454_1 HR458_1 hx454_0 hx454_1 hx458_0 hx458_1 hHeld ⊢
 refine pu_ 0 (some 19) (tf_ 1 17) HT_ ?_
 refine pu_ 1 (some 20) (tf_ 2 17) HT_ ?_
 refine pu_ 2 (some 21) (tf_ 3 17) HT_ ?_
 refine pu_ 3 (some 22) (tf_ 4 17) HT_ ?_
 refine pu_ 4 (some 23) (tf_ 5 17) HT_ ?_
 refine pu_ 7 (some 26) (tm_ 17 159) HT_ ?_
 refine pu_ 8 (some 27) (tm_ 17 415) HT_ ?_
 refine pu_ 9 (some 28) (tm_ 17 927) HT_ ?_
 refine pu_ 10 (some 29) (tm_ 17 1951) HT_ ?_
 refine ta_ 5 (some 24) (tm_ 17 1983) HT_ HW_ hHeld ?_
 refine ta_ 11 (some 30) (tm_ 17 4031) HT_ HW_ hHeld ?_
 refine on_ 6 (some 25) (tf_ 12 17) HT_ (fun K hK => ?_)
 refine Kd.R_lit_step (Kd.int .i64) _ 3 ?hg (N := 25) ?hd (xs := ([] : List Int)) (inner := []) (ok := fun _ => True) (okp := fun _ => True) ?hr ?hp (fun _ hk => hk) trivial (Below.refl _ _) (Nat.le_refl _) (by simp) ?_; (case hd => rfl); (case hg => rfl); (case hr => first | (go_simp; done) | (go_simp; rfl)); (case hp => exact (Reps.none _ _))
 intro v456 w11 ho12 hb hg_ hnew_
 clear hg_ hnew_
 (first | rw [← Ny455.out] at ho12 | (simp only [Int.reduceToNat] at ho12; rw [← Ny455.out] at ho12))
 have _ := Q_ (Kd.S_elder' (ps_ HO_3.out) (Kd.R_base ho12) hb)
 have _ := Q_ (Kd.R_lower ho12 (below_size (pb_ HB.out)))
 have _ := Q_ (below_step (pb_ HB.out) hb)
 clear HO_3 HB
 rename_i HO_3 HO457 HB
 clear hb ho12
 refine hK.out _ _ ⟨(bt_ HB hw454_0), (bt_ HB hw454_1), (bt_ HB hw458_0), (bt_ HB hw458_1)⟩ (fun hHeld => ?_)
 clear hK K
 refine no_ (some 25) ?_
 refine on_ 12 (some 31) (tf_ 13 17) HT_ (fun K hK => ?_)
 refine Kd.R_append_rows_step (Kd.int .i64) (w0 := w) w.heap.size (by rfl) (.tmp 25) (.tmp 30) 25 3 (.int .i64 0) 8 rfl Try.underlying25 info3 rfl (by decide) (by omega) v456 y455 ((rd_T113 l0 x4_1).f1) _ _ _ (fun _ => True) (fun _ => False) rfl rfl ?aO ?aR (fun _ _ h => h) (fun _ h => h.elim) ?aF ?aB ?aS ?aL ?_
 (case aR => exact cb_ HR458_1 HB)
 (case aB => exact (pb_ HB.out))
 (case aF => exact (fun _ _ => trivial))
 (case aO => exact (pr_ HO457.out))
 (case aS => exact (below_size (pb_ HB.out)))
 (case aL => have := LMc8.out; omega)
 intro v460 w13 ho hb hg hat
 rw [← Ny459.out] at ho
 have _ := Q_ (Kd.S_after (ok := (fun _ => True)) (ps_ HO_3.out) hg hat)
 have _ := Q_ (hb)
 have _ := Q_ (ho)
 clear HO_3 HB HO457
 rename_i HO_3 HB HO461
 clear ho hb hg hat
 obtain ⟨Ao14, co14, eo14⟩ := Kd.R_slice HO461.out
 (first | subst eo14 | (injection eo14 with f1_ f2_ f3_; have f4_ := f1_.symm; have f5_ := f3_.symm; clear f1_ f2_ f3_; subst f4_; subst f5_))
 refine hK.out _ _ ⟨(bt_ HB hw454_0), (bt_ HB hw454_1), (bt_ HB hw458_0), (bt_ HB hw458_1)⟩ (fun hHeld => ?_)
 clear hK K
 refine no_ (some 31) ?_
 refine pu_ 13 (some 32) (tf_ 14 17) HT_ ?_
 refine on_ 14 (some 33) (tf_ 15 17) HT_ (fun K hK => ?_)
 refine value_ (w1 := ?_) (v := ?_) (by rfl) rfl ?_ ?_
 rotate_left 2
 ·go_simp
  constructor
  ·rfl
  ·rfl
 refine hK.out _ _ ⟨(World.cell?_alloc_lt _ _ _ (World.block_lt_of_cell? _ _ ((bt_ HB hw454_0)))).trans ((bt_ HB hw454_0)), (World.cell?_alloc_lt _ _ _ (World.block_lt_of_cell? _ _ ((bt_ HB hw454_1)))).trans ((bt_ HB hw454_1)), (World.cell?_alloc_lt _ _ _ (World.block_lt_of_cell? _ _ ((bt_ HB hw458_0)))).trans ((bt_ HB hw458_0)), (World.cell?_alloc_lt _ _ _ (World.block_lt_of_cell? _ _ ((bt_ HB hw458_1)))).trans ((bt_ HB hw458_1))⟩ (fun hHeld => ?_)
 clear hK K
 refine no_ (some 33) ?_
 refine on_ 15 (some 34) (tf_ 16 17) HT_ (fun K hK => ?_)
 refine Kd.S_append_step k113 (w0 := w) w.heap.size (by rfl) (.tmp 19) (.tmp 33) 69 113 (.agg #[(.int .i64 0), (.slice none 0 0)]) 32 rfl Try.underlying69 info113 rfl (by decide) (by omega) u3 x3_1 (⟨(rd_T113 l0 x4_1).f0, y459⟩ : S113) [.int .i64 ((rd_T113 l0 x4_1).f0), .slice Ao14 y459.length co14] (fun _ => True) (fun k_ => some k_ = (.slice Ao14 y459.length co14 : Value).ownBlock) rfl rfl ?aP (fun k_ hk_ => ((Kd.R_mono (ok' := fun k_ => ((fun _ => True)) k_ ∧ some k_ ≠ (u3 : Value).ownBlock) (Kd.R_apart' (HO461.out) (Kd.S_typed HO_3.out) (by decide)) (fun k_ hk => ⟨trivial, hk.2⟩))).1 k_ hk_.symm) ?aF ?aO ?aB ?aS ?aL ?_
 (case aP => exact k113_mkM _ _ _ (⟨(rd_T113 l0 x4_1).f0, y459⟩ : S113) (Kd.R_mono (Kd.R_tight rfl (Kd.R_mono (ok' := fun k_ => ((fun _ => True)) k_ ∧ some k_ ≠ (u3 : Value).ownBlock) (Kd.R_apart' (HO461.out) (Kd.S_typed HO_3.out) (by decide)) (fun k_ hk => ⟨trivial, hk.2⟩))) (fun _ h_ => h_)))
 (case aB => exact (pb_ HB.out))
 (case aF => exact (fun _ _ => trivial))
 (case aO => exact (by (with_reducible repeat (first | apply Kd.S_alloc | apply Kd.S_drewN | apply Kd.S_drew)); exact Kd.S_mono HO_3.out (fun k_ hk => ⟨trivial, fun e_ => hk.2 e_⟩)))
 (case aS => exact (below_size (pb_ HB.out)))
 (case aL => have := LMc9.out; omega)
 intro v463 w15 ho hb hg hat
 rw [← Ny462.out] at ho
 have _ := Q_ (hb)
 have _ := Q_ (ho)
 clear HB HO_3 HO461
 rename_i HB HO464
 clear ho hb hg hat
 refine hK.out _ _ ⟨(bt_ HB hw454_0), (bt_ HB hw454_1), (bt_ HB hw458_0), (bt_ HB hw458_1)⟩ (fun hHeld => ?_)
 clear hK K
 refine no_ (some 34) ?_
 refine pu_ 16 (some 3) (tf_ 17 17) HT_ ?_
 refine done_ (done_of HT_.out (by kernel_rfl)) ?_
 try go_wp2
 go_roundg k1
 case measure => have := HK1.out; omega
 case rel => exact ⟨(y462), (wrap64 (x4_1 + 1)), el_, H', ⟨by have := HK1.out; omega⟩, ⟨ps_ HO464.out⟩, ⟨pb_ HB.out⟩⟩

end Go.Proofs.Ytlcpaebidnaolaa.Print
