-- Written by a program of this session (printx.py) out of the translation; Lean checks it.
import Derived.Test.YtlcpaebidnaolaaPrint0
import Derived.Test.YtlcpaebidnaolaaPrint3
import Derived.Test.YtlcpaebidnaolaaPrint4
import Derived.Test.YtlcpaebidnaolaaPrint5
namespace Go.Proofs.Ytlcpaebidnaolaa.Print
open Go.RowKit Go.Proofs.YtlcpaebidnaolaaW.PrintWords Go.Proofs.YtlcpaebidnaolaaW.PrintLast Go.Proofs.YtlcpaebidnaolaaW.PrintMore Go.Proofs.Ytlcpaebidnaolaa.Short
attribute [local go_sem] max2_int min2_int max_two min_two max_three min_three max_four min_four   -- for this text's walks alone
set_option linter.unusedVariables false
set_option maxHeartbeats 8000000
set_option maxRecDepth 100000
set_option linter.unusedSimpArgs false

/-! ### spec_PassPath: function 63 -/
mutual
def spec_PassPath.j0 : Nat → List (S89) → Bool → List Int → List (S113) → Option (List Int × (List (S113)) × Bool)
 | 0, _, _, _, _ => none
 | k + 1, x0, x17, x257000, x257001 => if x17 = true then (some (([] : List Int), ([] : List (S113)), false)) else ((spec_l18Hello.f k x257000 x257001).bind fun bt259 => (spec_PassPath.l0 k x0 0 bt259.1 bt259.2))
def spec_PassPath.l0 : Nat → List (S89) → Int → List Int → List (S113) → Option (List Int × (List (S113)) × Bool)
 | 0, _, _, _, _ => none
 | k + 1, x0, x7, x266000, x266001 => if x7 < (x0.length : Int) then (if 0 ≤ x7 then ((spec_PassBox.f k ((rd_T89 x0 x7).f0) ((rd_T89 x0 x7).f1) ((rd_T89 x0 x7).f2) ((rd_T89 x0 x7).f3) x266000 x266001).bind fun bt267 => (if bt267.2.2 = true then (spec_PassPath.l0 k x0 (wrap64 (x7 + 1)) bt267.1 bt267.2.1) else (some (([] : List Int), ([] : List (S113)), false)))) else (none)) else (some (x266000, x266001, true))
end
def spec_PassPath.f (k : Nat) (l0 : List (S89)) (l1_0 : List Int) (l1_1 : List (S113)) : Option (List Int × (List (S113)) × Bool) := if (l0.length : Int) > 4 then (spec_PassPath.j0 k l0 true l1_0 l1_1) else ((spec_IsHello.f k l1_0 l1_1).bind fun t258 => (spec_PassPath.j0 k l0 (!t258) l1_0 l1_1))
theorem spec_PassPath.mono_l : ∀ k, (∀ y0 y1 y2 y3, LeO (spec_PassPath.j0 k y0 y1 y2 y3) (spec_PassPath.j0 (k + 1) y0 y1 y2 y3)) ∧ (∀ y0 y1 y2 y3, LeO (spec_PassPath.l0 k y0 y1 y2 y3) (spec_PassPath.l0 (k + 1) y0 y1 y2 y3))
 | 0 => ⟨fun _ _ _ _ r h => by simp [spec_PassPath.j0] at h, fun _ _ _ _ r h => by simp [spec_PassPath.l0] at h⟩
 | k + 1 => by
  obtain ⟨ih0, ih1⟩ := spec_PassPath.mono_l k
  refine ⟨?_, ?_⟩
  ·intro y0 y1 y2 y3
   unfold spec_PassPath.j0
   exact mo5_ ih0 ih1 spec_IsHello.mono spec_PassBox.mono spec_l18Hello.mono
  ·intro y0 y1 y2 y3
   unfold spec_PassPath.l0
   exact mo5_ ih0 ih1 spec_IsHello.mono spec_PassBox.mono spec_l18Hello.mono
theorem spec_PassPath.mono : ∀ a0 a1 a2 k, LeO (spec_PassPath.f k a0 a1 a2) (spec_PassPath.f (k + 1) a0 a1 a2) := by
 intro a0 a1 a2 k
 obtain ⟨ih0, ih1⟩ := spec_PassPath.mono_l k
 unfold spec_PassPath.f
 exact mo5_ ih0 ih1 spec_IsHello.mono spec_PassBox.mono spec_l18Hello.mono
def spec_PassPath.T7 : Bool × List (List Nat × List Nat) := (true, [([], []), ([], []), ([0, 1], [0, 1]), ([2], [2]), ([], []), ([3, 4], [3, 4]), ([5], [5]), ([6], [6]), ([6], [6]), ([], []), ([9, 7, 5, 0, 1, 2, 3, 4, 5, 6, 7, 9], [7, 9]), ([8, 10, 0, 1, 2, 3, 4, 5, 6, 7, 8, 9, 10], [8])])
def spec_PassPath.B7 : List Nat := [0, 0, 3, 7, 0, 31, 63, 127, 127, 0, 767, 2047]
theorem spec_PassPath.tab7 : rtab .any (opsOf Try.f63 7) = spec_PassPath.T7 := by kernel_rfl
theorem spec_PassPath.bits7 : waitsOk spec_PassPath.T7.2 spec_PassPath.B7 = true := by kernel_rfl
theorem spec_PassPath.calls (k : Nat) (A0 : Option Addr) (c0 : Nat) (l0 : List (S89)) (A1_0 : Option Addr) (c1_0 : Nat) (l1_0 : List Int) (A1_1 : Option Addr) (c1_1 : Nat) (l1_1 : List (S113)) (r1 : List Int) (r2 : List (S113)) (r3 : Bool) (w : World) (hr0 : Kd.C k89 w A0 l0.length l0) (hc0 : l0.length ≤ c0) (hr1_0 : Kd.C (Kd.int .i64) w A1_0 l1_0.length l1_0) (hc1_0 : l1_0.length ≤ c1_0) (hr1_1 : Kd.C k113 w A1_1 l1_1.length l1_1) (hc1_1 : l1_1.length ≤ c1_1) (h : spec_PassPath.f k l0 l1_0 l1_1 = some (r1, r2, r3)) :
  Calls Try.prog 63 #[.slice A0 l0.length c0, .agg #[.slice A1_0 l1_0.length c1_0, .slice A1_1 l1_1.length c1_1]] w fun e w' => ∃ v0_ v1_ : Value, e = .returned (.tuple #[.agg #[v0_, v1_], .bool r3]) ∧ Kd.R (Kd.int .i64) 3 w' w.heap.size (fun _ => True) v0_ r1 ∧ Kd.S k113 113 w' w.heap.size (fun k_ => some k_ ≠ (v0_ : Value).ownBlock) v1_ r2 ∧ Below w.heap.size w w' := by
 have hu71 := Try.underlying71
 have hu89 := Try.underlying89
 have HR0 := Q_ hr0
 have HC0 := Q_ hc0
 clear hr0 hc0
 have HR1_0 := Q_ hr1_0
 have HC1_0 := Q_ hc1_0
 clear hr1_0 hc1_0
 have HR1_1 := Q_ hr1_1
 have HC1_1 := Q_ hc1_1
 clear hr1_1 hc1_1
 have HB := Q_ (Below.refl w.heap.size w)
 have H : (if (l0.length : Int) > 4 then (spec_PassPath.j0 k l0 true l1_0 l1_1) else ((spec_IsHello.f k l1_0 l1_1).bind fun t258 => (spec_PassPath.j0 k l0 (!t258) l1_0 l1_1))) = some (r1, r2, r3) := h
 clear h
 have HC3 := Q_ H
 clear H
 go_enter Try.func63, Try.ntmps63
 go_upto_region 1 with (first | ((with_reducible refine gate_dst (N := 3) rfl ?_); refine box_event ?hg (N := 3) ?hd (cs := #[.slice A1_0 l1_0.length c1_0, .slice A1_1 l1_1.length c1_1]) (t := 71) ?hr ?_; (case hd => rfl); (case hg => rfl); (case hr => first | (go_simp; done) | (go_simp; rfl)); intro gb256 hg w4 hbox hb; have _ := Q_ (below_step (pb_ HB.out) hb); have BK256 := Q_ (hbox); have GW256 := Q_ ((by rw [hg]; exact (below_size (pb_ HB.out)) : w.heap.size ≤ gb256)); have GE256 := GW256; clear HB; rename_i HB; clear hb hbox hg) | ((with_reducible refine gate_dst (N := 4) rfl ?_); refine box_event ?hg (N := 4) ?hd (cs := #[.slice none 0 0, .slice none 0 0]) (t := 71) ?hr ?_; (case hd => rfl); (case hg => rfl); (case hr => first | (go_simp; done) | (go_simp; rfl)); intro gb257 hg w5 hbox hb; have _ := Q_ (bb_ BK256.out hb); have _ := Q_ (below_step (pb1_ HB.out GE256.out) hb); have BK257 := Q_ (hbox); have GW257 := Q_ ((by rw [hg]; exact (below_size (pb1_ HB.out GE256.out)) : w.heap.size ≤ gb257)); have GE257 := GW257; have NB256_257 := Q_ ((by rw [hg]; exact Nat.ne_of_lt (blk_lt (pk_ BK256.out)) : gb256 ≠ gb257)); have NB257_256 := Q_ NB256_257.out.symm; clear BK256 HB; rename_i BK256 HB; clear hb hbox hg))
 (try simp only [Act.put, List.setIfInBounds_toArray, List.set_cons_zero, List.set_cons_succ])
 go_cut [17] (fun v17 wc => ∃ (kq : Nat) (x17_2 : Bool), v17 = .bool x17_2 ∧ Aside0 (spec_PassPath.j0 kq l0 x17_2 l1_0 l1_1 = some (r1, r2, r3)) ∧ Aside0 (kq ≤ k) ∧ Aside0 (wc.heap[gb256]? = some (.cells #[(.slice A1_0 l1_0.length c1_0), (.slice A1_1 l1_1.length c1_1)] 71 (0, 0))) ∧ Aside0 (wc.heap[gb257]? = some (.cells #[(.slice none 0 0), (.slice none 0 0)] 71 (0, 0))) ∧ Aside0 (Below w.heap.size w wc))
 case first =>
  have H := HC3.out
  clear HC3
  by_cases c6 : (l0.length : Int) > 4
  ·rw [if_pos c6] at H
   have c6b0 : decide (4 < (l0.length : Int)) = true := decide_eq_true c6
   have c6b1 : decide (4 < l0.length) = true := decide_eq_true (by omega)
   clear c6
   (first | rw [c6b0] | (simp only [i64_w, i32_w]; rw [c6b0]) | rw [c6b1] | skip)
   have H' := Q_ H
   clear H
   go_wp2
   go_meet
   case rel => exact ⟨_, (true), el_, H', ⟨by first | omega | exact Nat.le_refl _⟩, ⟨pk_ BK256.out⟩, ⟨pk_ BK257.out⟩, ⟨pb2_ HB.out GE256.out GE257.out⟩⟩
  rw [if_neg c6] at H
  have c6b0 : decide (4 < (l0.length : Int)) = false := decide_eq_false c6
  have c6b1 : decide (4 < l0.length) = false := decide_eq_false (by omega)
  clear c6
  (first | rw [c6b0] | (simp only [i64_w, i32_w]; rw [c6b0]) | rw [c6b1] | skip)
  replace H := Option.bind_eq_some_iff.mp H
  obtain ⟨t258, A70, H⟩ := H
  replace H : (spec_PassPath.j0 k l0 (!t258) l1_0 l1_1) = some (r1, r2, r3) := H
  have A7 := Q_ A70
  clear A70
  have H' := Q_ H
  clear H
  have hnb8 := NB256_257.out
  have hnc8 := NB257_256.out
  have hcz9 := bc2_ BK256.out
  go_wp2_with (first | (go_at_call 59; (with_reducible refine (spec_IsHello.calls k _ _ l1_0 _ _ l1_1 t258 _ ?side1 ?side2 ?side3 ?side4 A7.out).mono ?_); (case side1 => exact cb_ HR1_0 HB); (case side2 => exact HC1_0.out); (case side3 => exact cb_ HR1_1 HB); (case side4 => exact HC1_1.out); rintro e w10 ⟨rfl, hb⟩; have _ := Q_ (bb_ BK256.out hb); have _ := Q_ (bb_ BK257.out hb); have _ := Q_ (below_step (pb2_ HB.out GE256.out GE257.out) hb); clear BK256 BK257 HB; rename_i BK256 BK257 HB; (try clear hb); (try clear hb2); (try clear hk); (try clear hi)))
  go_meet
  case rel => exact ⟨_, (!t258), el_, H', ⟨by first | omega | exact Nat.le_refl _⟩, ⟨pk_ BK256.out⟩, ⟨pk_ BK257.out⟩, ⟨pb2_ HB.out GE256.out GE257.out⟩⟩
 clear HC3
 try clear c1
 try clear p2
 try clear c6
 try clear c6b0
 try clear c6b1
 try clear c8
 try clear hcz9
 obtain ⟨kq, x17_2, rfl, HA, HJ2, BK256, BK257, HB⟩ := hcut
 rcases kq with _ | kj2
 ·exact absurd HA.out (by simp [spec_PassPath.j0])
 have H := HA.out
 clear HA
 simp only [spec_PassPath.j0] at H
 by_cases c11 : x17_2 = true
 ·subst c11
  rw [if_pos rfl] at H
  simp only [Option.some.injEq, Prod.mk.injEq] at H
  obtain ⟨rfl, rfl, rfl⟩ := H
  have hnb12 := NB257_256.out
  have hnc12 := NB256_257.out
  have hcz13 := bc2_ BK257.out
  go_wp2
  refine bodyPost_ret (results_ct rfl _ _ gb257 71 #[.slice none 0 0, .slice none 0 0] (0, 0) _ rfl (pp_ BK257.out) Try.underlying71 rfl (by kernel_rfl)) rfl ?_
  exact ⟨_, _, er_, by first | exact Kd.R_nil _ _ _ _ _ | exact Kd.N_nil _ _ _ _ _ | exact Kd.V_nil _ _ _ _ _ | exact Kd.Q_nil _ _ _ _ _ | exact Kd.S_nil _ _ _ _ _, by first | exact Kd.S_nil _ _ _ _ _ | exact Kd.N_nil _ _ _ _ _ | exact Kd.V_nil _ _ _ _ _ | exact Kd.Q_nil _ _ _ _ _ | exact Kd.R_nil _ _ _ _ _, pb2_ HB.out GE256.out GE257.out⟩
 replace c11 := bf_ c11
 subst c11
 rw [if_neg ff_] at H
 replace H := Option.bind_eq_some_iff.mp H
 obtain ⟨⟨t259, t262⟩, A140, H⟩ := H
 replace H : (spec_PassPath.l0 kj2 l0 0 t259 t262) = some (r1, r2, r3) := H
 have A14 := Q_ A140
 clear A140
 have H' := Q_ H
 clear H
 have hnb15 := NB256_257.out
 have hnc15 := NB257_256.out
 have hcz16 := bc2_ BK256.out
 go_wp2_with (first | ((with_reducible refine gate_callee (f := 61) rfl ?_); refine gl_ (some 20) Try.func61 #[.agg #[.slice A1_0 l1_0.length c1_0, .slice A1_1 l1_1.length c1_1]] ?_; (with_reducible refine (spec_l18Hello.calls kj2 _ _ l1_0 _ _ l1_1 t259 t262 _ ?side1 ?side2 ?side3 ?side4 A14.out).mono ?_); (case side1 => exact cb_ HR1_0 HB); (case side2 => exact HC1_0.out); (case side3 => exact cb_ HR1_1 HB); (case side4 => exact HC1_1.out); rintro e w17 ⟨v260, v263, rfl, ho0, ho1, hb⟩; refine ⟨_, rfl, ?_⟩; have _ := Q_ (Kd.R_lower ho0 (below_size (pb2_ HB.out GE256.out GE257.out))); have _ := Q_ (Kd.S_lower ho1 (below_size (pb2_ HB.out GE256.out GE257.out))); have _ := Q_ (bb_ BK256.out hb); have _ := Q_ (bb_ BK257.out hb); have _ := Q_ (below_step (pb2_ HB.out GE256.out GE257.out) hb); clear BK256 BK257 HB; rename_i HO261 HO264 BK256 BK257 HB; (try clear hb); (try clear hb2); (try clear hk); (try clear hi); (try clear ho0); (try clear ho1)) | ((with_reducible refine gate_dst (N := 6) rfl ?_); refine box_event ?hg (N := 6) ?hd (cs := #[.slice none 0 0, .slice none 0 0]) (t := 71) ?hr ?_; (case hd => rfl); (case hg => rfl); (case hr => first | (go_simp; done) | (go_simp; rfl)); intro gb265 hg w18 hbox hb; have _ := Q_ (Kd.R_below (pr_ HO261.out) hb); have _ := Q_ (Kd.S_below (ps_ HO264.out) hb); have _ := Q_ (bb_ BK256.out hb); have _ := Q_ (bb_ BK257.out hb); have _ := Q_ (below_step (pb2_ HB.out GE256.out GE257.out) hb); have BK265 := Q_ (hbox); have GW265 := Q_ ((by rw [hg]; exact (below_size (pb2_ HB.out GE256.out GE257.out)) : w.heap.size ≤ gb265)); have GE265 := GW265; have NB256_265 := Q_ ((by rw [hg]; exact Nat.ne_of_lt (blk_lt (pk_ BK256.out)) : gb256 ≠ gb265)); have NB265_256 := Q_ NB256_265.out.symm; have NB257_265 := Q_ ((by rw [hg]; exact Nat.ne_of_lt (blk_lt (pk_ BK257.out)) : gb257 ≠ gb265)); have NB265_257 := Q_ NB257_265.out.symm; clear HO261 HO264 BK256 BK257 HB; rename_i HO261 HO264 BK256 BK257 HB; clear hb hbox hg; obtain ⟨Ao19, co19, eo19⟩ := Kd.R_slice HO261.out; subst eo19; have hnb20 := NB265_256.out; have hnc20 := NB256_265.out; have hnb21 := NB265_257.out; have hnc21 := NB257_265.out; have hcz22 := bc2_ BK265.out; obtain ⟨Ao23, co23, eo23⟩ := Kd.S_slice HO264.out; subst eo23))
 (try simp only [Act.put, List.setIfInBounds_toArray, List.set_cons_zero, List.set_cons_succ])
 go_loopg [7] kj2 (fun kq v7 w' => ∃ (x7_2 : Int) (x266000_2 : List Int) (x266001_2 : List (S113)) (u266000 : Value) (u266001 : Value), v7 = .int .i64 x7_2 ∧ Aside0 (spec_PassPath.l0 kq l0 x7_2 x266000_2 x266001_2 = some (r1, r2, r3)) ∧ Aside0 (kq ≤ kj2) ∧ Aside0 (Kd.R (Kd.int .i64) 3 w' w.heap.size (fun _ => True) u266000 x266000_2) ∧ Aside0 (Kd.S k113 113 w' w.heap.size (fun k_ => some k_ ≠ (u266000 : Value).ownBlock) u266001 x266001_2) ∧ Aside0 (w'.heap[gb256]? = some (.cells #[(.slice A1_0 l1_0.length c1_0), (.slice A1_1 l1_1.length c1_1)] 71 (0, 0))) ∧ Aside0 (w'.heap[gb257]? = some (.cells #[(.slice none 0 0), (.slice none 0 0)] 71 (0, 0))) ∧ Aside0 (w'.heap[gb265]? = some (.cells #[u266000, u266001] 71 (0, 0))) ∧ Aside0 (Below w.heap.size w w'))
 case atStart => exact ⟨(0), (t259), (t262), (.slice Ao19 t259.length co19), (.slice Ao23 t262.length co23), el_, H', ⟨Nat.le_refl _⟩, ⟨pr_ (Kd.R_mono (rf2_ HO261.out BK265.out) (fun _ hk => trivial))⟩, ⟨ps_ (sf2_ HO264.out BK265.out)⟩, ⟨pp_ BK256.out⟩, ⟨pp_ BK257.out⟩, ⟨pp_ BK265.out⟩, ⟨pb3_ HB.out GE256.out GE257.out GE265.out⟩⟩
 clear H'
 try clear c1
 try clear c2
 try clear p2
 try clear c6
 try clear c6b0
 try clear c6b1
 try clear c8
 try clear c11
 try clear c12
 try clear c15
 try clear c20
 try clear c21
 try clear hcz13
 try clear hcz16
 try clear hcz22
 try clear p2
 obtain ⟨x7_2, x266000_2, x266001_2, u266000, u266001, rfl, HA, HK2, HO_266000, HO_266001, BK256, BK257, BK265, HB⟩ := hrel
 rcases gk with _ | k2
 ·exact absurd HA.out (by simp [spec_PassPath.l0])
 have H := HA.out
 clear HA
 simp only [spec_PassPath.l0] at H
 by_cases c24 : x7_2 < (l0.length : Int)
 rotate_left
 ·rw [if_neg c24] at H
  have c24b0 : decide (x7_2 < (l0.length : Int)) = false := decide_eq_false c24
  clear c24
  simp only [Option.some.injEq, Prod.mk.injEq] at H
  obtain ⟨rfl, rfl, rfl⟩ := H
  have hnb25 := NB265_256.out
  have hnc25 := NB256_265.out
  have hnb26 := NB265_257.out
  have hnc26 := NB257_265.out
  have hcz27 := bc2_ BK265.out
  obtain ⟨Ao28, co28, eo28⟩ := Kd.R_slice HO_266000.out
  subst eo28
  have hnb29 := NB257_256.out
  have hnc29 := NB256_257.out
  have hcz30 := bc2_ BK257.out
  obtain ⟨Ao31, co31, eo31⟩ := Kd.S_slice HO_266001.out
  subst eo31
  go_wp2
  refine bodyPost_ret (results_ct rfl _ _ gb257 71 #[.slice Ao28 x266000_2.length co28, .slice Ao31 x266001_2.length co31] (0, 0) _ rfl (pp_ BK257.out) Try.underlying71 rfl (by kernel_rfl)) rfl ?_
  exact ⟨_, _, er_, pr_ (Kd.R_mono (rf2_ HO_266000.out BK257.out) (fun _ hk => trivial)), ps_ (sf2_ HO_266001.out BK257.out), pb3_ HB.out GE256.out GE257.out GE265.out⟩
 rw [if_pos c24] at H
 have c24b0 : decide (x7_2 < (l0.length : Int)) = true := decide_eq_true c24
 clear c24
 by_cases c32 : 0 ≤ x7_2
 rotate_left
 ·rw [if_neg c32] at H
  exact absurd H (by simp)
 rw [if_pos c32] at H
 have c32b0 : decide (0 ≤ x7_2) = true := decide_eq_true c32
 clear c32
 replace H := Option.bind_eq_some_iff.mp H
 obtain ⟨⟨t267, t270, t273⟩, A330, H⟩ := H
 (try dsimp only at H)
 have A33 := Q_ A330
 clear A330
 have HS_ := Q_ H
 clear H
 obtain ⟨Ao34, co34, eo34⟩ := Kd.R_slice HO_266000.out
 subst eo34
 obtain ⟨Ao35, co35, eo35⟩ := Kd.S_slice HO_266001.out
 subst eo35
 try go_wp2
 have _ := Q_ (Kd.R_drew HO_266000.out)
 have _ := Q_ (Kd.S_drew HO_266001.out)
 have _ := Q_ (blk_drew BK256.out)
 have _ := Q_ (blk_drew BK257.out)
 have _ := Q_ (blk_drew BK265.out)
 have _ := Q_ (below_drew1 HB.out)
 clear HO_266000 HO_266001 BK256 BK257 BK265 HB
 rename_i HO_266000 HO_266001 BK256 BK257 BK265 HB
 have p266 : 0 ≤ (x7_2 : Int) := dt_
 have q266 : x7_2 < (l0.length : Int) := dt_
 obtain ⟨ad266, A266_1, c266_1, A266_2, c266_2, e266, hx266_0, hx266_1, hx266_2, hx266_3, hl266_1, hi266_1, hl266_2, hi266_2⟩ := at_T89 HR0.out x7_2 p266 q266
 have hw266_3 := hx266_3
 have hw266_2 := hx266_2
 have hw266_1 := hx266_1
 have hw266_0 := hx266_0
 cases e266
 replace hx266_0 := bt_ HB hx266_0
 replace hx266_1 := bt_ HB hx266_1
 replace hx266_2 := bt_ HB hx266_2
 replace hx266_3 := bt_ HB hx266_3
 have HR266_1 := Q_ hi266_1
 have HC266_1 := Q_ hl266_1
 clear hi266_1 hl266_1
 have HR266_2 := Q_ hi266_2
 have HC266_2 := Q_ hl266_2
 clear hi266_2 hl266_2
 replace p266 := eq_true p266
 replace q266 := eq_true q266
 refine start_ (n := 12) (S := fun w' => w'.cell? ⟨gb265, 0, none⟩ = some (.slice Ao34 x266000_2.length co34) ∧ w'.cell? ⟨gb265, 1, none⟩ = some (.slice Ao35 x266001_2.length co35) ∧ w'.cell? (ad266.add ((x7_2).toNat * 4)) = some (.int .i64 ((rd_T89 l0 x7_2).f0)) ∧ w'.cell? ⟨(ad266.add ((x7_2).toNat * 4)).block, (ad266.add ((x7_2).toNat * 4)).off + 1, none⟩ = some (.slice A266_1 ((rd_T89 l0 x7_2).f1).length c266_1) ∧ w'.cell? ⟨(ad266.add ((x7_2).toNat * 4)).block, (ad266.add ((x7_2).toNat * 4)).off + 2, none⟩ = some (.slice A266_2 ((rd_T89 l0 x7_2).f2).length c266_2) ∧ w'.cell? ⟨(ad266.add ((x7_2).toNat * 4)).block, (ad266.add ((x7_2).toNat * 4)).off + 3, none⟩ = some (.bool ((rd_T89 l0 x7_2).f3))) (ds := []) (tf_ 0 12) (by kernel_rfl) rfl rfl ⟨(blk_cell BK265.out 0).trans rfl, (blk_cell BK265.out 1).trans rfl, (bt_ HB hw266_0), (bt_ HB hw266_1), (bt_ HB hw266_2), (bt_ HB hw266_3)⟩ (fun hHeld => ?_); refine with_tabW spec_PassPath.tab7 spec_PassPath.bits7 (fun HT_ HW_ => ?_)
 generalize wr.drew = w36 at HO_266000 HO_266001 BK256 BK257 BK265 HB HR266_1 HR266_2 hx266_0 hx266_1 hx266_2 hx266_3 hHeld ⊢
 refine pu_ 0 (some 28) (tf_ 1 12) HT_ ?_
 refine pu_ 1 (some 29) (tf_ 2 12) HT_ ?_
 refine pu_ 2 (some 30) (tf_ 3 12) HT_ ?_
 refine ta_ 3 (some 31) (tf_ 4 12) HT_ HW_ hHeld ?_
 refine ta_ 4 (some 32) (tf_ 5 12) HT_ HW_ hHeld ?_
 refine join_ (σ := Value × Value × Nat) 2 #[true, true, true, true, true, true, true, true, true, true, false, false] (fun s_ => [(33, .tuple #[.agg #[s_.1, s_.2.1], .bool t273]), (8, .pointer (some ⟨s_.2.2, 0, none⟩)), (27, .tuple #[.agg #[s_.1, s_.2.1], .bool t273]), (34, .agg #[s_.1, s_.2.1]), (35, .bool t273)]) (fun s_ w' => (w'.cell? ⟨gb265, 0, none⟩ = some (.slice Ao34 x266000_2.length co34) ∧ w'.cell? ⟨gb265, 1, none⟩ = some (.slice Ao35 x266001_2.length co35) ∧ w'.cell? (ad266.add ((x7_2).toNat * 4)) = some (.int .i64 ((rd_T89 l0 x7_2).f0)) ∧ w'.cell? ⟨(ad266.add ((x7_2).toNat * 4)).block, (ad266.add ((x7_2).toNat * 4)).off + 1, none⟩ = some (.slice A266_1 ((rd_T89 l0 x7_2).f1).length c266_1) ∧ w'.cell? ⟨(ad266.add ((x7_2).toNat * 4)).block, (ad266.add ((x7_2).toNat * 4)).off + 2, none⟩ = some (.slice A266_2 ((rd_T89 l0 x7_2).f2).length c266_2) ∧ w'.cell? ⟨(ad266.add ((x7_2).toNat * 4)).block, (ad266.add ((x7_2).toNat * 4)).off + 3, none⟩ = some (.bool ((rd_T89 l0 x7_2).f3))) ∧ (Kd.R (Kd.int .i64) 3 w' w.heap.size (fun k_ => some k_ ≠ (.slice Ao34 x266000_2.length co34 : Value).ownBlock) s_.1 t267) ∧ (Kd.S k113 113 w' w.heap.size (fun k_ => some k_ ≠ (s_.1 : Value).ownBlock ∧ some k_ ≠ (.slice Ao34 x266000_2.length co34 : Value).ownBlock ∧ some k_ ≠ (.slice Ao35 x266001_2.length co35 : Value).ownBlock) s_.2.1 t270) ∧ (Kd.R (Kd.int .i64) 3 w' w.heap.size (fun k_ => some k_ ≠ (s_.1 : Value).ownBlock) (.slice Ao34 x266000_2.length co34) x266000_2) ∧ (Kd.S k113 113 w' w.heap.size (fun k_ => some k_ ≠ (s_.1 : Value).ownBlock ∧ some k_ ≠ (s_.2.1 : Value).ownBlock ∧ some k_ ≠ (.slice Ao34 x266000_2.length co34 : Value).ownBlock) (.slice Ao35 x266001_2.length co35) x266001_2) ∧ (w'.heap[gb256]? = some (.cells #[.slice A1_0 l1_0.length c1_0, .slice A1_1 l1_1.length c1_1] 71 (0, 0))) ∧ (w'.heap[gb257]? = some (.cells #[.slice none 0 0, .slice none 0 0] 71 (0, 0))) ∧ (w'.heap[gb265]? = some (.cells #[.slice Ao34 x266000_2.length co34, .slice Ao35 x266001_2.length co35] 71 (0, 0))) ∧ (w'.heap[s_.2.2]? = some (.cells #[.slice none 0 0, .slice none 0 0] 71 (0, 0))) ∧ (w.heap.size ≤ s_.2.2) ∧ (w.heap.size ≤ s_.2.2) ∧ (gb256 ≠ s_.2.2) ∧ (s_.2.2 ≠ gb256) ∧ (gb257 ≠ s_.2.2) ∧ (s_.2.2 ≠ gb257) ∧ (gb265 ≠ s_.2.2) ∧ (s_.2.2 ≠ gb265) ∧ (Below w.heap.size w w')) ?_ ?_
 rotate_left
 ·intro hCont
  refine two_ (i := 5) (j := 9) (Ni := some 33) (Nj := some 8) #[true, true, true, true, true, true, false, false, false, false, false, false] #[true, true, true, true, true, false, false, false, false, true, false, false] rfl rfl rfl rfl (two_of HT_.out (by kernel_rfl)) (by decide) (by decide) (fun K hK => ?_) (fun K hK => ?_)
  ·skip
   refine goes_ Try.func82 (by kernel_rfl) rfl #[.agg #[.int .i64 ((rd_T89 l0 x7_2).f0), .slice A266_1 ((rd_T89 l0 x7_2).f1).length c266_1, .slice A266_2 ((rd_T89 l0 x7_2).f2).length c266_2, .bool ((rd_T89 l0 x7_2).f3)], .agg #[.slice Ao34 x266000_2.length co34, .slice Ao35 x266001_2.length co35]] (by rfl) rfl rfl mp_ ?_
   with_reducible refine (spec_PassBox.calls k2 ((rd_T89 l0 x7_2).f0) _ _ ((rd_T89 l0 x7_2).f1) _ _ ((rd_T89 l0 x7_2).f2) ((rd_T89 l0 x7_2).f3) _ _ x266000_2 _ _ x266001_2 t267 t270 t273 _ ?side1 ?side2 ?side3 ?side4 ?side5 ?side6 ?side7 ?side8 A33.out).mono ?_
   (case side1 => exact cb_ HR266_1 HB)
   (case side2 => exact HC266_1.out)
   (case side3 => exact cb_ HR266_2 HB)
   (case side4 => exact HC266_2.out)
   (case side5 => exact pc_ ((Kd.R_reads' HO_266000.out).2.2))
   (case side6 => exact (Kd.R_reads' HO_266000.out).2.1)
   (case side7 => exact pc_ ((Kd.S_reads' HO_266001.out).2.2))
   (case side8 => exact (Kd.S_reads' HO_266001.out).2.1)
   rintro e w37 ⟨v268, v271, rfl, ho0, ho1, hb⟩
   refine ⟨_, rfl, ?_⟩
   have _ := Q_ (Kd.R_elder' (pr_ HO_266000.out) (Kd.R_base ho0) hb)
   have _ := Q_ (Kd.S_mono (Kd.S_told (Kd.S_told (Kd.S_old (ps_ HO_266001.out) hb) (Kd.R_base ho0)) (Kd.S_base ho1)) (fun _ h_ => h_.1))
   have _ := Q_ (Kd.R_lower (Kd.R_new' ho0 (Kd.R_lt (pr_ HO_266000.out))) (below_size (pb3_ HB.out GE256.out GE257.out GE265.out)))
   have _ := Q_ (Kd.S_lower (Kd.S_new' (Kd.S_new' ho1 (Kd.R_lt (pr_ HO_266000.out))) (Kd.S_lt (ps_ HO_266001.out))) (below_size (pb3_ HB.out GE256.out GE257.out GE265.out)))
   have _ := Q_ (bb_ BK256.out hb)
   have _ := Q_ (bb_ BK257.out hb)
   have _ := Q_ (bb_ BK265.out hb)
   have _ := Q_ (below_step (pb3_ HB.out GE256.out GE257.out GE265.out) hb)
   clear HO_266000 HO_266001 BK256 BK257 BK265 HB
   rename_i HO_266000 HO_266001 HO269 HO272 BK256 BK257 BK265 HB
   (try clear hb)
   (try clear hb2)
   (try clear hk)
   (try clear hi)
   (try clear ho0)
   (try clear ho1)
   refine hK.out _ _ ⟨(blk_cell BK265.out 0).trans rfl, (blk_cell BK265.out 1).trans rfl, (bt_ HB hw266_0), (bt_ HB hw266_1), (bt_ HB hw266_2), (bt_ HB hw266_3)⟩ (fun hHeld => ?_)
   clear hK K
   refine no_ (some 33) ?_
   refine pu_ 6 (some 27) (tf_ 7 12) HT_ ?_
   refine pu_ 7 (some 34) (tf_ 8 12) HT_ ?_
   refine pu_ 8 (some 35) (tf_ 9 12) HT_ ?_
   refine on_ 9 (some 8) (tf_ 10 12) HT_ (fun K hK => ?_)
   refine box_step ?hg (N := 8) ?hd (cs := #[.slice none 0 0, .slice none 0 0]) (t := 71) ?hr ?_; (case hd => rfl); (case hg => rfl); (case hr => first | (go_simp; done) | (go_simp; rfl))
   intro gb274 hg w38 hbox hb
   have _ := Q_ (Kd.R_below (pr_ HO_266000.out) hb)
   have _ := Q_ (Kd.S_below (ps_ HO_266001.out) hb)
   have _ := Q_ (Kd.R_below (pr_ HO269.out) hb)
   have _ := Q_ (Kd.S_below (ps_ HO272.out) hb)
   have _ := Q_ (bb_ BK256.out hb)
   have _ := Q_ (bb_ BK257.out hb)
   have _ := Q_ (bb_ BK265.out hb)
   have _ := Q_ (below_step (pb3_ HB.out GE256.out GE257.out GE265.out) hb)
   have _ := Q_ (hbox)
   have _ := Q_ ((by rw [hg]; exact (below_size (pb3_ HB.out GE256.out GE257.out GE265.out)) : w.heap.size ≤ gb274))
   have _ := Q_ ((by rw [hg]; exact (below_size (pb3_ HB.out GE256.out GE257.out GE265.out)) : w.heap.size ≤ gb274))
   have _ := Q_ ((by rw [hg]; exact Nat.ne_of_lt (blk_lt (pk_ BK256.out)) : gb256 ≠ gb274))
   have _ := Q_ ((by rw [hg]; exact Nat.ne_of_gt (blk_lt (pk_ BK256.out)) : gb274 ≠ gb256))
   have _ := Q_ ((by rw [hg]; exact Nat.ne_of_lt (blk_lt (pk_ BK257.out)) : gb257 ≠ gb274))
   have _ := Q_ ((by rw [hg]; exact Nat.ne_of_gt (blk_lt (pk_ BK257.out)) : gb274 ≠ gb257))
   have _ := Q_ ((by rw [hg]; exact Nat.ne_of_lt (blk_lt (pk_ BK265.out)) : gb265 ≠ gb274))
   have _ := Q_ ((by rw [hg]; exact Nat.ne_of_gt (blk_lt (pk_ BK265.out)) : gb274 ≠ gb265))
   clear HO_266000 HO_266001 HO269 HO272 BK256 BK257 BK265 HB
   rename_i HO_266000 HO_266001 HO269 HO272 BK256 BK257 BK265 HB BK274 GW274 GE274 NB256_274 NB274_256 NB257_274 NB274_257 NB265_274 NB274_265
   clear hb hbox hg
   refine hK.out _ _ ⟨(blk_cell BK265.out 0).trans rfl, (blk_cell BK265.out 1).trans rfl, (bt_ HB hw266_0), (bt_ HB hw266_1), (bt_ HB hw266_2), (bt_ HB hw266_3)⟩ (fun hHeld => ?_)
   clear hK K
   refine no_ (some 8) ?_
   exact norm_ (by simp only [putAll, Act.put, List.setIfInBounds_toArray, List.set_cons_zero, List.set_cons_succ]) (hCont (v268, v271, gb274) _ ⟨hHeld, (pr_ (Kd.R_mono HO269.out (fun _ hk => hk.2))), (by (with_reducible repeat (first | apply Kd.S_alloc | apply Kd.S_drewN | apply Kd.S_drew)); exact Kd.S_mono HO272.out (fun _ hk => ⟨hk.1.1, ⟨hk.1.2, hk.2⟩⟩)), (pr_ (Kd.R_mono HO_266000.out (fun _ hk => hk.2))), (by (with_reducible repeat (first | apply Kd.S_alloc | apply Kd.S_drewN | apply Kd.S_drew)); exact Kd.S_mono HO_266001.out (fun _ hk => ⟨hk.1.2, ⟨hk.2, hk.1.1⟩⟩)), (pk_ BK256.out), (pk_ BK257.out), (pk_ BK265.out), (pk_ BK274.out), GW274.out, GE274.out, NB256_274.out, NB274_256.out, NB257_274.out, NB274_257.out, NB265_274.out, NB274_265.out, (pb4_ HB.out GE256.out GE257.out GE265.out GE274.out)⟩)
  ·skip
   refine box_step ?hg (N := 8) ?hd (cs := #[.slice none 0 0, .slice none 0 0]) (t := 71) ?hr ?_; (case hd => rfl); (case hg => rfl); (case hr => first | (go_simp; done) | (go_simp; rfl))
   intro gb274 hg w37 hbox hb
   have _ := Q_ (Kd.R_below (pr_ HO_266000.out) hb)
   have _ := Q_ (Kd.S_below (ps_ HO_266001.out) hb)
   have _ := Q_ (bb_ BK256.out hb)
   have _ := Q_ (bb_ BK257.out hb)
   have _ := Q_ (bb_ BK265.out hb)
   have _ := Q_ (below_step (pb3_ HB.out GE256.out GE257.out GE265.out) hb)
   have _ := Q_ (hbox)
   have _ := Q_ ((by rw [hg]; exact (below_size (pb3_ HB.out GE256.out GE257.out GE265.out)) : w.heap.size ≤ gb274))
   have _ := Q_ ((by rw [hg]; exact (below_size (pb3_ HB.out GE256.out GE257.out GE265.out)) : w.heap.size ≤ gb274))
   have _ := Q_ ((by rw [hg]; exact Nat.ne_of_lt (blk_lt (pk_ BK256.out)) : gb256 ≠ gb274))
   have _ := Q_ ((by rw [hg]; exact Nat.ne_of_gt (blk_lt (pk_ BK256.out)) : gb274 ≠ gb256))
   have _ := Q_ ((by rw [hg]; exact Nat.ne_of_lt (blk_lt (pk_ BK257.out)) : gb257 ≠ gb274))
   have _ := Q_ ((by rw [hg]; exact Nat.ne_of_gt (blk_lt (pk_ BK257.out)) : gb274 ≠ gb257))
   have _ := Q_ ((by rw [hg]; exact Nat.ne_of_lt (blk_lt (pk_ BK265.out)) : gb265 ≠ gb274))
   have _ := Q_ ((by rw [hg]; exact Nat.ne_of_gt (blk_lt (pk_ BK265.out)) : gb274 ≠ gb265))
   clear HO_266000 HO_266001 BK256 BK257 BK265 HB
   rename_i HO_266000 HO_266001 BK256 BK257 BK265 HB BK274 GW274 GE274 NB256_274 NB274_256 NB257_274 NB274_257 NB265_274 NB274_265
   clear hb hbox hg
   refine hK.out _ _ ⟨(blk_cell BK265.out 0).trans rfl, (blk_cell BK265.out 1).trans rfl, (bt_ HB hw266_0), (bt_ HB hw266_1), (bt_ HB hw266_2), (bt_ HB hw266_3)⟩ (fun hHeld => ?_)
   clear hK K
   refine no_ (some 8) ?_
   refine on_ 5 (some 33) (tm_ 12 575) HT_ (fun K hK => ?_)
   refine goes_ Try.func82 (by kernel_rfl) rfl #[.agg #[.int .i64 ((rd_T89 l0 x7_2).f0), .slice A266_1 ((rd_T89 l0 x7_2).f1).length c266_1, .slice A266_2 ((rd_T89 l0 x7_2).f2).length c266_2, .bool ((rd_T89 l0 x7_2).f3)], .agg #[.slice Ao34 x266000_2.length co34, .slice Ao35 x266001_2.length co35]] (by rfl) rfl rfl mp_ ?_
   with_reducible refine (spec_PassBox.calls k2 ((rd_T89 l0 x7_2).f0) _ _ ((rd_T89 l0 x7_2).f1) _ _ ((rd_T89 l0 x7_2).f2) ((rd_T89 l0 x7_2).f3) _ _ x266000_2 _ _ x266001_2 t267 t270 t273 _ ?side1 ?side2 ?side3 ?side4 ?side5 ?side6 ?side7 ?side8 A33.out).mono ?_
   (case side1 => exact cb_ HR266_1 HB)
   (case side2 => exact HC266_1.out)
   (case side3 => exact cb_ HR266_2 HB)
   (case side4 => exact HC266_2.out)
   (case side5 => exact pc_ ((Kd.R_reads' HO_266000.out).2.2))
   (case side6 => exact (Kd.R_reads' HO_266000.out).2.1)
   (case side7 => exact pc_ ((Kd.S_reads' HO_266001.out).2.2))
   (case side8 => exact (Kd.S_reads' HO_266001.out).2.1)
   rintro e w38 ⟨v268, v271, rfl, ho0, ho1, hb⟩
   refine ⟨_, rfl, ?_⟩
   have _ := Q_ (Kd.R_elder' (pr_ HO_266000.out) (Kd.R_base ho0) hb)
   have _ := Q_ (Kd.S_mono (Kd.S_told (Kd.S_told (Kd.S_old (ps_ HO_266001.out) hb) (Kd.R_base ho0)) (Kd.S_base ho1)) (fun _ h_ => h_.1))
   have _ := Q_ (Kd.R_lower (Kd.R_new' ho0 (Kd.R_lt (pr_ HO_266000.out))) (below_size (pb4_ HB.out GE256.out GE257.out GE265.out GE274.out)))
   have _ := Q_ (Kd.S_lower (Kd.S_new' (Kd.S_new' ho1 (Kd.R_lt (pr_ HO_266000.out))) (Kd.S_lt (ps_ HO_266001.out))) (below_size (pb4_ HB.out GE256.out GE257.out GE265.out GE274.out)))
   have _ := Q_ (bb_ BK256.out hb)
   have _ := Q_ (bb_ BK257.out hb)
   have _ := Q_ (bb_ BK265.out hb)
   have _ := Q_ (bb_ BK274.out hb)
   have _ := Q_ (below_step (pb4_ HB.out GE256.out GE257.out GE265.out GE274.out) hb)
   clear HO_266000 HO_266001 BK256 BK257 BK265 BK274 HB
   rename_i HO_266000 HO_266001 HO269 HO272 BK256 BK257 BK265 BK274 HB
   (try clear hb)
   (try clear hb2)
   (try clear hk)
   (try clear hi)
   (try clear ho0)
   (try clear ho1)
   refine hK.out _ _ ⟨(blk_cell BK265.out 0).trans rfl, (blk_cell BK265.out 1).trans rfl, (bt_ HB hw266_0), (bt_ HB hw266_1), (bt_ HB hw266_2), (bt_ HB hw266_3)⟩ (fun hHeld => ?_)
   clear hK K
   refine no_ (some 33) ?_
   refine pu_ 6 (some 27) (tm_ 12 639) HT_ ?_
   refine pu_ 7 (some 34) (tm_ 12 767) HT_ ?_
   refine pu_ 8 (some 35) (tf_ 10 12) HT_ ?_
   exact norm_ (by simp only [putAll, Act.put, List.setIfInBounds_toArray, List.set_cons_zero, List.set_cons_succ]) (hCont (v268, v271, gb274) _ ⟨hHeld, (pr_ (Kd.R_mono HO269.out (fun _ hk => hk.2))), (by (with_reducible repeat (first | apply Kd.S_alloc | apply Kd.S_drewN | apply Kd.S_drew)); exact Kd.S_mono HO272.out (fun _ hk => ⟨hk.1.1, ⟨hk.1.2, hk.2⟩⟩)), (pr_ (Kd.R_mono HO_266000.out (fun _ hk => hk.2))), (by (with_reducible repeat (first | apply Kd.S_alloc | apply Kd.S_drewN | apply Kd.S_drew)); exact Kd.S_mono HO_266001.out (fun _ hk => ⟨hk.1.2, ⟨hk.2, hk.1.1⟩⟩)), (pk_ BK256.out), (pk_ BK257.out), (pk_ BK265.out), (pk_ BK274.out), GW274.out, GE274.out, NB256_274.out, NB274_256.out, NB257_274.out, NB274_257.out, NB265_274.out, NB274_265.out, (pb4_ HB.out GE256.out GE257.out GE265.out GE274.out)⟩)
 rintro ⟨v268, v271, gb274⟩ w39 ⟨hS_, h0_, h1_, h2_, h3_, h4_, h5_, h6_, h7_, h8_, h9_, h10_, h11_, h12_, h13_, h14_, h15_, h16_⟩
 have n0_ : Aside0 (Kd.R (Kd.int .i64) 3 w39 w.heap.size (fun k_ => some k_ ≠ (.slice Ao34 x266000_2.length co34 : Value).ownBlock) v268 t267) := ⟨h0_⟩
 have n1_ : Aside0 (Kd.S k113 113 w39 w.heap.size (fun k_ => some k_ ≠ (v268 : Value).ownBlock ∧ some k_ ≠ (.slice Ao34 x266000_2.length co34 : Value).ownBlock ∧ some k_ ≠ (.slice Ao35 x266001_2.length co35 : Value).ownBlock) v271 t270) := ⟨h1_⟩
 have n2_ : Aside0 (Kd.R (Kd.int .i64) 3 w39 w.heap.size (fun k_ => some k_ ≠ (v268 : Value).ownBlock) (.slice Ao34 x266000_2.length co34) x266000_2) := ⟨h2_⟩
 have n3_ : Aside0 (Kd.S k113 113 w39 w.heap.size (fun k_ => some k_ ≠ (v268 : Value).ownBlock ∧ some k_ ≠ (v271 : Value).ownBlock ∧ some k_ ≠ (.slice Ao34 x266000_2.length co34 : Value).ownBlock) (.slice Ao35 x266001_2.length co35) x266001_2) := ⟨h3_⟩
 have n4_ : Aside0 (w39.heap[gb256]? = some (.cells #[.slice A1_0 l1_0.length c1_0, .slice A1_1 l1_1.length c1_1] 71 (0, 0))) := ⟨h4_⟩
 have n5_ : Aside0 (w39.heap[gb257]? = some (.cells #[.slice none 0 0, .slice none 0 0] 71 (0, 0))) := ⟨h5_⟩
 have n6_ : Aside0 (w39.heap[gb265]? = some (.cells #[.slice Ao34 x266000_2.length co34, .slice Ao35 x266001_2.length co35] 71 (0, 0))) := ⟨h6_⟩
 have n7_ : Aside0 (w39.heap[gb274]? = some (.cells #[.slice none 0 0, .slice none 0 0] 71 (0, 0))) := ⟨h7_⟩
 have n8_ : Aside0 (w.heap.size ≤ gb274) := ⟨h8_⟩
 have n9_ : Aside0 (w.heap.size ≤ gb274) := ⟨h9_⟩
 have n10_ : Aside0 (gb256 ≠ gb274) := ⟨h10_⟩
 have n11_ : Aside0 (gb274 ≠ gb256) := ⟨h11_⟩
 have n12_ : Aside0 (gb257 ≠ gb274) := ⟨h12_⟩
 have n13_ : Aside0 (gb274 ≠ gb257) := ⟨h13_⟩
 have n14_ : Aside0 (gb265 ≠ gb274) := ⟨h14_⟩
 have n15_ : Aside0 (gb274 ≠ gb265) := ⟨h15_⟩
 have n16_ : Aside0 (Below w.heap.size w w39) := ⟨h16_⟩
 clear HO_266000
 clear HO_266001
 clear BK256
 clear BK257
 clear BK265
 clear HB
 clear h0_ h1_ h2_ h3_ h4_ h5_ h6_ h7_ h8_ h9_ h10_ h11_ h12_ h13_ h14_ h15_ h16_
 have HO269 := n0_
 have HO272 := n1_
 have HO_266000 := n2_
 have HO_266001 := n3_
 have BK256 := n4_
 have BK257 := n5_
 have BK265 := n6_
 have BK274 := n7_
 have GW274 := n8_
 have GE274 := n9_
 have NB256_274 := n10_
 have NB274_256 := n11_
 have NB257_274 := n12_
 have NB274_257 := n13_
 have NB265_274 := n14_
 have NB274_265 := n15_
 have HB := n16_
 clear n0_ n1_ n2_ n3_ n4_ n5_ n6_ n7_ n8_ n9_ n10_ n11_ n12_ n13_ n14_ n15_ n16_
 have hHeld : w39.cell? ⟨gb265, 0, none⟩ = some (.slice Ao34 x266000_2.length co34) ∧ w39.cell? ⟨gb265, 1, none⟩ = some (.slice Ao35 x266001_2.length co35) ∧ w39.cell? (ad266.add ((x7_2).toNat * 4)) = some (.int .i64 ((rd_T89 l0 x7_2).f0)) ∧ w39.cell? ⟨(ad266.add ((x7_2).toNat * 4)).block, (ad266.add ((x7_2).toNat * 4)).off + 1, none⟩ = some (.slice A266_1 ((rd_T89 l0 x7_2).f1).length c266_1) ∧ w39.cell? ⟨(ad266.add ((x7_2).toNat * 4)).block, (ad266.add ((x7_2).toNat * 4)).off + 2, none⟩ = some (.slice A266_2 ((rd_T89 l0 x7_2).f2).length c266_2) ∧ w39.cell? ⟨(ad266.add ((x7_2).toNat * 4)).block, (ad266.add ((x7_2).toNat * 4)).off + 3, none⟩ = some (.bool ((rd_T89 l0 x7_2).f3)) := hS_
 obtain ⟨Ao40, co40, eo40⟩ := Kd.R_slice HO269.out
 (first | subst eo40 | (injection eo40 with f1_ f2_ f3_; have f4_ := f1_.symm; have f5_ := f3_.symm; clear f1_ f2_ f3_; subst f4_; subst f5_))
 obtain ⟨Ao42, co42, eo42⟩ := Kd.S_slice HO272.out
 (first | subst eo42 | (injection eo42 with f1_ f2_ f3_; have f4_ := f1_.symm; have f5_ := f3_.symm; clear f1_ f2_ f3_; subst f4_; subst f5_))
 refine norm_ (a' := ?_) ?_ ?_
 rotate_left
 ·simp only [putAll, Act.put, List.setIfInBounds_toArray, List.set_cons_zero, List.set_cons_succ]
  rfl
 refine on_ 10 (none) (tf_ 11 12) HT_ (fun K hK => ?_)
 have hs41 : w39.cell? ⟨gb274, 0, none⟩ = some (.slice none 0 0) := (blk_cell BK274.out 0).trans rfl
 have hfs41 := blk_frozen BK274.out 0
 have hns41_0 := NB256_274.out
 have hns41_1 := NB257_274.out
 have hns41_2 := NB265_274.out
 have hms41_0 := NB274_256.out
 have hms41_1 := NB274_257.out
 have hms41_2 := NB274_265.out
 have hs43 : w39.cell? ⟨gb274, 1, none⟩ = some (.slice none 0 0) := (blk_cell BK274.out 1).trans rfl
 have hfs43 := blk_frozen BK274.out 1
 have hns43_0 := NB256_274.out
 have hns43_1 := NB257_274.out
 have hns43_2 := NB265_274.out
 have hms43_0 := NB274_256.out
 have hms43_1 := NB274_257.out
 have hms43_2 := NB274_265.out
 refine skip_ (w1 := ?_) (by rfl) rfl ?_ ?_
 rotate_left
 ·go_simp
  rfl
 refine hK.out _ _ ⟨((cell_far (p := ⟨gb274, _, none⟩) NB265_274.out _).trans (((cell_far (p := ⟨gb274, _, none⟩) NB265_274.out _).trans (hHeld.1)))), ((cell_far (p := ⟨gb274, _, none⟩) NB265_274.out _).trans (((cell_far (p := ⟨gb274, _, none⟩) NB265_274.out _).trans (hHeld.2.1)))), ((cell_far (p := ⟨gb274, _, none⟩) (by first | exact Nat.ne_of_lt (Nat.lt_of_lt_of_le (by have := World.block_lt_of_cell? _ _ hw266_0; first | rwa [add_block] at this | exact this) GW274.out) | (rw [add_block]; exact Nat.ne_of_lt (Nat.lt_of_lt_of_le (by have := World.block_lt_of_cell? _ _ hw266_0; first | rwa [add_block] at this | exact this) GW274.out)) | (show (Addr.add _ _).block ≠ _; rw [add_block]; exact Nat.ne_of_lt (Nat.lt_of_lt_of_le (by have := World.block_lt_of_cell? _ _ hw266_0; first | rwa [add_block] at this | exact this) GW274.out)) | (dsimp only; exact Nat.ne_of_lt (Nat.lt_of_lt_of_le (by have := World.block_lt_of_cell? _ _ hw266_0; first | rwa [add_block] at this | exact this) GW274.out))) _).trans (((cell_far (p := ⟨gb274, _, none⟩) (by first | exact Nat.ne_of_lt (Nat.lt_of_lt_of_le (by have := World.block_lt_of_cell? _ _ hw266_0; first | rwa [add_block] at this | exact this) GW274.out) | (rw [add_block]; exact Nat.ne_of_lt (Nat.lt_of_lt_of_le (by have := World.block_lt_of_cell? _ _ hw266_0; first | rwa [add_block] at this | exact this) GW274.out)) | (show (Addr.add _ _).block ≠ _; rw [add_block]; exact Nat.ne_of_lt (Nat.lt_of_lt_of_le (by have := World.block_lt_of_cell? _ _ hw266_0; first | rwa [add_block] at this | exact this) GW274.out)) | (dsimp only; exact Nat.ne_of_lt (Nat.lt_of_lt_of_le (by have := World.block_lt_of_cell? _ _ hw266_0; first | rwa [add_block] at this | exact this) GW274.out))) _).trans (hHeld.2.2.1)))), ((cell_far (p := ⟨gb274, _, none⟩) (by first | exact Nat.ne_of_lt (Nat.lt_of_lt_of_le (by have := World.block_lt_of_cell? _ _ hw266_1; first | rwa [add_block] at this | exact this) GW274.out) | (rw [add_block]; exact Nat.ne_of_lt (Nat.lt_of_lt_of_le (by have := World.block_lt_of_cell? _ _ hw266_1; first | rwa [add_block] at this | exact this) GW274.out)) | (show (Addr.add _ _).block ≠ _; rw [add_block]; exact Nat.ne_of_lt (Nat.lt_of_lt_of_le (by have := World.block_lt_of_cell? _ _ hw266_1; first | rwa [add_block] at this | exact this) GW274.out)) | (dsimp only; exact Nat.ne_of_lt (Nat.lt_of_lt_of_le (by have := World.block_lt_of_cell? _ _ hw266_1; first | rwa [add_block] at this | exact this) GW274.out))) _).trans (((cell_far (p := ⟨gb274, _, none⟩) (by first | exact Nat.ne_of_lt (Nat.lt_of_lt_of_le (by have := World.block_lt_of_cell? _ _ hw266_1; first | rwa [add_block] at this | exact this) GW274.out) | (rw [add_block]; exact Nat.ne_of_lt (Nat.lt_of_lt_of_le (by have := World.block_lt_of_cell? _ _ hw266_1; first | rwa [add_block] at this | exact this) GW274.out)) | (show (Addr.add _ _).block ≠ _; rw [add_block]; exact Nat.ne_of_lt (Nat.lt_of_lt_of_le (by have := World.block_lt_of_cell? _ _ hw266_1; first | rwa [add_block] at this | exact this) GW274.out)) | (dsimp only; exact Nat.ne_of_lt (Nat.lt_of_lt_of_le (by have := World.block_lt_of_cell? _ _ hw266_1; first | rwa [add_block] at this | exact this) GW274.out))) _).trans (hHeld.2.2.2.1)))), ((cell_far (p := ⟨gb274, _, none⟩) (by first | exact Nat.ne_of_lt (Nat.lt_of_lt_of_le (by have := World.block_lt_of_cell? _ _ hw266_2; first | rwa [add_block] at this | exact this) GW274.out) | (rw [add_block]; exact Nat.ne_of_lt (Nat.lt_of_lt_of_le (by have := World.block_lt_of_cell? _ _ hw266_2; first | rwa [add_block] at this | exact this) GW274.out)) | (show (Addr.add _ _).block ≠ _; rw [add_block]; exact Nat.ne_of_lt (Nat.lt_of_lt_of_le (by have := World.block_lt_of_cell? _ _ hw266_2; first | rwa [add_block] at this | exact this) GW274.out)) | (dsimp only; exact Nat.ne_of_lt (Nat.lt_of_lt_of_le (by have := World.block_lt_of_cell? _ _ hw266_2; first | rwa [add_block] at this | exact this) GW274.out))) _).trans (((cell_far (p := ⟨gb274, _, none⟩) (by first | exact Nat.ne_of_lt (Nat.lt_of_lt_of_le (by have := World.block_lt_of_cell? _ _ hw266_2; first | rwa [add_block] at this | exact this) GW274.out) | (rw [add_block]; exact Nat.ne_of_lt (Nat.lt_of_lt_of_le (by have := World.block_lt_of_cell? _ _ hw266_2; first | rwa [add_block] at this | exact this) GW274.out)) | (show (Addr.add _ _).block ≠ _; rw [add_block]; exact Nat.ne_of_lt (Nat.lt_of_lt_of_le (by have := World.block_lt_of_cell? _ _ hw266_2; first | rwa [add_block] at this | exact this) GW274.out)) | (dsimp only; exact Nat.ne_of_lt (Nat.lt_of_lt_of_le (by have := World.block_lt_of_cell? _ _ hw266_2; first | rwa [add_block] at this | exact this) GW274.out))) _).trans (hHeld.2.2.2.2.1)))), ((cell_far (p := ⟨gb274, _, none⟩) (by first | exact Nat.ne_of_lt (Nat.lt_of_lt_of_le (by have := World.block_lt_of_cell? _ _ hw266_3; first | rwa [add_block] at this | exact this) GW274.out) | (rw [add_block]; exact Nat.ne_of_lt (Nat.lt_of_lt_of_le (by have := World.block_lt_of_cell? _ _ hw266_3; first | rwa [add_block] at this | exact this) GW274.out)) | (show (Addr.add _ _).block ≠ _; rw [add_block]; exact Nat.ne_of_lt (Nat.lt_of_lt_of_le (by have := World.block_lt_of_cell? _ _ hw266_3; first | rwa [add_block] at this | exact this) GW274.out)) | (dsimp only; exact Nat.ne_of_lt (Nat.lt_of_lt_of_le (by have := World.block_lt_of_cell? _ _ hw266_3; first | rwa [add_block] at this | exact this) GW274.out))) _).trans (((cell_far (p := ⟨gb274, _, none⟩) (by first | exact Nat.ne_of_lt (Nat.lt_of_lt_of_le (by have := World.block_lt_of_cell? _ _ hw266_3; first | rwa [add_block] at this | exact this) GW274.out) | (rw [add_block]; exact Nat.ne_of_lt (Nat.lt_of_lt_of_le (by have := World.block_lt_of_cell? _ _ hw266_3; first | rwa [add_block] at this | exact this) GW274.out)) | (show (Addr.add _ _).block ≠ _; rw [add_block]; exact Nat.ne_of_lt (Nat.lt_of_lt_of_le (by have := World.block_lt_of_cell? _ _ hw266_3; first | rwa [add_block] at this | exact this) GW274.out)) | (dsimp only; exact Nat.ne_of_lt (Nat.lt_of_lt_of_le (by have := World.block_lt_of_cell? _ _ hw266_3; first | rwa [add_block] at this | exact this) GW274.out))) _).trans (hHeld.2.2.2.2.2))))⟩ (fun hHeld => ?_)
 clear hK K
 refine pu_ 11 (some 9) (tf_ 12 12) HT_ ?_
 refine done_ (done_of HT_.out (by kernel_rfl)) ?_
 go_upto_if 37 with (fail)
 have H := HS_.out
 clear HS_
 by_cases c44 : t273 = true
 rotate_left
 ·replace c44 := bf_ c44
  subst c44
  rw [if_neg ff_] at H
  simp only [Option.some.injEq, Prod.mk.injEq] at H
  obtain ⟨rfl, rfl, rfl⟩ := H
  have hnb45 := NB257_256.out
  have hnc45 := NB256_257.out
  have hnb46 := NB257_265.out
  have hnc46 := NB265_257.out
  have hnb47 := NB257_274.out
  have hnc47 := NB274_257.out
  have hcz48 := bc2_ BK257.out
  go_wp2
  refine bodyPost_ret (results_ct rfl _ _ gb257 71 #[.slice none 0 0, .slice none 0 0] (0, 0) _ rfl (pp_ BK257.out) Try.underlying71 rfl (by kernel_rfl)) rfl ?_
  exact ⟨_, _, er_, by first | exact Kd.R_nil _ _ _ _ _ | exact Kd.N_nil _ _ _ _ _ | exact Kd.V_nil _ _ _ _ _ | exact Kd.Q_nil _ _ _ _ _ | exact Kd.S_nil _ _ _ _ _, by first | exact Kd.S_nil _ _ _ _ _ | exact Kd.N_nil _ _ _ _ _ | exact Kd.V_nil _ _ _ _ _ | exact Kd.Q_nil _ _ _ _ _ | exact Kd.R_nil _ _ _ _ _, pb4_ HB.out GE256.out GE257.out GE265.out GE274.out⟩
 subst c44
 rw [if_pos rfl] at H
 have H' := Q_ H
 clear H
 have hnb49 := NB274_256.out
 have hnc49 := NB256_274.out
 have hnb50 := NB274_257.out
 have hnc50 := NB257_274.out
 have hnb51 := NB274_265.out
 have hnc51 := NB265_274.out
 have hcz52 := bc2_ BK274.out
 have hnb53 := NB265_256.out
 have hnc53 := NB256_265.out
 have hnb54 := NB265_257.out
 have hnc54 := NB257_265.out
 have hcz55 := bc2_ BK265.out
 go_wp2
 go_roundg k2
 case measure => have := HJ2.out; have := HK2.out; omega
 case rel => exact ⟨(wrap64 (x7_2 + 1)), (t267), (t270), (.slice Ao40 t267.length co40), (.slice Ao42 t270.length co42), el_, H', ⟨by have := HJ2.out; have := HK2.out; omega⟩, ⟨pr_ (Kd.R_mono (Kd.R_far (p := ⟨gb265, 1, none⟩) (Kd.R_far (p := ⟨gb265, 0, none⟩) (Kd.R_far (p := ⟨gb274, 1, none⟩) (Kd.R_far (p := ⟨gb274, 0, none⟩) (Kd.R_types (Kd.R_types HO269.out BK274.out (by decide)) BK265.out (by decide)) (fun _ hk => hk.1.2) (.slice Ao40 t267.length co40)) (fun _ hk => hk.1.2) (.slice Ao42 t270.length co42)) (fun _ hk => hk.2) (.slice Ao40 t267.length co40)) (fun _ hk => hk.2) (.slice Ao42 t270.length co42)) (fun _ hk => trivial))⟩, ⟨ps_ (Kd.S_mono (Kd.S_far (p := ⟨gb265, 1, none⟩) (Kd.S_far (p := ⟨gb265, 0, none⟩) (Kd.S_far (p := ⟨gb274, 1, none⟩) (Kd.S_far (p := ⟨gb274, 0, none⟩) (Kd.S_types (Kd.S_types HO272.out BK274.out (by decide)) BK265.out (by decide)) (fun _ hk => hk.1.2) (.slice Ao40 t267.length co40)) (fun _ hk => hk.1.2) (.slice Ao42 t270.length co42)) (fun _ hk => hk.2) (.slice Ao40 t267.length co40)) (fun _ hk => hk.2) (.slice Ao42 t270.length co42)) (fun _ hk => hk.1.1.1))⟩, ⟨pp_ BK256.out⟩, ⟨pp_ BK257.out⟩, ⟨pp_ BK265.out⟩, ⟨pb4_ HB.out GE256.out GE257.out GE265.out GE274.out⟩⟩

/-! ### spec_EqualInts: function 94 -/
def spec_EqualInts.l0 : Nat → List Int → List Int → Int → Option (Bool)
 | 0, _, _, _ => none
 | k + 1, x0, x1, x5 => if x5 < (x0.length : Int) then (if 0 ≤ x5 then (if x5 < (x1.length : Int) then (if (rd x0 x5) = (rd x1 x5) then (spec_EqualInts.l0 k x0 x1 (wrap64 (x5 + 1))) else (some false)) else (none)) else (none)) else (some true)
def spec_EqualInts.f (k : Nat) (l0 : List Int) (l1 : List Int) : Option (Bool) := if (l0.length : Int) = (l1.length : Int) then (spec_EqualInts.l0 k l0 l1 0) else (some false)
theorem spec_EqualInts.mono_l : ∀ k, (∀ y0 y1 y2, LeO (spec_EqualInts.l0 k y0 y1 y2) (spec_EqualInts.l0 (k + 1) y0 y1 y2))
 | 0 => fun _ _ _ r h => by simp [spec_EqualInts.l0] at h
 | k + 1 => by
  have ih0 := spec_EqualInts.mono_l k
  ·intro y0 y1 y2
   unfold spec_EqualInts.l0
   exact mo1_ ih0
theorem spec_EqualInts.mono : ∀ a0 a1 k, LeO (spec_EqualInts.f k a0 a1) (spec_EqualInts.f (k + 1) a0 a1) := by
 intro a0 a1 k
 have ih0 := spec_EqualInts.mono_l k
 unfold spec_EqualInts.f
 exact mo1_ ih0
theorem spec_EqualInts.calls (k : Nat) (A0 : Option Addr) (c0 : Nat) (l0 : List Int) (A1 : Option Addr) (c1 : Nat) (l1 : List Int) (r : Bool) (w : World) (hr0 : Kd.C (Kd.int .i64) w A0 l0.length l0) (hc0 : l0.length ≤ c0) (hr1 : Kd.C (Kd.int .i64) w A1 l1.length l1) (hc1 : l1.length ≤ c1) (h : spec_EqualInts.f k l0 l1 = some r) :
  Calls Try.prog 94 #[.slice A0 l0.length c0, .slice A1 l1.length c1] w fun e w' => e = .returned (.bool r) ∧ Drawn0 w w' := by
 have HR0 := Q_ hr0
 have HC0 := Q_ hc0
 clear hr0 hc0
 have HR1 := Q_ hr1
 have HC1 := Q_ hc1
 clear hr1 hc1
 have H : (if (l0.length : Int) = (l1.length : Int) then (spec_EqualInts.l0 k l0 l1 0) else (some false)) = some r := h
 clear h
 by_cases c3 : (l0.length : Int) = (l1.length : Int)
 rotate_left
 ·rw [if_neg c3] at H
  have c3b0 : ((l0.length : Int) == (l1.length : Int)) = false := beq_eq_false_iff_ne.mpr c3
  have c3b1 : ((l0.length : Int) != (l1.length : Int)) = true := bne_iff_ne.mpr c3
  have c3b2 : (l0.length == l1.length) = false := by first | simpa using c3 | (simp at c3 ⊢; omega)
  obtain rfl := Option.some.inj H
  go_enter Try.func94, Try.ntmps94
  go_wp2
  repeat (go_quiet (fail); try go_wp2)
  go_ret
  exact ⟨by first | rfl | (simp; done) | (simp [*]; done), by repeat (first | exact Drawn0.refl _ | apply Drawn0.step)⟩
 rw [if_pos c3] at H
 have c3b0 : ((l0.length : Int) == (l1.length : Int)) = true := beq_iff_eq.mpr c3
 have c3b1 : ((l0.length : Int) != (l1.length : Int)) = false := bne_eq_false_iff_eq.mpr c3
 have c3b2 : (l0.length == l1.length) = true := by first | simpa using c3 | (simp at c3 ⊢; omega)
 clear c3
 have H' := Q_ H
 clear H
 go_enter Try.func94, Try.ntmps94
 go_wp2
 repeat (go_quiet (fail); try go_wp2)
 go_loopg [5] k (fun kq v5 w' => ∃ (x5_1 : Int), v5 = .int .i64 x5_1 ∧ Aside0 (spec_EqualInts.l0 kq l0 l1 x5_1 = some r) ∧ Aside0 (kq ≤ k) ∧ Drawn0 w w')
 case atStart => exact ⟨(0), el_, H', ⟨Nat.le_refl _⟩, by repeat (first | exact Drawn0.refl _ | apply Drawn0.step)⟩
 clear H'
 try clear c1
 try clear p2
 try clear c3
 try clear c3b0
 try clear c3b1
 try clear c3b2
 obtain ⟨x5_1, rfl, HA, HK1, ⟨m1, rfl⟩⟩ := hrel
 rcases gk with _ | k1
 ·exact absurd HA.out (by simp [spec_EqualInts.l0])
 have H := HA.out
 clear HA
 simp only [spec_EqualInts.l0] at H
 by_cases c4 : x5_1 < (l0.length : Int)
 rotate_left
 ·rw [if_neg c4] at H
  have c4b0 : decide (x5_1 < (l0.length : Int)) = false := decide_eq_false c4
  clear c4
  obtain rfl := Option.some.inj H
  go_wp2
  repeat (go_quiet (fail); try go_wp2)
  go_ret
  exact ⟨by first | rfl | (simp; done) | (simp [*]; done), by repeat (first | exact Drawn0.refl _ | apply Drawn0.step)⟩
 rw [if_pos c4] at H
 have c4b0 : decide (x5_1 < (l0.length : Int)) = true := decide_eq_true c4
 clear c4
 by_cases c5 : 0 ≤ x5_1
 rotate_left
 ·rw [if_neg c5] at H
  exact absurd H (by simp)
 rw [if_pos c5] at H
 have c5b0 : decide (0 ≤ x5_1) = true := decide_eq_true c5
 clear c5
 by_cases c6 : x5_1 < (l1.length : Int)
 rotate_left
 ·rw [if_neg c6] at H
  exact absurd H (by simp)
 rw [if_pos c6] at H
 have c6b0 : decide (x5_1 < (l1.length : Int)) = true := decide_eq_true c6
 clear c6
 by_cases c7 : (rd l0 x5_1) = (rd l1 x5_1)
 rotate_left
 ·rw [if_neg c7] at H
  have c7b0 : ((rd l0 x5_1) == (rd l1 x5_1)) = false := beq_eq_false_iff_ne.mpr c7
  have c7b1 : ((rd l0 x5_1) != (rd l1 x5_1)) = true := bne_iff_ne.mpr c7
  obtain rfl := Option.some.inj H
  have p275 : 0 ≤ (x5_1 : Int) := dt_
  have q275 : x5_1 < (l0.length : Int) := dt_
  obtain ⟨ad275, e275, hx275_0⟩ := Kd.at_int HR0.out x5_1 p275 q275
  cases e275
  replace p275 := eq_true p275
  replace q275 := eq_true q275
  have p276 : 0 ≤ (x5_1 : Int) := dt_
  have q276 : x5_1 < (l1.length : Int) := dt_
  obtain ⟨ad276, e276, hx276_0⟩ := Kd.at_int HR1.out x5_1 p276 q276
  cases e276
  replace p276 := eq_true p276
  replace q276 := eq_true q276
  go_wp2
  repeat (go_quiet (fail); try go_wp2)
  go_ret
  exact ⟨by first | rfl | (simp; done) | (simp [*]; done), by repeat (first | exact Drawn0.refl _ | apply Drawn0.step)⟩
 rw [if_pos c7] at H
 have c7b0 : ((rd l0 x5_1) == (rd l1 x5_1)) = true := beq_iff_eq.mpr c7
 have c7b1 : ((rd l0 x5_1) != (rd l1 x5_1)) = false := bne_eq_false_iff_eq.mpr c7
 clear c7
 have H' := Q_ H
 clear H
 have p275 : 0 ≤ (x5_1 : Int) := dt_
 have q275 : x5_1 < (l0.length : Int) := dt_
 obtain ⟨ad275, e275, hx275_0⟩ := Kd.at_int HR0.out x5_1 p275 q275
 cases e275
 replace p275 := eq_true p275
 replace q275 := eq_true q275
 have p276 : 0 ≤ (x5_1 : Int) := dt_
 have q276 : x5_1 < (l1.length : Int) := dt_
 obtain ⟨ad276, e276, hx276_0⟩ := Kd.at_int HR1.out x5_1 p276 q276
 cases e276
 replace p276 := eq_true p276
 replace q276 := eq_true q276
 go_wp2
 repeat (go_quiet (fail); try go_wp2)
 go_roundg k1
 case measure => have := HK1.out; omega
 case rel => exact ⟨(wrap64 (x5_1 + 1)), el_, H', ⟨by have := HK1.out; omega⟩, by repeat (first | exact Drawn0.refl _ | apply Drawn0.step)⟩

end Go.Proofs.Ytlcpaebidnaolaa.Print
