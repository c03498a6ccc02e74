-- Written by a program of this session (printx.py) out of the translation; Lean checks it.
import Derived.Test.YtlcpaebidnaolaaPrint0
import Derived.Test.YtlcpaebidnaolaaPrint3
import Derived.Test.YtlcpaebidnaolaaPrint6
import Derived.Test.YtlcpaebidnaolaaPrint11
import Derived.Test.YtlcpaebidnaolaaPrint12
namespace Go.Proofs.Ytlcpaebidnaolaa.Print
open Go.RowKit Go.Proofs.YtlcpaebidnaolaaW.PrintWords Go.Proofs.YtlcpaebidnaolaaW.PrintLast Go.Proofs.YtlcpaebidnaolaaW.PrintMore Go.Proofs.Ytlcpaebidnaolaa.Short
attribute [local go_sem] max2_int min2_int max_two min_two max_three min_three max_four min_four   -- for this text's walks alone
set_option linter.unusedVariables false
set_option maxHeartbeats 8000000
set_option maxRecDepth 100000
set_option linter.unusedSimpArgs false

/-! ### spec_DialOnce: function 51 -/
def spec_DialOnce.j0 : Nat → Int → Bool → List Int → List (S113) → List Int → List (S113) → Int → List (S113) → Option (Bool × Int × List Int)
 | 0, _, _, _, _, _, _, _, _ => none
 | k + 1, x4, x39, x574000, x574001, x583000, x583001, x589000, x589001 => if x39 = true then (some (false, 0, ([] : List Int))) else ((spec_HelloBytes.f k x574000 x574001).bind fun t590 => ((spec_AnswerBytes.f k x589000 x589001).bind fun t593 => ((spec_FinishOf.f k x4 (([t590, t593] : List (List Int))) 1).bind fun t599 => (if t599 = 0 then (some (false, 0, ([] : List Int))) else ((spec_HelloBytes.f k x583000 x583001).bind fun t600 => ((spec_AnswerBytes.f k x589000 x589001).bind fun t603 => ((spec_FinishOf.f k x4 (([t600, t603] : List (List Int))) 1).bind fun t609 => (if t599 = t609 then ((spec_TagsOf.f k x589001).bind fun t610 => (some (true, x589000, t610))) else (some (false, 0, ([] : List Int)))))))))))
def spec_DialOnce.f (k : Nat) (l0_0 : List Int) (l0_1 : List (S113)) (l1 : List (S89)) (l2 : List Int) (l3 : List Int) (a4 : Int) : Option (Bool × Int × List Int) := (spec_PassPath.f k l1 l0_0 l0_1).bind fun bt575 => (if bt575.2.2 = true then ((spec_ChooseAnswer.f k l2 l3 bt575.1 bt575.2.1).bind fun bt583 => (if bt583.2.2 = true then ((spec_FitsHello.f k l0_0 l0_1 bt583.1 bt583.2.1).bind fun t589 => (spec_DialOnce.j0 k a4 (!t589) l0_0 l0_1 bt575.1 bt575.2.1 bt583.1 bt583.2.1)) else (spec_DialOnce.j0 k a4 true l0_0 l0_1 bt575.1 bt575.2.1 bt583.1 bt583.2.1))) else (some (false, 0, ([] : List Int))))
theorem spec_DialOnce.mono_l : ∀ k, (∀ y0 y1 y2 y3 y4 y5 y6 y7, LeO (spec_DialOnce.j0 k y0 y1 y2 y3 y4 y5 y6 y7) (spec_DialOnce.j0 (k + 1) y0 y1 y2 y3 y4 y5 y6 y7))
 | 0 => fun _ _ _ _ _ _ _ _ r h => by simp [spec_DialOnce.j0] at h
 | k + 1 => by
  have ih0 := spec_DialOnce.mono_l k
  ·intro y0 y1 y2 y3 y4 y5 y6 y7
   unfold spec_DialOnce.j0
   repeat' first
   | (with_reducible exact ih0 _ _ _ _ _ _ _ _)
   | (with_reducible exact spec_AnswerBytes.mono _ _ _)
   | (with_reducible exact spec_ChooseAnswer.mono _ _ _ _ _)
   | (with_reducible exact spec_FinishOf.mono _ _ _ _)
   | (with_reducible exact spec_FitsHello.mono _ _ _ _ _)
   | (with_reducible exact spec_HelloBytes.mono _ _ _)
   | (with_reducible exact spec_PassPath.mono _ _ _ _)
   | (with_reducible exact spec_TagsOf.mono _ _)
   | (with_reducible exact LeO.refl _)
   | (with_reducible exact LeO.none _)
   | (with_reducible refine LeO.ite ?_ ?_)
   | (with_reducible refine LeO.bind ?_ (fun _ => ?_))
   | exact ih0 _ _ _ _ _ _ _ _
   | exact spec_AnswerBytes.mono _ _ _
   | exact spec_ChooseAnswer.mono _ _ _ _ _
   | exact spec_FinishOf.mono _ _ _ _
   | exact spec_FitsHello.mono _ _ _ _ _
   | exact spec_HelloBytes.mono _ _ _
   | exact spec_PassPath.mono _ _ _ _
   | exact spec_TagsOf.mono _ _
   | exact LeO.none _
   | refine LeO.ite ?_ ?_
   | refine LeO.bind ?_ (fun _ => ?_)
theorem spec_DialOnce.mono : ∀ a0 a1 a2 a3 a4 a5 k, LeO (spec_DialOnce.f k a0 a1 a2 a3 a4 a5) (spec_DialOnce.f (k + 1) a0 a1 a2 a3 a4 a5) := by
 intro a0 a1 a2 a3 a4 a5 k
 have ih0 := spec_DialOnce.mono_l k
 unfold spec_DialOnce.f
 repeat' first
   | (with_reducible exact ih0 _ _ _ _ _ _ _ _)
   | (with_reducible exact spec_AnswerBytes.mono _ _ _)
   | (with_reducible exact spec_ChooseAnswer.mono _ _ _ _ _)
   | (with_reducible exact spec_FinishOf.mono _ _ _ _)
   | (with_reducible exact spec_FitsHello.mono _ _ _ _ _)
   | (with_reducible exact spec_HelloBytes.mono _ _ _)
   | (with_reducible exact spec_PassPath.mono _ _ _ _)
   | (with_reducible exact spec_TagsOf.mono _ _)
   | (with_reducible exact LeO.refl _)
   | (with_reducible exact LeO.none _)
   | (with_reducible refine LeO.ite ?_ ?_)
   | (with_reducible refine LeO.bind ?_ (fun _ => ?_))
   | exact ih0 _ _ _ _ _ _ _ _
   | exact spec_AnswerBytes.mono _ _ _
   | exact spec_ChooseAnswer.mono _ _ _ _ _
   | exact spec_FinishOf.mono _ _ _ _
   | exact spec_FitsHello.mono _ _ _ _ _
   | exact spec_HelloBytes.mono _ _ _
   | exact spec_PassPath.mono _ _ _ _
   | exact spec_TagsOf.mono _ _
   | exact LeO.none _
   | refine LeO.ite ?_ ?_
   | refine LeO.bind ?_ (fun _ => ?_)
def spec_DialOnce.T7 : Bool × List (List Nat × List Nat) := (true, [([], []), ([], []), ([1], [1]), ([], []), ([3, 2], [3]), ([2, 4], [2, 4]), ([0, 5, 4], [0, 5]), ([6, 6, 0, 1, 2, 3, 4, 5, 6], [6])])
def spec_DialOnce.B7 : List Nat := [0, 0, 2, 0, 14, 30, 63, 127]
theorem spec_DialOnce.tab7 : rtab .any (opsOf Try.f51 7) = spec_DialOnce.T7 := by kernel_rfl
theorem spec_DialOnce.bits7 : waitsOk spec_DialOnce.T7.2 spec_DialOnce.B7 = true := by kernel_rfl
def spec_DialOnce.T8 : Bool × List (List Nat × List Nat) := (true, [([], []), ([0], [0]), ([1], [1]), ([2], [2]), ([2], [2]), ([2], [2]), ([5, 2, 2], [2, 5]), ([2], [2]), ([7, 6, 2], [2, 7]), ([6, 8, 2], [2, 6, 8]), ([4, 9, 8, 2], [2, 4, 9]), ([3, 10, 2], [2, 3, 10]), ([2, 11], [2, 11])])
def spec_DialOnce.B8 : List Nat := [0, 1, 3, 7, 7, 7, 39, 7, 231, 487, 1015, 2047, 4095]
theorem spec_DialOnce.tab8 : rtab .any (opsOf Try.f51 8) = spec_DialOnce.T8 := by kernel_rfl
theorem spec_DialOnce.bits8 : waitsOk spec_DialOnce.T8.2 spec_DialOnce.B8 = true := by kernel_rfl
theorem spec_DialOnce.calls (k : Nat) (A0_0 : Option Addr) (c0_0 : Nat) (l0_0 : List Int) (A0_1 : Option Addr) (c0_1 : Nat) (l0_1 : List (S113)) (A1 : Option Addr) (c1 : Nat) (l1 : List (S89)) (A2 : Option Addr) (c2 : Nat) (l2 : List Int) (A3 : Option Addr) (c3 : Nat) (l3 : List Int) (a4 : Int) (r1 : Bool) (r2 : Int) (r3 : List Int) (w : World) (hr0_0 : Kd.C (Kd.int .i64) w A0_0 l0_0.length l0_0) (hc0_0 : l0_0.length ≤ c0_0) (hr0_1 : Kd.C k113 w A0_1 l0_1.length l0_1) (hc0_1 : l0_1.length ≤ c0_1) (hr1 : Kd.C k89 w A1 l1.length l1) (hc1 : l1.length ≤ c1) (hr2 : Kd.C (Kd.int .i64) w A2 l2.length l2) (hc2 : l2.length ≤ c2) (hr3 : Kd.C (Kd.int .i64) w A3 l3.length l3) (hc3 : l3.length ≤ c3) (h : spec_DialOnce.f k l0_0 l0_1 l1 l2 l3 a4 = some (r1, r2, r3)) :
  Calls Try.prog 51 #[.agg #[.slice A0_0 l0_0.length c0_0, .slice A0_1 l0_1.length c0_1], .slice A1 l1.length c1, .slice A2 l2.length c2, .slice A3 l3.length c3, .int .i64 a4] w fun e w' => ∃ v2_ : Value, e = .returned (.agg #[.bool r1, .int .i64 r2, v2_]) ∧ Kd.R (Kd.int .i64) 3 w' w.heap.size (fun _ => True) v2_ r3 ∧ Below w.heap.size w w' := by
 have hu71 := Try.underlying71
 have hu48 := Try.underlying48
 have hu101 := Try.underlying101
 have HR0_0 := Q_ hr0_0
 have HC0_0 := Q_ hc0_0
 clear hr0_0 hc0_0
 have HR0_1 := Q_ hr0_1
 have HC0_1 := Q_ hc0_1
 clear hr0_1 hc0_1
 have HR1 := Q_ hr1
 have HC1 := Q_ hc1
 clear hr1 hc1
 have HR2 := Q_ hr2
 have HC2 := Q_ hc2
 clear hr2 hc2
 have HR3 := Q_ hr3
 have HC3 := Q_ hc3
 clear hr3 hc3
 have HB := Q_ (Below.refl w.heap.size w)
 have H : ((spec_PassPath.f k l1 l0_0 l0_1).bind fun bt575 => (if bt575.2.2 = true then ((spec_ChooseAnswer.f k l2 l3 bt575.1 bt575.2.1).bind fun bt583 => (if bt583.2.2 = true then ((spec_FitsHello.f k l0_0 l0_1 bt583.1 bt583.2.1).bind fun t589 => (spec_DialOnce.j0 k a4 (!t589) l0_0 l0_1 bt575.1 bt575.2.1 bt583.1 bt583.2.1)) else (spec_DialOnce.j0 k a4 true l0_0 l0_1 bt575.1 bt575.2.1 bt583.1 bt583.2.1))) else (some (false, 0, ([] : List Int))))) = some (r1, r2, r3) := h
 clear h
 have HS_ := Q_ H
 clear H
 go_enter Try.func51, Try.ntmps51
 go_upto_region 1 with (first | ((with_reducible refine gate_dst (N := 5) rfl ?_); (try (refine gate_guard (by rfl) ?_; dsimp only)); refine box_event ?hg (N := 5) ?hd (cs := #[.slice A0_0 l0_0.length c0_0, .slice A0_1 l0_1.length c0_1]) (t := 71) ?hr ?_; (case hd => rfl); (case hg => rfl); (case hr => first | (go_simp; done) | (go_simp; rfl)); intro gb573 hg w6 hbox hb; have _ := Q_ (below_step (pb_ HB.out) hb); have BK573 := Q_ (hbox); have GW573 := Q_ ((by rw [hg]; exact (below_size (pb_ HB.out)) : w.heap.size ≤ gb573)); have GE573 := GW573; clear HB; rename_i HB; clear hb hbox hg) | ((with_reducible refine gate_dst (N := 10) rfl ?_); (try (refine gate_guard (by rfl) ?_; dsimp only)); refine box_event ?hg (N := 10) ?hd (cs := #[.bool false, .int .i64 0, .slice none 0 0]) (t := 48) ?hr ?_; (case hd => rfl); (case hg => rfl); (case hr => first | (go_simp; done) | (go_simp; rfl)); intro gb574 hg w7 hbox hb; have _ := Q_ (bb_ BK573.out hb); have _ := Q_ (below_step (pb1_ HB.out GE573.out) hb); have BK574 := Q_ (hbox); have GW574 := Q_ ((by rw [hg]; exact (below_size (pb1_ HB.out GE573.out)) : w.heap.size ≤ gb574)); have GE574 := GW574; have NB573_574 := Q_ ((by rw [hg]; exact Nat.ne_of_lt (blk_lt (pk_ BK573.out)) : gb573 ≠ gb574)); have NB574_573 := Q_ NB573_574.out.symm; clear BK573 HB; rename_i BK573 HB; clear hb hbox hg))
 (try simp only [Act.put, List.setIfInBounds_toArray, List.set_cons_zero, List.set_cons_succ])
 have H := HS_.out
 clear HS_
 replace H := Option.bind_eq_some_iff.mp H
 obtain ⟨⟨t575, t578, t581⟩, A80, H⟩ := H
 (try dsimp only at H)
 have A8 := Q_ A80
 clear A80
 have HS_ := Q_ H
 clear H
 have hnb9 := NB573_574.out
 have hnc9 := NB574_573.out
 have hcz10 := bc2_ BK573.out
 go_upto_if 23 with (first | ((with_reducible refine gate_callee (f := 63) rfl ?_); refine gl_ (some 19) Try.func63 #[.slice A1 l1.length c1, .agg #[.slice A0_0 l0_0.length c0_0, .slice A0_1 l0_1.length c0_1]] ?_; (with_reducible refine (spec_PassPath.calls k _ _ l1 _ _ l0_0 _ _ l0_1 t575 t578 t581 _ ?side1 ?side2 ?side3 ?side4 ?side5 ?side6 A8.out).mono ?_); (case side1 => exact cb_ HR1 HB); (case side2 => exact HC1.out); (case side3 => exact cb_ HR0_0 HB); (case side4 => exact HC0_0.out); (case side5 => exact cb_ HR0_1 HB); (case side6 => exact HC0_1.out); rintro e w11 ⟨v576, v579, rfl, ho0, ho1, hb⟩; refine ⟨_, rfl, ?_⟩; have _ := Q_ (Kd.R_lower ho0 (below_size (pb2_ HB.out GE573.out GE574.out))); have _ := Q_ (Kd.N_lower (Kd.N_mono (ok' := fun k_ => some k_ ≠ (v576 : Value).ownBlock ∧ k_ ≠ gb573 ∧ k_ ≠ gb574) (Kd.S_N (Kd.S_bound ho1)) (fun k_ hk_ => ⟨hk_.1, (Kd.freshB (g := gb573) (o := .cells #[.slice A0_0 l0_0.length c0_0, .slice A0_1 l0_1.length c0_1] 71 (0, 0)) (pk_ BK573.out) k_ hk_.2.1), (Kd.freshB (g := gb574) (o := .cells #[.bool false, .int .i64 0, .slice none 0 0] 48 (0, 0)) (pk_ BK574.out) k_ hk_.2.1)⟩)) (below_size (pb2_ HB.out GE573.out GE574.out))); have _ := Q_ (bb_ BK573.out hb); have _ := Q_ (bb_ BK574.out hb); have _ := Q_ (below_step (pb2_ HB.out GE573.out GE574.out) hb); clear BK573 BK574 HB; rename_i HO577 HO580 BK573 BK574 HB; (try clear hb); (try clear hb2); (try clear hk); (try clear hi); (try clear ho0); (try clear ho1)) | ((with_reducible refine gate_dst (N := 11) rfl ?_); (try (refine gate_guard (by rfl) ?_; dsimp only)); refine box_event ?hg (N := 11) ?hd (cs := #[.slice none 0 0, .slice none 0 0]) (t := 71) ?hr ?_; (case hd => rfl); (case hg => rfl); (case hr => first | (go_simp; done) | (go_simp; rfl)); intro gb582 hg w12 hbox hb; have _ := Q_ (Kd.R_below (pr_ HO577.out) hb); have _ := Q_ (Kd.N_below (Kd.N_elderB (by (with_reducible repeat (first | apply Kd.N_alloc | apply Kd.N_drewN | apply Kd.N_drew)); exact HO580.out) gb582 (Nat.le_of_eq hg.symm)) hb); have _ := Q_ (bb_ BK573.out hb); have _ := Q_ (bb_ BK574.out hb); have _ := Q_ (below_step (pb2_ HB.out GE573.out GE574.out) hb); have BK582 := Q_ (hbox); have GW582 := Q_ ((by rw [hg]; exact (below_size (pb2_ HB.out GE573.out GE574.out)) : w.heap.size ≤ gb582)); have GE582 := GW582; have NB573_582 := Q_ ((by rw [hg]; exact Nat.ne_of_lt (blk_lt (pk_ BK573.out)) : gb573 ≠ gb582)); have NB582_573 := Q_ NB573_582.out.symm; have NB574_582 := Q_ ((by rw [hg]; exact Nat.ne_of_lt (blk_lt (pk_ BK574.out)) : gb574 ≠ gb582)); have NB582_574 := Q_ NB574_582.out.symm; clear HO577 HO580 BK573 BK574 HB; rename_i HO577 HO580 BK573 BK574 HB; clear hb hbox hg; obtain ⟨Ao13, co13, eo13⟩ := Kd.R_slice HO577.out; subst eo13; have hnb14 := NB582_573.out; have hnc14 := NB573_582.out; have hnb15 := NB582_574.out; have hnc15 := NB574_582.out; have hcz16 := bc2_ BK582.out; obtain ⟨Ao17, co17, eo17⟩ := Kd.N_slice HO580.out; subst eo17))
 (try simp only [Act.put, List.setIfInBounds_toArray, List.set_cons_zero, List.set_cons_succ])
 have H := HS_.out
 clear HS_
 by_cases c18 : t581 = true
 rotate_left
 ·replace c18 := bf_ c18
  subst c18
  rw [if_neg ff_] at H
  simp only [Option.some.injEq, Prod.mk.injEq] at H
  obtain ⟨rfl, rfl, rfl⟩ := H
  have hnb19 := NB574_573.out
  have hnc19 := NB573_574.out
  have hnb20 := NB574_582.out
  have hnc20 := NB582_574.out
  have hcz21 := bc3_ BK574.out
  go_wp2
  refine bodyPost_ret (results_cell_row rfl _ _ gb574 48 #[.bool false, .int .i64 0, .slice none 0 0] (0, 0) _ rfl (pp_ BK574.out) Try.underlying48 rfl (by kernel_rfl)) rfl ?_
  exact ⟨_, er_, by first | exact Kd.R_nil _ _ _ _ _ | exact Kd.N_nil _ _ _ _ _ | exact Kd.V_nil _ _ _ _ _ | exact Kd.Q_nil _ _ _ _ _ | exact Kd.S_nil _ _ _ _ _, pb3_ HB.out GE573.out GE574.out GE582.out⟩
 subst c18
 rw [if_pos rfl] at H
 replace H := Option.bind_eq_some_iff.mp H
 obtain ⟨⟨t583, t584, t587⟩, A220, H⟩ := H
 (try dsimp only at H)
 have A22 := Q_ A220
 clear A220
 have HC23 := Q_ H
 clear H
 have hnb24 := NB582_573.out
 have hnc24 := NB573_582.out
 have hnb25 := NB582_574.out
 have hnc25 := NB574_582.out
 have hcz26 := bc2_ BK582.out
 go_upto_region 5 with (first | ((with_reducible refine gate_callee (f := 64) rfl ?_); refine gl_ (some 29) Try.func64 #[.slice A2 l2.length c2, .slice A3 l3.length c3, .agg #[.slice Ao13 t575.length co13, .slice Ao17 t578.length co17]] ?_; (with_reducible refine (spec_ChooseAnswer.calls k _ _ l2 _ _ l3 _ _ t575 _ _ t578 t583 t584 t587 _ ?side1 ?side2 ?side3 ?side4 ?side5 ?side6 ?side7 ?side8 A22.out).mono ?_); (case side1 => exact Kd.C_below HR2.out (pb3_ HB.out GE573.out GE574.out GE582.out)); (case side2 => exact HC2.out); (case side3 => exact Kd.C_below HR3.out (pb3_ HB.out GE573.out GE574.out GE582.out)); (case side4 => exact HC3.out); (case side5 => refine (Kd.R_reads' (e := 3) (base := w.heap.size) (ok := fun k_ => True) (n := t575.length) (c := co13) ?_).2.2; exact (pr_ (rf2_ HO577.out BK582.out))); (case side6 => exact (Kd.R_reads' HO577.out).2.1); (case side7 => refine (Kd.N_reads' (e := 113) (base := w.heap.size) (ok := fun k_ => ((some k_ ≠ (.slice Ao13 t575.length co13 : Value).ownBlock ∧ (k_ ≠ gb573 ∧ k_ ≠ gb574)) ∧ k_ ≠ gb582)) (n := t578.length) (c := co17) ?_).2.2; exact (by (with_reducible repeat (first | apply Kd.N_alloc | apply Kd.N_drewN | apply Kd.N_drew)); exact (Kd.N_mono (Kd.N_far (p := ⟨gb582, 1, none⟩) (Kd.N_far (p := ⟨gb582, 0, none⟩) (Kd.N_mono HO580.out (fun k_ hk => (⟨hk, hk.2⟩ : _ ∧ k_ ≠ gb582))) (fun _ hk => hk.2) (.slice Ao13 t575.length co13)) (fun _ hk => hk.2) (.slice Ao17 t578.length co17)) (fun _ h_ => h_.1)))); (case side8 => exact (Kd.N_reads' HO580.out).2.1); rintro e w27 ⟨v585, rfl, ho0, hb⟩; refine ⟨_, rfl, ?_⟩; have _ := Q_ (Kd.R_below (pr_ (rf2_ HO577.out BK582.out)) hb); have _ := Q_ (Kd.N_elder' (by (with_reducible repeat (first | apply Kd.N_alloc | apply Kd.N_drewN | apply Kd.N_drew)); exact (Kd.N_mono (Kd.N_far (p := ⟨gb582, 1, none⟩) (Kd.N_far (p := ⟨gb582, 0, none⟩) (Kd.N_mono HO580.out (fun k_ hk => (⟨hk, hk.2⟩ : _ ∧ k_ ≠ gb582))) (fun _ hk => hk.2) (.slice Ao13 t575.length co13)) (fun _ hk => hk.2) (.slice Ao17 t578.length co17)) (fun _ h_ => h_.1))) (Kd.S_base ho0) hb); have HO586 := Q_ (Kd.N_lower (Kd.N_mono (ok' := fun k_ => some k_ ≠ (.slice Ao13 t575.length co13 : Value).ownBlock ∧ some k_ ≠ (.slice Ao17 t578.length co17 : Value).ownBlock ∧ k_ ≠ gb573 ∧ k_ ≠ gb574 ∧ k_ ≠ gb582) (Kd.S_N (Kd.S_bound ho0)) (fun k_ hk_ => ⟨(Kd.fresh' (Kd.R_lt (pr_ (rf2_ HO577.out BK582.out))) k_ hk_.2.1), (Kd.fresh' (Kd.N_lt (by (with_reducible repeat (first | apply Kd.N_alloc | apply Kd.N_drewN | apply Kd.N_drew)); exact (Kd.N_mono (Kd.N_far (p := ⟨gb582, 1, none⟩) (Kd.N_far (p := ⟨gb582, 0, none⟩) (Kd.N_mono HO580.out (fun k_ hk => (⟨hk, hk.2⟩ : _ ∧ k_ ≠ gb582))) (fun _ hk => hk.2) (.slice Ao13 t575.length co13)) (fun _ hk => hk.2) (.slice Ao17 t578.length co17)) (fun _ h_ => h_.1)))) k_ hk_.2.1), (Kd.freshB (g := gb573) (o := .cells #[.slice A0_0 l0_0.length c0_0, .slice A0_1 l0_1.length c0_1] 71 (0, 0)) (pp_ BK573.out) k_ hk_.2.1), (Kd.freshB (g := gb574) (o := .cells #[.bool false, .int .i64 0, .slice none 0 0] 48 (0, 0)) (pp_ BK574.out) k_ hk_.2.1), (Kd.freshB (g := gb582) (o := .cells #[.slice Ao13 t575.length co13, .slice Ao17 t578.length co17] 71 (0, 0)) (pp_ BK582.out) k_ hk_.2.1)⟩)) (below_size (pb3_ HB.out GE573.out GE574.out GE582.out))); have _ := Q_ (blk_below (g := gb573) (o := .cells #[.slice A0_0 l0_0.length c0_0, .slice A0_1 l0_1.length c0_1] 71 (0, 0)) (pp_ BK573.out) hb); have _ := Q_ (blk_below (g := gb574) (o := .cells #[.bool false, .int .i64 0, .slice none 0 0] 48 (0, 0)) (pp_ BK574.out) hb); have _ := Q_ (blk_below (g := gb582) (o := .cells #[.slice Ao13 t575.length co13, .slice Ao17 t578.length co17] 71 (0, 0)) (pp_ BK582.out) hb); have _ := Q_ (below_step (pb3_ HB.out GE573.out GE574.out GE582.out) hb); clear HO577 HO580 BK573 BK574 BK582 HB; rename_i HO577 HO580 BK573 BK574 BK582 HB; (try clear hb); (try clear hb2); (try clear hk); (try clear hi); (try clear ho0)) | ((with_reducible refine gate_dst (N := 13) rfl ?_); (try (refine gate_guard (by rfl) ?_; dsimp only)); refine box_event ?hg (N := 13) ?hd (cs := #[.int .i64 0, .slice none 0 0]) (t := 101) ?hr ?_; (case hd => rfl); (case hg => rfl); (case hr => first | (go_simp; done) | (go_simp; rfl)); intro gb588 hg w28 hbox hb; have _ := Q_ (Kd.R_below (pr_ HO577.out) hb); have _ := Q_ (Kd.N_below (Kd.N_elderB (by (with_reducible repeat (first | apply Kd.N_alloc | apply Kd.N_drewN | apply Kd.N_drew)); exact HO580.out) gb588 (Nat.le_of_eq hg.symm)) hb); have _ := Q_ (Kd.N_below (Kd.N_elderB (by (with_reducible repeat (first | apply Kd.N_alloc | apply Kd.N_drewN | apply Kd.N_drew)); exact HO586.out) gb588 (Nat.le_of_eq hg.symm)) hb); have _ := Q_ (bb_ BK573.out hb); have _ := Q_ (bb_ BK574.out hb); have _ := Q_ (bb_ BK582.out hb); have _ := Q_ (below_step (pb3_ HB.out GE573.out GE574.out GE582.out) hb); have BK588 := Q_ (hbox); have GW588 := Q_ ((by rw [hg]; exact (below_size (pb3_ HB.out GE573.out GE574.out GE582.out)) : w.heap.size ≤ gb588)); have GE588 := GW588; have NB573_588 := Q_ ((by rw [hg]; exact Nat.ne_of_lt (blk_lt (pk_ BK573.out)) : gb573 ≠ gb588)); have NB588_573 := Q_ NB573_588.out.symm; have NB574_588 := Q_ ((by rw [hg]; exact Nat.ne_of_lt (blk_lt (pk_ BK574.out)) : gb574 ≠ gb588)); have NB588_574 := Q_ NB574_588.out.symm; have NB582_588 := Q_ ((by rw [hg]; exact Nat.ne_of_lt (blk_lt (pk_ BK582.out)) : gb582 ≠ gb588)); have NB588_582 := Q_ NB582_588.out.symm; clear HO577 HO580 HO586 BK573 BK574 BK582 HB; rename_i HO577 HO580 HO586 BK573 BK574 BK582 HB; clear hb hbox hg; have hnb29 := NB588_573.out; have hnc29 := NB573_588.out; have hnb30 := NB588_574.out; have hnc30 := NB574_588.out; have hnb31 := NB588_582.out; have hnc31 := NB582_588.out; have hcz32 := bc2_ BK588.out; obtain ⟨Ao33, co33, eo33⟩ := Kd.N_slice HO586.out; subst eo33))
 (try simp only [Act.put, List.setIfInBounds_toArray, List.set_cons_zero, List.set_cons_succ])
 go_cut [39] (fun v39 wc => ∃ (kq : Nat) (x39_22 : Bool), v39 = .bool x39_22 ∧ Aside0 (spec_DialOnce.j0 kq a4 x39_22 l0_0 l0_1 t575 t578 t583 t584 = some (r1, r2, r3)) ∧ Aside0 (kq ≤ k) ∧ Aside0 (Kd.R (Kd.int .i64) 3 wc w.heap.size (fun _ => True) (.slice Ao13 t575.length co13) t575) ∧ Aside0 (Kd.N k113 113 wc w.heap.size (fun k_ => some k_ ≠ ((.slice Ao13 t575.length co13) : Value).ownBlock ∧ some k_ ≠ ((.slice Ao33 t584.length co33) : Value).ownBlock ∧ k_ ≠ gb573 ∧ k_ ≠ gb574 ∧ k_ ≠ gb582 ∧ k_ ≠ gb588) (.slice Ao17 t578.length co17) t578) ∧ Aside0 (Kd.N k113 113 wc w.heap.size (fun k_ => some k_ ≠ ((.slice Ao13 t575.length co13) : Value).ownBlock ∧ some k_ ≠ ((.slice Ao17 t578.length co17) : Value).ownBlock ∧ k_ ≠ gb573 ∧ k_ ≠ gb574 ∧ k_ ≠ gb582 ∧ k_ ≠ gb588) (.slice Ao33 t584.length co33) t584) ∧ Aside0 (wc.heap[gb573]? = some (.cells #[(.slice A0_0 l0_0.length c0_0), (.slice A0_1 l0_1.length c0_1)] 71 (0, 0))) ∧ Aside0 (wc.heap[gb574]? = some (.cells #[.bool false, .int .i64 0, (.slice none 0 0)] 48 (0, 0))) ∧ Aside0 (wc.heap[gb582]? = some (.cells #[(.slice Ao13 t575.length co13), (.slice Ao17 t578.length co17)] 71 (0, 0))) ∧ Aside0 (wc.heap[gb588]? = some (.cells #[.int .i64 t583, (.slice Ao33 t584.length co33)] 101 (0, 0))) ∧ Aside0 (Below w.heap.size w wc))
 case first =>
  have H := HC23.out
  clear HC23
  by_cases c34 : t587 = true
  rotate_left
  ·replace c34 := bf_ c34
   subst c34
   rw [if_neg ff_] at H
   have H' := Q_ H
   clear H
   go_wp2
   go_meet
   case rel => exact ⟨_, (true), el_, H', ⟨by first | omega | exact Nat.le_refl _⟩, ⟨pr_ (Kd.R_mono (rf2_ HO577.out BK588.out) (fun _ hk => trivial))⟩, ⟨by (with_reducible repeat (first | apply Kd.N_alloc | apply Kd.N_drewN | apply Kd.N_drew)); exact Kd.N_mono (Kd.N_far (p := ⟨gb588, 1, none⟩) (Kd.N_far (p := ⟨gb588, 0, none⟩) (Kd.N_mono HO580.out (fun k_ hk => (⟨hk, hk.2⟩ : _ ∧ k_ ≠ gb588))) (fun _ hk => hk.2) (.int .i64 t583)) (fun _ hk => hk.2) (.slice Ao33 t584.length co33)) (fun _ hk => ⟨hk.1.1.1.1.1, ⟨hk.1.1.2, ⟨hk.1.1.1.1.2.1, ⟨hk.1.1.1.1.2.2, ⟨hk.1.1.1.2, hk.1.2⟩⟩⟩⟩⟩)⟩, ⟨by (with_reducible repeat (first | apply Kd.N_alloc | apply Kd.N_drewN | apply Kd.N_drew)); exact Kd.N_mono (Kd.N_far (p := ⟨gb588, 1, none⟩) (Kd.N_far (p := ⟨gb588, 0, none⟩) (Kd.N_mono HO586.out (fun k_ hk => (⟨hk, hk.2⟩ : _ ∧ k_ ≠ gb588))) (fun _ hk => hk.2) (.int .i64 t583)) (fun _ hk => hk.2) (.slice Ao33 t584.length co33)) (fun _ hk => ⟨hk.1.1.1, ⟨hk.1.1.2.1, ⟨hk.1.1.2.2.1, ⟨hk.1.1.2.2.2.1, ⟨hk.1.1.2.2.2.2, hk.1.2⟩⟩⟩⟩⟩)⟩, ⟨pp_ BK573.out⟩, ⟨pp_ BK574.out⟩, ⟨pp_ BK582.out⟩, ⟨pp_ BK588.out⟩, ⟨pb4_ HB.out GE573.out GE574.out GE582.out GE588.out⟩⟩
  subst c34
  rw [if_pos rfl] at H
  replace H := Option.bind_eq_some_iff.mp H
  obtain ⟨t589, A350, H⟩ := H
  (try dsimp only at H)
  have A35 := Q_ A350
  clear A350
  have H' := Q_ H
  clear H
  have hnb36 := NB573_574.out
  have hnc36 := NB574_573.out
  have hnb37 := NB573_582.out
  have hnc37 := NB582_573.out
  have hnb38 := NB573_588.out
  have hnc38 := NB588_573.out
  have hcz39 := bc2_ BK573.out
  have hnb40 := NB588_574.out
  have hnc40 := NB574_588.out
  have hnb41 := NB588_582.out
  have hnc41 := NB582_588.out
  have hcz42 := bc2_ BK588.out
  go_wp2_with (first | (go_at_call 65; (with_reducible refine (spec_FitsHello.calls k _ _ l0_0 _ _ l0_1 t583 _ _ t584 t589 _ ?side1 ?side2 ?side3 ?side4 ?side5 ?side6 A35.out).mono ?_); (case side1 => exact Kd.C_below HR0_0.out (pb4_ HB.out GE573.out GE574.out GE582.out GE588.out)); (case side2 => exact HC0_0.out); (case side3 => exact Kd.C_below HR0_1.out (pb4_ HB.out GE573.out GE574.out GE582.out GE588.out)); (case side4 => exact HC0_1.out); (case side5 => refine (Kd.N_reads' (e := 113) (base := w.heap.size) (ok := fun k_ => ((some k_ ≠ (.slice Ao13 t575.length co13 : Value).ownBlock ∧ (some k_ ≠ (.slice Ao17 t578.length co17 : Value).ownBlock ∧ (k_ ≠ gb573 ∧ (k_ ≠ gb574 ∧ k_ ≠ gb582)))) ∧ k_ ≠ gb588)) (n := t584.length) (c := co33) ?_).2.2; exact (by (with_reducible repeat (first | apply Kd.N_alloc | apply Kd.N_drewN | apply Kd.N_drew)); exact (Kd.N_mono (Kd.N_far (p := ⟨gb588, 1, none⟩) (Kd.N_far (p := ⟨gb588, 0, none⟩) (Kd.N_mono HO586.out (fun k_ hk => (⟨hk, hk.2⟩ : _ ∧ k_ ≠ gb588))) (fun _ hk => hk.2) (.int .i64 t583)) (fun _ hk => hk.2) (.slice Ao33 t584.length co33)) (fun _ h_ => h_.1)))); (case side6 => exact (Kd.N_reads' HO586.out).2.1); rintro e w43 ⟨rfl, hb⟩; have _ := Q_ (Kd.R_below (pr_ (rf2_ HO577.out BK588.out)) hb); have _ := Q_ (Kd.N_below (by (with_reducible repeat (first | apply Kd.N_alloc | apply Kd.N_drewN | apply Kd.N_drew)); exact (Kd.N_mono (Kd.N_far (p := ⟨gb588, 1, none⟩) (Kd.N_far (p := ⟨gb588, 0, none⟩) (Kd.N_mono HO580.out (fun k_ hk => (⟨hk, hk.2⟩ : _ ∧ k_ ≠ gb588))) (fun _ hk => hk.2) (.int .i64 t583)) (fun _ hk => hk.2) (.slice Ao33 t584.length co33)) (fun _ h_ => h_.1))) hb); have _ := Q_ (Kd.N_below (by (with_reducible repeat (first | apply Kd.N_alloc | apply Kd.N_drewN | apply Kd.N_drew)); exact (Kd.N_mono (Kd.N_far (p := ⟨gb588, 1, none⟩) (Kd.N_far (p := ⟨gb588, 0, none⟩) (Kd.N_mono HO586.out (fun k_ hk => (⟨hk, hk.2⟩ : _ ∧ k_ ≠ gb588))) (fun _ hk => hk.2) (.int .i64 t583)) (fun _ hk => hk.2) (.slice Ao33 t584.length co33)) (fun _ h_ => h_.1))) hb); have _ := Q_ (blk_below (g := gb573) (o := .cells #[.slice A0_0 l0_0.length c0_0, .slice A0_1 l0_1.length c0_1] 71 (0, 0)) (pp_ BK573.out) hb); have _ := Q_ (blk_below (g := gb574) (o := .cells #[.bool false, .int .i64 0, .slice none 0 0] 48 (0, 0)) (pp_ BK574.out) hb); have _ := Q_ (blk_below (g := gb582) (o := .cells #[.slice Ao13 t575.length co13, .slice Ao17 t578.length co17] 71 (0, 0)) (pp_ BK582.out) hb); have _ := Q_ (blk_below (g := gb588) (o := .cells #[.int .i64 t583, .slice Ao33 t584.length co33] 101 (0, 0)) (pp_ BK588.out) hb); have _ := Q_ (below_step (pb4_ HB.out GE573.out GE574.out GE582.out GE588.out) hb); clear HO577 HO580 HO586 BK573 BK574 BK582 BK588 HB; rename_i HO577 HO580 HO586 BK573 BK574 BK582 BK588 HB; (try clear hb); (try clear hb2); (try clear hk); (try clear hi)))
  go_meet
  case rel => exact ⟨_, (!t589), el_, H', ⟨by first | omega | exact Nat.le_refl _⟩, ⟨pr_ HO577.out⟩, ⟨by (with_reducible repeat (first | apply Kd.N_alloc | apply Kd.N_drewN | apply Kd.N_drew)); exact Kd.N_mono HO580.out (fun _ hk => ⟨hk.1.1.1.1, ⟨hk.1.2, ⟨hk.1.1.1.2.1, ⟨hk.1.1.1.2.2, ⟨hk.1.1.2, hk.2⟩⟩⟩⟩⟩)⟩, ⟨by (with_reducible repeat (first | apply Kd.N_alloc | apply Kd.N_drewN | apply Kd.N_drew)); exact Kd.N_mono HO586.out (fun _ hk => ⟨hk.1.1, ⟨hk.1.2.1, ⟨hk.1.2.2.1, ⟨hk.1.2.2.2.1, ⟨hk.1.2.2.2.2, hk.2⟩⟩⟩⟩⟩)⟩, ⟨pk_ BK573.out⟩, ⟨pk_ BK574.out⟩, ⟨pk_ BK582.out⟩, ⟨pk_ BK588.out⟩, ⟨pb4_ HB.out GE573.out GE574.out GE582.out GE588.out⟩⟩
 clear HC23
 try clear c1
 try clear c2
 try clear p2
 try clear c3
 try clear c4
 try clear c5
 try clear c6
 try clear c9
 try clear c14
 try clear c15
 try clear c18
 try clear c19
 try clear c20
 try clear c24
 try clear c25
 try clear c29
 try clear c30
 try clear c31
 try clear c34
 try clear c36
 try clear c37
 try clear c38
 try clear c40
 try clear c41
 try clear hcz10
 try clear hcz16
 try clear hcz21
 try clear hcz26
 try clear hcz32
 try clear hcz39
 try clear hcz42
 obtain ⟨kq, x39_22, rfl, HA, HJ22, HO_583000, HO_583001, HO_589001, BK573, BK574, BK582, BK588, HB⟩ := hcut
 rcases kq with _ | kj22
 ·exact absurd HA.out (by simp [spec_DialOnce.j0])
 have H := HA.out
 clear HA
 simp only [spec_DialOnce.j0] at H
 by_cases c44 : x39_22 = true
 ·subst c44
  rw [if_pos rfl] at H
  simp only [Option.some.injEq, Prod.mk.injEq] at H
  obtain ⟨rfl, rfl, rfl⟩ := H
  have hnb45 := NB574_573.out
  have hnc45 := NB573_574.out
  have hnb46 := NB574_582.out
  have hnc46 := NB582_574.out
  have hnb47 := NB574_588.out
  have hnc47 := NB588_574.out
  have hcz48 := bc3_ BK574.out
  go_wp2
  refine bodyPost_ret (results_cell_row rfl _ _ gb574 48 #[.bool false, .int .i64 0, .slice none 0 0] (0, 0) _ rfl (pp_ BK574.out) Try.underlying48 rfl (by kernel_rfl)) rfl ?_
  exact ⟨_, er_, by first | exact Kd.R_nil _ _ _ _ _ | exact Kd.N_nil _ _ _ _ _ | exact Kd.V_nil _ _ _ _ _ | exact Kd.Q_nil _ _ _ _ _ | exact Kd.S_nil _ _ _ _ _, pb4_ HB.out GE573.out GE574.out GE582.out GE588.out⟩
 replace c44 := bf_ c44
 subst c44
 rw [if_neg ff_] at H
 replace H := Option.bind_eq_some_iff.mp H
 obtain ⟨t590, A490, H⟩ := H
 (try dsimp only at H)
 have A49 := Q_ A490
 clear A490
 replace H := Option.bind_eq_some_iff.mp H
 obtain ⟨t593, A500, H⟩ := H
 (try dsimp only at H)
 have A50 := Q_ A500
 clear A500
 obtain ⟨y596, hy596⟩ : ∃ y_ : List (List Int), y_ = (([t590, t593] : List (List Int))) := ⟨_, rfl⟩
 replace H : ((spec_FinishOf.f kj22 a4 y596 1).bind fun t599 => (if t599 = 0 then (some (false, 0, ([] : List Int))) else ((spec_HelloBytes.f kj22 t575 t578).bind fun t600 => ((spec_AnswerBytes.f kj22 t583 t584).bind fun t603 => ((spec_FinishOf.f kj22 a4 (([t600, t603] : List (List Int))) 1).bind fun t609 => (if t599 = t609 then ((spec_TagsOf.f kj22 t584).bind fun t610 => (some (true, t583, t610))) else (some (false, 0, ([] : List Int))))))))) = some (r1, r2, r3) := hb_ hy596 H
 have Ny596 := Q_ hy596
 clear hy596
 replace H := Option.bind_eq_some_iff.mp H
 obtain ⟨t599, A510, H⟩ := H
 (try dsimp only at H)
 have A51 := Q_ A510
 clear A510
 have HS_ := Q_ H
 clear H
 try go_wp2
 have _ := Q_ (Kd.R_drew HO_583000.out)
 have _ := Q_ (Kd.N_drew HO_583001.out)
 have _ := Q_ (Kd.N_drew HO_589001.out)
 have _ := Q_ (blk_drew BK573.out)
 have _ := Q_ (blk_drew BK574.out)
 have _ := Q_ (blk_drew BK582.out)
 have _ := Q_ (blk_drew BK588.out)
 have _ := Q_ (below_drew1 HB.out)
 clear HO_583000 HO_583001 HO_589001 BK573 BK574 BK582 BK588 HB
 rename_i HO_583000 HO_583001 HO_589001 BK573 BK574 BK582 BK588 HB
 refine start_ (n := 8) (S := fun w' => w'.cell? ⟨gb573, 0, none⟩ = some (.slice A0_0 l0_0.length c0_0) ∧ w'.cell? ⟨gb573, 1, none⟩ = some (.slice A0_1 l0_1.length c0_1) ∧ w'.cell? ⟨gb588, 0, none⟩ = some (.int .i64 t583) ∧ w'.cell? ⟨gb588, 1, none⟩ = some (.slice Ao33 t584.length co33)) (ds := []) (tf_ 0 8) (by kernel_rfl) rfl rfl ⟨(blk_cell BK573.out 0).trans rfl, (blk_cell BK573.out 1).trans rfl, (blk_cell BK588.out 0).trans rfl, (blk_cell BK588.out 1).trans rfl⟩ (fun hHeld => ?_); refine with_tabW spec_DialOnce.tab7 spec_DialOnce.bits7 (fun HT_ HW_ => ?_)
 generalize wc.drew = w52 at HO_583000 HO_583001 HO_589001 BK573 BK574 BK582 BK588 HB hHeld ⊢
 refine pu_ 0 (some 41) (tf_ 1 8) HT_ ?_
 refine ta_ 1 (some 42) (tf_ 2 8) HT_ HW_ hHeld ?_
 refine ta_ 3 (some 44) (tm_ 8 11) HT_ HW_ hHeld ?_
 refine on_ 2 (some 43) (tf_ 4 8) HT_ (fun K hK => ?_)
 refine goes_ Try.func67 (by kernel_rfl) rfl #[.agg #[.slice A0_0 l0_0.length c0_0, .slice A0_1 l0_1.length c0_1]] (by rfl) rfl rfl mp_ ?_
 with_reducible refine (spec_HelloBytes.calls kj22 _ _ l0_0 _ _ l0_1 t590 _ ?side1 ?side2 ?side3 ?side4 A49.out).mono ?_
 (case side1 => exact cb_ HR0_0 HB)
 (case side2 => exact HC0_0.out)
 (case side3 => exact cb_ HR0_1 HB)
 (case side4 => exact HC0_1.out)
 rintro e w53 ⟨v591, rfl, ho0, hb⟩
 refine ⟨_, rfl, ?_⟩
 have _ := Q_ (Kd.R_elder' (pr_ HO_583000.out) (Kd.R_base ho0) hb)
 have _ := Q_ (Kd.N_elder' (by (with_reducible repeat (first | apply Kd.N_alloc | apply Kd.N_drewN | apply Kd.N_drew)); exact HO_583001.out) (Kd.R_base ho0) hb)
 have _ := Q_ (Kd.N_elder' (by (with_reducible repeat (first | apply Kd.N_alloc | apply Kd.N_drewN | apply Kd.N_drew)); exact HO_589001.out) (Kd.R_base ho0) hb)
 have _ := Q_ (Kd.R_lower (Kd.R_new' ho0 (Kd.R_lt (pr_ HO_583000.out))) (below_size (pb4_ HB.out GE573.out GE574.out GE582.out GE588.out)))
 have _ := Q_ (bb_ BK573.out hb)
 have _ := Q_ (bb_ BK574.out hb)
 have _ := Q_ (bb_ BK582.out hb)
 have _ := Q_ (bb_ BK588.out hb)
 have _ := Q_ (below_step (pb4_ HB.out GE573.out GE574.out GE582.out GE588.out) hb)
 clear HO_583000 HO_583001 HO_589001 BK573 BK574 BK582 BK588 HB
 rename_i HO_583000 HO_583001 HO_589001 HO592 BK573 BK574 BK582 BK588 HB
 (try clear hb)
 (try clear hb2)
 (try clear hk)
 (try clear hi)
 (try clear ho0)
 refine hK.out _ _ ⟨(blk_cell BK573.out 0).trans rfl, (blk_cell BK573.out 1).trans rfl, (blk_cell BK588.out 0).trans rfl, (blk_cell BK588.out 1).trans rfl⟩ (fun hHeld => ?_)
 clear hK K
 refine no_ (some 43) ?_
 refine on_ 4 (some 45) (tf_ 5 8) HT_ (fun K hK => ?_)
 refine goes_ Try.func68 (by kernel_rfl) rfl #[.agg #[.int .i64 t583, .slice Ao33 t584.length co33]] (by rfl) rfl rfl mp_ ?_
 with_reducible refine (spec_AnswerBytes.calls kj22 t583 _ _ t584 t593 _ ?side1 ?side2 A50.out).mono ?_
 (case side1 => exact pc_ ((Kd.N_reads' HO_589001.out).2.2))
 (case side2 => exact (Kd.N_reads' HO_589001.out).2.1)
 rintro e w54 ⟨v594, rfl, ho0, hb⟩
 refine ⟨_, rfl, ?_⟩
 have _ := Q_ (Kd.R_elder' (pr_ HO_583000.out) (Kd.R_base ho0) hb)
 have _ := Q_ (Kd.N_elder' (by (with_reducible repeat (first | apply Kd.N_alloc | apply Kd.N_drewN | apply Kd.N_drew)); exact HO_583001.out) (Kd.R_base ho0) hb)
 have _ := Q_ (Kd.N_elder' (by (with_reducible repeat (first | apply Kd.N_alloc | apply Kd.N_drewN | apply Kd.N_drew)); exact HO_589001.out) (Kd.R_base ho0) hb)
 have _ := Q_ (Kd.R_elder' (pr_ HO592.out) (Kd.R_base ho0) hb)
 have _ := Q_ (Kd.R_lower (Kd.R_new' (Kd.R_new' ho0 (Kd.R_lt (pr_ HO_583000.out))) (Kd.R_lt (pr_ HO592.out))) (below_size (pb4_ HB.out GE573.out GE574.out GE582.out GE588.out)))
 have _ := Q_ (bb_ BK573.out hb)
 have _ := Q_ (bb_ BK574.out hb)
 have _ := Q_ (bb_ BK582.out hb)
 have _ := Q_ (bb_ BK588.out hb)
 have _ := Q_ (below_step (pb4_ HB.out GE573.out GE574.out GE582.out GE588.out) hb)
 clear HO_583000 HO_583001 HO_589001 HO592 BK573 BK574 BK582 BK588 HB
 rename_i HO_583000 HO_583001 HO_589001 HO592 HO595 BK573 BK574 BK582 BK588 HB
 (try clear hb)
 (try clear hb2)
 (try clear hk)
 (try clear hi)
 (try clear ho0)
 obtain ⟨Ao55, co55, eo55⟩ := Kd.R_slice HO592.out
 (first | subst eo55 | (injection eo55 with f1_ f2_ f3_; have f4_ := f1_.symm; have f5_ := f3_.symm; clear f1_ f2_ f3_; subst f4_; subst f5_))
 obtain ⟨Ao56, co56, eo56⟩ := Kd.R_slice HO595.out
 (first | subst eo56 | (injection eo56 with f1_ f2_ f3_; have f4_ := f1_.symm; have f5_ := f3_.symm; clear f1_ f2_ f3_; subst f4_; subst f5_))
 refine hK.out _ _ ⟨(blk_cell BK573.out 0).trans rfl, (blk_cell BK573.out 1).trans rfl, (blk_cell BK588.out 0).trans rfl, (blk_cell BK588.out 1).trans rfl⟩ (fun hHeld => ?_)
 clear hK K
 refine no_ (some 45) ?_
 refine on_ 5 (some 46) (tf_ 6 8) HT_ (fun K hK => ?_)
 refine Kd.N_lit_step (Kd.slice 3 (Kd.int .i64)) _ 25 ?hg (N' := 46) ?hd (xs := ([t590, t593] : List (List Int))) (inner := [.slice Ao55 t590.length co55, .slice Ao56 t593.length co56]) (ok := (fun k_ => some k_ ≠ (.slice Ao13 t575.length co13 : Value).ownBlock ∧ some k_ ≠ (.slice Ao17 t578.length co17 : Value).ownBlock ∧ some k_ ≠ (.slice Ao33 t584.length co33 : Value).ownBlock ∧ k_ ≠ gb573 ∧ k_ ≠ gb574 ∧ k_ ≠ gb582 ∧ k_ ≠ gb588)) (okp := (fun k_ => some k_ ≠ (.slice Ao13 t575.length co13 : Value).ownBlock ∧ some k_ ≠ (.slice Ao17 t578.length co17 : Value).ownBlock ∧ some k_ ≠ (.slice Ao33 t584.length co33 : Value).ownBlock ∧ k_ ≠ gb573 ∧ k_ ≠ gb574 ∧ k_ ≠ gb582 ∧ k_ ≠ gb588)) ?hr ?hp (fun _ hk => hk) ((show ∀ k_, w54.heap.size ≤ k_ → (fun k_ => some k_ ≠ (.slice Ao13 t575.length co13 : Value).ownBlock ∧ some k_ ≠ (.slice Ao17 t578.length co17 : Value).ownBlock ∧ some k_ ≠ (.slice Ao33 t584.length co33 : Value).ownBlock ∧ k_ ≠ gb573 ∧ k_ ≠ gb574 ∧ k_ ≠ gb582 ∧ k_ ≠ gb588) k_ from fun k_ hk => ⟨Kd.fresh' (Kd.R_lt (pr_ HO_583000.out)) k_ hk, Kd.fresh' (Kd.N_lt (by (with_reducible repeat (first | apply Kd.N_alloc | apply Kd.N_drewN | apply Kd.N_drew)); exact HO_583001.out)) k_ hk, Kd.fresh' (Kd.N_lt (by (with_reducible repeat (first | apply Kd.N_alloc | apply Kd.N_drewN | apply Kd.N_drew)); exact HO_589001.out)) k_ hk, Kd.freshB (g := gb573) (o := .cells #[.slice A0_0 l0_0.length c0_0, .slice A0_1 l0_1.length c0_1] 71 (0, 0)) (pk_ BK573.out) k_ hk, Kd.freshB (g := gb574) (o := .cells #[.bool false, .int .i64 0, .slice none 0 0] 48 (0, 0)) (pk_ BK574.out) k_ hk, Kd.freshB (g := gb582) (o := .cells #[.slice Ao13 t575.length co13, .slice Ao17 t578.length co17] 71 (0, 0)) (pk_ BK582.out) k_ hk, Kd.freshB (g := gb588) (o := .cells #[.int .i64 t583, .slice Ao33 t584.length co33] 101 (0, 0)) (pk_ BK588.out) k_ hk⟩) _ (Nat.le_refl _)) (Below.refl _ _) (Nat.le_refl _) (by simp) ?_; (case hd => rfl); (case hg => rfl); (case hr => first | (go_simp; done) | (go_simp; rfl)); (case hp => exact (Reps.one (show Kd.FK (Kd.slice 3 (Kd.int .i64)) _ _ t590 [.slice Ao55 t590.length co55] from (Kd.FK_slice_mk (Kd.R_reads' (Kd.R_mono (ok' := (fun k_ => some k_ ≠ (.slice Ao13 t575.length co13 : Value).ownBlock ∧ some k_ ≠ (.slice Ao17 t578.length co17 : Value).ownBlock ∧ some k_ ≠ (.slice Ao33 t584.length co33 : Value).ownBlock ∧ k_ ≠ gb573 ∧ k_ ≠ gb574 ∧ k_ ≠ gb582 ∧ k_ ≠ gb588)) (Kd.R_types (Kd.R_types (Kd.R_types (Kd.R_types (Kd.R_apart' (Kd.R_apart' (HO592.out) (Kd.N_typed HO_583001.out) (by decide)) (Kd.N_typed HO_589001.out) (by decide)) BK573.out (by decide)) BK574.out (by decide)) BK582.out (by decide)) BK588.out (by decide)) (fun k_ hk => ⟨hk.1.1.1.1.1.1.1.2, ⟨hk.1.1.1.1.1.2, ⟨hk.1.1.1.1.2, ⟨hk.1.1.1.2, ⟨hk.1.1.2, ⟨hk.1.2, hk.2⟩⟩⟩⟩⟩⟩))).2.1 (Kd.R_F (Kd.R_mono (ok' := (fun k_ => some k_ ≠ (.slice Ao13 t575.length co13 : Value).ownBlock ∧ some k_ ≠ (.slice Ao17 t578.length co17 : Value).ownBlock ∧ some k_ ≠ (.slice Ao33 t584.length co33 : Value).ownBlock ∧ k_ ≠ gb573 ∧ k_ ≠ gb574 ∧ k_ ≠ gb582 ∧ k_ ≠ gb588)) (Kd.R_types (Kd.R_types (Kd.R_types (Kd.R_types (Kd.R_apart' (Kd.R_apart' (HO592.out) (Kd.N_typed HO_583001.out) (by decide)) (Kd.N_typed HO_589001.out) (by decide)) BK573.out (by decide)) BK574.out (by decide)) BK582.out (by decide)) BK588.out (by decide)) (fun k_ hk => ⟨hk.1.1.1.1.1.1.1.2, ⟨hk.1.1.1.1.1.2, ⟨hk.1.1.1.1.2, ⟨hk.1.1.1.2, ⟨hk.1.1.2, ⟨hk.1.2, hk.2⟩⟩⟩⟩⟩⟩))))) (Reps.one (show Kd.FK (Kd.slice 3 (Kd.int .i64)) _ _ t593 [.slice Ao56 t593.length co56] from (Kd.FK_slice_mk (Kd.R_reads' (Kd.R_mono (ok' := (fun k_ => some k_ ≠ (.slice Ao13 t575.length co13 : Value).ownBlock ∧ some k_ ≠ (.slice Ao17 t578.length co17 : Value).ownBlock ∧ some k_ ≠ (.slice Ao33 t584.length co33 : Value).ownBlock ∧ k_ ≠ gb573 ∧ k_ ≠ gb574 ∧ k_ ≠ gb582 ∧ k_ ≠ gb588)) (Kd.R_types (Kd.R_types (Kd.R_types (Kd.R_types (Kd.R_apart' (Kd.R_apart' (HO595.out) (Kd.N_typed HO_583001.out) (by decide)) (Kd.N_typed HO_589001.out) (by decide)) BK573.out (by decide)) BK574.out (by decide)) BK582.out (by decide)) BK588.out (by decide)) (fun k_ hk => ⟨hk.1.1.1.1.1.1.1.2, ⟨hk.1.1.1.1.1.2, ⟨hk.1.1.1.1.2, ⟨hk.1.1.1.2, ⟨hk.1.1.2, ⟨hk.1.2, hk.2⟩⟩⟩⟩⟩⟩))).2.1 (Kd.R_F (Kd.R_mono (ok' := (fun k_ => some k_ ≠ (.slice Ao13 t575.length co13 : Value).ownBlock ∧ some k_ ≠ (.slice Ao17 t578.length co17 : Value).ownBlock ∧ some k_ ≠ (.slice Ao33 t584.length co33 : Value).ownBlock ∧ k_ ≠ gb573 ∧ k_ ≠ gb574 ∧ k_ ≠ gb582 ∧ k_ ≠ gb588)) (Kd.R_types (Kd.R_types (Kd.R_types (Kd.R_types (Kd.R_apart' (Kd.R_apart' (HO595.out) (Kd.N_typed HO_583001.out) (by decide)) (Kd.N_typed HO_589001.out) (by decide)) BK573.out (by decide)) BK574.out (by decide)) BK582.out (by decide)) BK588.out (by decide)) (fun k_ hk => ⟨hk.1.1.1.1.1.1.1.2, ⟨hk.1.1.1.1.1.2, ⟨hk.1.1.1.1.2, ⟨hk.1.1.1.2, ⟨hk.1.1.2, ⟨hk.1.2, hk.2⟩⟩⟩⟩⟩⟩))))) (Reps.none _ _))))
 intro v597 w57 ho58 hb hg_ hnew_
 clear hg_ hnew_
 (first | rw [← Ny596.out] at ho58 | (simp only [Int.reduceToNat] at ho58; rw [← Ny596.out] at ho58))
 have _ := Q_ (Kd.R_below (pr_ HO_583000.out) hb)
 have _ := Q_ (Kd.N_elder' (by (with_reducible repeat (first | apply Kd.N_alloc | apply Kd.N_drewN | apply Kd.N_drew)); exact HO_583001.out) (Kd.N_base ho58) hb)
 have _ := Q_ (Kd.N_elder' (by (with_reducible repeat (first | apply Kd.N_alloc | apply Kd.N_drewN | apply Kd.N_drew)); exact HO_589001.out) (Kd.N_base ho58) hb)
 have _ := Q_ (Kd.N_lower ho58 (below_size (pb4_ HB.out GE573.out GE574.out GE582.out GE588.out)))
 have _ := Q_ (bb_ BK573.out hb)
 have _ := Q_ (bb_ BK574.out hb)
 have _ := Q_ (bb_ BK582.out hb)
 have _ := Q_ (bb_ BK588.out hb)
 have _ := Q_ (below_step (pb4_ HB.out GE573.out GE574.out GE582.out GE588.out) hb)
 clear HO_583000 HO_583001 HO_589001 BK573 BK574 BK582 BK588 HB HO592 HO595
 rename_i HO_583000 HO_583001 HO_589001 HO598 BK573 BK574 BK582 BK588 HB
 clear hb ho58
 obtain ⟨Ao59, co59, eo59⟩ := Kd.N_slice HO598.out
 (first | subst eo59 | (injection eo59 with f1_ f2_ f3_; have f4_ := f1_.symm; have f5_ := f3_.symm; clear f1_ f2_ f3_; subst f4_; subst f5_))
 refine hK.out _ _ ⟨(blk_cell BK573.out 0).trans rfl, (blk_cell BK573.out 1).trans rfl, (blk_cell BK588.out 0).trans rfl, (blk_cell BK588.out 1).trans rfl⟩ (fun hHeld => ?_)
 clear hK K
 refine no_ (some 46) ?_
 refine on_ 6 (some 47) (tf_ 7 8) HT_ (fun K hK => ?_)
 refine goes_ Try.func66 (by kernel_rfl) rfl #[.int .i64 a4, .slice Ao59 y596.length co59, .int .i64 1] (by rfl) rfl rfl mp_ ?_
 with_reducible refine (spec_FinishOf.calls kj22 a4 _ _ y596 1 t599 _ ?side1 ?side2 A51.out).mono ?_
 (case side1 => exact pc_ ((Kd.N_reads' HO598.out).2.2))
 (case side2 => exact (Kd.N_reads' HO598.out).2.1)
 rintro e w60 ⟨rfl, hb⟩
 refine ⟨_, rfl, ?_⟩
 have _ := Q_ (Kd.R_below (pr_ HO_583000.out) hb)
 have _ := Q_ (Kd.N_below (by (with_reducible repeat (first | apply Kd.N_alloc | apply Kd.N_drewN | apply Kd.N_drew)); exact HO_583001.out) hb)
 have _ := Q_ (Kd.N_below (by (with_reducible repeat (first | apply Kd.N_alloc | apply Kd.N_drewN | apply Kd.N_drew)); exact HO_589001.out) hb)
 have _ := Q_ (Kd.N_below (by (with_reducible repeat (first | apply Kd.N_alloc | apply Kd.N_drewN | apply Kd.N_drew)); exact HO598.out) hb)
 have _ := Q_ (bb_ BK573.out hb)
 have _ := Q_ (bb_ BK574.out hb)
 have _ := Q_ (bb_ BK582.out hb)
 have _ := Q_ (bb_ BK588.out hb)
 have _ := Q_ (below_step (pb4_ HB.out GE573.out GE574.out GE582.out GE588.out) hb)
 clear HO_583000 HO_583001 HO_589001 HO598 BK573 BK574 BK582 BK588 HB
 rename_i HO_583000 HO_583001 HO_589001 HO598 BK573 BK574 BK582 BK588 HB
 (try clear hb)
 (try clear hb2)
 (try clear hk)
 (try clear hi)
 refine hK.out _ _ ⟨(blk_cell BK573.out 0).trans rfl, (blk_cell BK573.out 1).trans rfl, (blk_cell BK588.out 0).trans rfl, (blk_cell BK588.out 1).trans rfl⟩ (fun hHeld => ?_)
 clear hK K
 refine no_ (some 47) ?_
 refine pu_ 7 (some 15) (tf_ 8 8) HT_ ?_
 refine done_ (done_of HT_.out (by kernel_rfl)) ?_
 go_upto_region 8 with (fail)
 have H := HS_.out
 clear HS_
 by_cases c61 : t599 = 0
 ·rw [if_pos c61] at H
  have c61b0 : (t599 == 0) = true := beq_iff_eq.mpr c61
  have c61b1 : (t599 != 0) = false := bne_eq_false_iff_eq.mpr c61
  clear c61
  (first | rw [c61b0] | (simp only [i64_w, i32_w]; rw [c61b0]) | rw [c61b1] | (have c_ := c61b1; rw [bne] at c_; rw [c_]; clear c_) | skip)
  simp only [Option.some.injEq, Prod.mk.injEq] at H
  obtain ⟨rfl, rfl, rfl⟩ := H
  try go_wp2
  have _ := Q_ (Kd.R_drew HO_583000.out)
  have _ := Q_ (Kd.N_drew HO_583001.out)
  have _ := Q_ (Kd.N_drew HO_589001.out)
  have _ := Q_ (Kd.N_drew HO598.out)
  have _ := Q_ (blk_drew BK573.out)
  have _ := Q_ (blk_drew BK574.out)
  have _ := Q_ (blk_drew BK582.out)
  have _ := Q_ (blk_drew BK588.out)
  have _ := Q_ (below_drew1 HB.out)
  clear HO_583000 HO_583001 HO_589001 HO598 BK573 BK574 BK582 BK588 HB
  rename_i HO_583000 HO_583001 HO_589001 HO598 BK573 BK574 BK582 BK588 HB
  refine start_ (n := 13) (S := fun w' => True) (ds := []) (tf_ 0 13) (by kernel_rfl) rfl rfl trivial (fun hHeld => ?_); refine with_tabW spec_DialOnce.tab8 spec_DialOnce.bits8 (fun HT_ HW_ => ?_)
  generalize w60.drew = w62 at HO_583000 HO_583001 HO_589001 HO598 BK573 BK574 BK582 BK588 HB hHeld ⊢
  refine pu_ 0 (some 48) (tf_ 1 13) HT_ ?_
  refine pu_ 1 (some 49) (tf_ 2 13) HT_ ?_
  refine pu_ 2 (some 50) (tf_ 3 13) HT_ ?_
  refine pn_ 3 (some 51) (tf_ 4 13) HT_ ?_
  refine pn_ 4 (some 52) (tf_ 5 13) HT_ ?_
  refine pn_ 5 (some 53) (tf_ 6 13) HT_ ?_
  refine pn_ 6 (some 54) (tf_ 7 13) HT_ ?_
  refine pn_ 7 (some 55) (tf_ 8 13) HT_ ?_
  refine pn_ 8 (some 56) (tf_ 9 13) HT_ ?_
  refine pn_ 9 (some 57) (tf_ 10 13) HT_ ?_
  refine pn_ 10 (some 58) (tf_ 11 13) HT_ ?_
  refine pn_ 11 (some 59) (tf_ 12 13) HT_ ?_
  refine pu_ 12 (some 60) (tf_ 13 13) HT_ ?_
  refine done_ (done_of HT_.out (by kernel_rfl)) ?_
  have hnb63 := NB574_573.out
  have hnc63 := NB573_574.out
  have hnb64 := NB574_582.out
  have hnc64 := NB582_574.out
  have hnb65 := NB574_588.out
  have hnc65 := NB588_574.out
  have hcz66 := bc3_ BK574.out
  try go_wp2
  refine bodyPost_ret (results_cell_row rfl _ _ gb574 48 #[.bool false, .int .i64 0, .slice none 0 0] (0, 0) _ rfl (pp_ BK574.out) Try.underlying48 rfl (by kernel_rfl)) rfl ?_
  exact ⟨_, er_, by first | exact Kd.R_nil _ _ _ _ _ | exact Kd.N_nil _ _ _ _ _ | exact Kd.V_nil _ _ _ _ _ | exact Kd.Q_nil _ _ _ _ _ | exact Kd.S_nil _ _ _ _ _, pb4_ HB.out GE573.out GE574.out GE582.out GE588.out⟩
 rw [if_neg c61] at H
 have c61b0 : (t599 == 0) = false := beq_eq_false_iff_ne.mpr c61
 have c61b1 : (t599 != 0) = true := bne_iff_ne.mpr c61
 (first | rw [c61b0] | (simp only [i64_w, i32_w]; rw [c61b0]) | rw [c61b1] | (have c_ := c61b1; rw [bne] at c_; rw [c_]; clear c_) | skip)
 replace H := Option.bind_eq_some_iff.mp H
 obtain ⟨t600, A670, H⟩ := H
 (try dsimp only at H)
 have A67 := Q_ A670
 clear A670
 replace H := Option.bind_eq_some_iff.mp H
 obtain ⟨t603, A680, H⟩ := H
 (try dsimp only at H)
 have A68 := Q_ A680
 clear A680
 obtain ⟨y606, hy606⟩ : ∃ y_ : List (List Int), y_ = (([t600, t603] : List (List Int))) := ⟨_, rfl⟩
 replace H : ((spec_FinishOf.f kj22 a4 y606 1).bind fun t609 => (if t599 = t609 then ((spec_TagsOf.f kj22 t584).bind fun t610 => (some (true, t583, t610))) else (some (false, 0, ([] : List Int))))) = some (r1, r2, r3) := hb_ hy606 H
 have Ny606 := Q_ hy606
 clear hy606
 replace H := Option.bind_eq_some_iff.mp H
 obtain ⟨t609, A690, H⟩ := H
 (try dsimp only at H)
 have A69 := Q_ A690
 clear A690
 have HS_ := Q_ H
 clear H
 try go_wp2
 have _ := Q_ (Kd.R_drew HO_583000.out)
 have _ := Q_ (Kd.N_drew HO_583001.out)
 have _ := Q_ (Kd.N_drew HO_589001.out)
 have _ := Q_ (Kd.N_drew HO598.out)
 have _ := Q_ (blk_drew BK573.out)
 have _ := Q_ (blk_drew BK574.out)
 have _ := Q_ (blk_drew BK582.out)
 have _ := Q_ (blk_drew BK588.out)
 have _ := Q_ (below_drew1 HB.out)
 clear HO_583000 HO_583001 HO_589001 HO598 BK573 BK574 BK582 BK588 HB
 rename_i HO_583000 HO_583001 HO_589001 HO598 BK573 BK574 BK582 BK588 HB
 refine start_ (n := 13) (S := fun w' => w'.cell? ⟨gb582, 0, none⟩ = some (.slice Ao13 t575.length co13) ∧ w'.cell? ⟨gb582, 1, none⟩ = some (.slice Ao17 t578.length co17) ∧ w'.cell? ⟨gb588, 0, none⟩ = some (.int .i64 t583) ∧ w'.cell? ⟨gb588, 1, none⟩ = some (.slice Ao33 t584.length co33)) (ds := []) (tf_ 0 13) (by kernel_rfl) rfl rfl ⟨(blk_cell BK582.out 0).trans rfl, (blk_cell BK582.out 1).trans rfl, (blk_cell BK588.out 0).trans rfl, (blk_cell BK588.out 1).trans rfl⟩ (fun hHeld => ?_); refine with_tabW spec_DialOnce.tab8 spec_DialOnce.bits8 (fun HT_ HW_ => ?_)
 generalize w60.drew = w70 at HO_583000 HO_583001 HO_589001 HO598 BK573 BK574 BK582 BK588 HB hHeld ⊢
 refine pu_ 0 (some 48) (tf_ 1 13) HT_ ?_
 refine pu_ 1 (some 49) (tf_ 2 13) HT_ ?_
 refine pu_ 2 (some 50) (tf_ 3 13) HT_ ?_
 refine pu_ 3 (some 51) (tf_ 4 13) HT_ ?_
 refine pu_ 4 (some 52) (tf_ 5 13) HT_ ?_
 refine ta_ 5 (some 53) (tf_ 6 13) HT_ HW_ hHeld ?_
 refine ta_ 7 (some 55) (tm_ 13 191) HT_ HW_ hHeld ?_
 refine on_ 6 (some 54) (tf_ 8 13) HT_ (fun K hK => ?_)
 refine goes_ Try.func67 (by kernel_rfl) rfl #[.agg #[.slice Ao13 t575.length co13, .slice Ao17 t578.length co17]] (by rfl) rfl rfl mp_ ?_
 with_reducible refine (spec_HelloBytes.calls kj22 _ _ t575 _ _ t578 t600 _ ?side1 ?side2 ?side3 ?side4 A67.out).mono ?_
 (case side1 => exact pc_ ((Kd.R_reads' HO_583000.out).2.2))
 (case side2 => exact (Kd.R_reads' HO_583000.out).2.1)
 (case side3 => exact pc_ ((Kd.N_reads' HO_583001.out).2.2))
 (case side4 => exact (Kd.N_reads' HO_583001.out).2.1)
 rintro e w71 ⟨v601, rfl, ho0, hb⟩
 refine ⟨_, rfl, ?_⟩
 have _ := Q_ (Kd.R_elder' (pr_ HO_583000.out) (Kd.R_base ho0) hb)
 have _ := Q_ (Kd.N_elder' (by (with_reducible repeat (first | apply Kd.N_alloc | apply Kd.N_drewN | apply Kd.N_drew)); exact HO_583001.out) (Kd.R_base ho0) hb)
 have _ := Q_ (Kd.N_elder' (by (with_reducible repeat (first | apply Kd.N_alloc | apply Kd.N_drewN | apply Kd.N_drew)); exact HO_589001.out) (Kd.R_base ho0) hb)
 have _ := Q_ (Kd.N_elder' (by (with_reducible repeat (first | apply Kd.N_alloc | apply Kd.N_drewN | apply Kd.N_drew)); exact HO598.out) (Kd.R_base ho0) hb)
 have _ := Q_ (Kd.R_lower (Kd.R_new' ho0 (Kd.R_lt (pr_ HO_583000.out))) (below_size (pb4_ HB.out GE573.out GE574.out GE582.out GE588.out)))
 have _ := Q_ (bb_ BK573.out hb)
 have _ := Q_ (bb_ BK574.out hb)
 have _ := Q_ (bb_ BK582.out hb)
 have _ := Q_ (bb_ BK588.out hb)
 have _ := Q_ (below_step (pb4_ HB.out GE573.out GE574.out GE582.out GE588.out) hb)
 clear HO_583000 HO_583001 HO_589001 HO598 BK573 BK574 BK582 BK588 HB
 rename_i HO_583000 HO_583001 HO_589001 HO598 HO602 BK573 BK574 BK582 BK588 HB
 (try clear hb)
 (try clear hb2)
 (try clear hk)
 (try clear hi)
 (try clear ho0)
 refine hK.out _ _ ⟨(blk_cell BK582.out 0).trans rfl, (blk_cell BK582.out 1).trans rfl, (blk_cell BK588.out 0).trans rfl, (blk_cell BK588.out 1).trans rfl⟩ (fun hHeld => ?_)
 clear hK K
 refine no_ (some 54) ?_
 refine on_ 8 (some 56) (tf_ 9 13) HT_ (fun K hK => ?_)
 refine goes_ Try.func68 (by kernel_rfl) rfl #[.agg #[.int .i64 t583, .slice Ao33 t584.length co33]] (by rfl) rfl rfl mp_ ?_
 with_reducible refine (spec_AnswerBytes.calls kj22 t583 _ _ t584 t603 _ ?side1 ?side2 A68.out).mono ?_
 (case side1 => exact pc_ ((Kd.N_reads' HO_589001.out).2.2))
 (case side2 => exact (Kd.N_reads' HO_589001.out).2.1)
 rintro e w72 ⟨v604, rfl, ho0, hb⟩
 refine ⟨_, rfl, ?_⟩
 have _ := Q_ (Kd.R_elder' (pr_ HO_583000.out) (Kd.R_base ho0) hb)
 have _ := Q_ (Kd.N_elder' (by (with_reducible repeat (first | apply Kd.N_alloc | apply Kd.N_drewN | apply Kd.N_drew)); exact HO_583001.out) (Kd.R_base ho0) hb)
 have _ := Q_ (Kd.N_elder' (by (with_reducible repeat (first | apply Kd.N_alloc | apply Kd.N_drewN | apply Kd.N_drew)); exact HO_589001.out) (Kd.R_base ho0) hb)
 have _ := Q_ (Kd.N_elder' (by (with_reducible repeat (first | apply Kd.N_alloc | apply Kd.N_drewN | apply Kd.N_drew)); exact HO598.out) (Kd.R_base ho0) hb)
 have _ := Q_ (Kd.R_elder' (pr_ HO602.out) (Kd.R_base ho0) hb)
 have _ := Q_ (Kd.R_lower (Kd.R_new' (Kd.R_new' ho0 (Kd.R_lt (pr_ HO_583000.out))) (Kd.R_lt (pr_ HO602.out))) (below_size (pb4_ HB.out GE573.out GE574.out GE582.out GE588.out)))
 have _ := Q_ (bb_ BK573.out hb)
 have _ := Q_ (bb_ BK574.out hb)
 have _ := Q_ (bb_ BK582.out hb)
 have _ := Q_ (bb_ BK588.out hb)
 have _ := Q_ (below_step (pb4_ HB.out GE573.out GE574.out GE582.out GE588.out) hb)
 clear HO_583000 HO_583001 HO_589001 HO598 HO602 BK573 BK574 BK582 BK588 HB
 rename_i HO_583000 HO_583001 HO_589001 HO598 HO602 HO605 BK573 BK574 BK582 BK588 HB
 (try clear hb)
 (try clear hb2)
 (try clear hk)
 (try clear hi)
 (try clear ho0)
 obtain ⟨Ao73, co73, eo73⟩ := Kd.R_slice HO602.out
 (first | subst eo73 | (injection eo73 with f1_ f2_ f3_; have f4_ := f1_.symm; have f5_ := f3_.symm; clear f1_ f2_ f3_; subst f4_; subst f5_))
 obtain ⟨Ao74, co74, eo74⟩ := Kd.R_slice HO605.out
 (first | subst eo74 | (injection eo74 with f1_ f2_ f3_; have f4_ := f1_.symm; have f5_ := f3_.symm; clear f1_ f2_ f3_; subst f4_; subst f5_))
 refine hK.out _ _ ⟨(blk_cell BK582.out 0).trans rfl, (blk_cell BK582.out 1).trans rfl, (blk_cell BK588.out 0).trans rfl, (blk_cell BK588.out 1).trans rfl⟩ (fun hHeld => ?_)
 clear hK K
 refine no_ (some 56) ?_
 refine on_ 9 (some 57) (tf_ 10 13) HT_ (fun K hK => ?_)
 refine Kd.N_lit_step (Kd.slice 3 (Kd.int .i64)) _ 25 ?hg (N' := 57) ?hd (xs := ([t600, t603] : List (List Int))) (inner := [.slice Ao73 t600.length co73, .slice Ao74 t603.length co74]) (ok := (fun k_ => some k_ ≠ (.slice Ao13 t575.length co13 : Value).ownBlock ∧ some k_ ≠ (.slice Ao17 t578.length co17 : Value).ownBlock ∧ some k_ ≠ (.slice Ao33 t584.length co33 : Value).ownBlock ∧ some k_ ≠ (.slice Ao59 y596.length co59 : Value).ownBlock ∧ k_ ≠ gb573 ∧ k_ ≠ gb574 ∧ k_ ≠ gb582 ∧ k_ ≠ gb588)) (okp := (fun k_ => some k_ ≠ (.slice Ao13 t575.length co13 : Value).ownBlock ∧ some k_ ≠ (.slice Ao17 t578.length co17 : Value).ownBlock ∧ some k_ ≠ (.slice Ao33 t584.length co33 : Value).ownBlock ∧ some k_ ≠ (.slice Ao59 y596.length co59 : Value).ownBlock ∧ k_ ≠ gb573 ∧ k_ ≠ gb574 ∧ k_ ≠ gb582 ∧ k_ ≠ gb588)) ?hr ?hp (fun _ hk => hk) ((show ∀ k_, w72.heap.size ≤ k_ → (fun k_ => some k_ ≠ (.slice Ao13 t575.length co13 : Value).ownBlock ∧ some k_ ≠ (.slice Ao17 t578.length co17 : Value).ownBlock ∧ some k_ ≠ (.slice Ao33 t584.length co33 : Value).ownBlock ∧ some k_ ≠ (.slice Ao59 y596.length co59 : Value).ownBlock ∧ k_ ≠ gb573 ∧ k_ ≠ gb574 ∧ k_ ≠ gb582 ∧ k_ ≠ gb588) k_ from fun k_ hk => ⟨Kd.fresh' (Kd.R_lt (pr_ HO_583000.out)) k_ hk, Kd.fresh' (Kd.N_lt (by (with_reducible repeat (first | apply Kd.N_alloc | apply Kd.N_drewN | apply Kd.N_drew)); exact HO_583001.out)) k_ hk, Kd.fresh' (Kd.N_lt (by (with_reducible repeat (first | apply Kd.N_alloc | apply Kd.N_drewN | apply Kd.N_drew)); exact HO_589001.out)) k_ hk, Kd.fresh' (Kd.N_lt (by (with_reducible repeat (first | apply Kd.N_alloc | apply Kd.N_drewN | apply Kd.N_drew)); exact HO598.out)) k_ hk, Kd.freshB (g := gb573) (o := .cells #[.slice A0_0 l0_0.length c0_0, .slice A0_1 l0_1.length c0_1] 71 (0, 0)) (pk_ BK573.out) k_ hk, Kd.freshB (g := gb574) (o := .cells #[.bool false, .int .i64 0, .slice none 0 0] 48 (0, 0)) (pk_ BK574.out) k_ hk, Kd.freshB (g := gb582) (o := .cells #[.slice Ao13 t575.length co13, .slice Ao17 t578.length co17] 71 (0, 0)) (pk_ BK582.out) k_ hk, Kd.freshB (g := gb588) (o := .cells #[.int .i64 t583, .slice Ao33 t584.length co33] 101 (0, 0)) (pk_ BK588.out) k_ hk⟩) _ (Nat.le_refl _)) (Below.refl _ _) (Nat.le_refl _) (by simp) ?_; (case hd => rfl); (case hg => rfl); (case hr => first | (go_simp; done) | (go_simp; rfl)); (case hp => exact (Reps.one (show Kd.FK (Kd.slice 3 (Kd.int .i64)) _ _ t600 [.slice Ao73 t600.length co73] from (Kd.FK_slice_mk (Kd.R_reads' (Kd.R_mono (ok' := (fun k_ => some k_ ≠ (.slice Ao13 t575.length co13 : Value).ownBlock ∧ some k_ ≠ (.slice Ao17 t578.length co17 : Value).ownBlock ∧ some k_ ≠ (.slice Ao33 t584.length co33 : Value).ownBlock ∧ some k_ ≠ (.slice Ao59 y596.length co59 : Value).ownBlock ∧ k_ ≠ gb573 ∧ k_ ≠ gb574 ∧ k_ ≠ gb582 ∧ k_ ≠ gb588)) (Kd.R_types (Kd.R_types (Kd.R_types (Kd.R_types (Kd.R_apart' (Kd.R_apart' (Kd.R_apart' (HO602.out) (Kd.N_typed HO_583001.out) (by decide)) (Kd.N_typed HO_589001.out) (by decide)) (Kd.N_typed HO598.out) (by decide)) BK573.out (by decide)) BK574.out (by decide)) BK582.out (by decide)) BK588.out (by decide)) (fun k_ hk => ⟨hk.1.1.1.1.1.1.1.1.2, ⟨hk.1.1.1.1.1.1.2, ⟨hk.1.1.1.1.1.2, ⟨hk.1.1.1.1.2, ⟨hk.1.1.1.2, ⟨hk.1.1.2, ⟨hk.1.2, hk.2⟩⟩⟩⟩⟩⟩⟩))).2.1 (Kd.R_F (Kd.R_mono (ok' := (fun k_ => some k_ ≠ (.slice Ao13 t575.length co13 : Value).ownBlock ∧ some k_ ≠ (.slice Ao17 t578.length co17 : Value).ownBlock ∧ some k_ ≠ (.slice Ao33 t584.length co33 : Value).ownBlock ∧ some k_ ≠ (.slice Ao59 y596.length co59 : Value).ownBlock ∧ k_ ≠ gb573 ∧ k_ ≠ gb574 ∧ k_ ≠ gb582 ∧ k_ ≠ gb588)) (Kd.R_types (Kd.R_types (Kd.R_types (Kd.R_types (Kd.R_apart' (Kd.R_apart' (Kd.R_apart' (HO602.out) (Kd.N_typed HO_583001.out) (by decide)) (Kd.N_typed HO_589001.out) (by decide)) (Kd.N_typed HO598.out) (by decide)) BK573.out (by decide)) BK574.out (by decide)) BK582.out (by decide)) BK588.out (by decide)) (fun k_ hk => ⟨hk.1.1.1.1.1.1.1.1.2, ⟨hk.1.1.1.1.1.1.2, ⟨hk.1.1.1.1.1.2, ⟨hk.1.1.1.1.2, ⟨hk.1.1.1.2, ⟨hk.1.1.2, ⟨hk.1.2, hk.2⟩⟩⟩⟩⟩⟩⟩))))) (Reps.one (show Kd.FK (Kd.slice 3 (Kd.int .i64)) _ _ t603 [.slice Ao74 t603.length co74] from (Kd.FK_slice_mk (Kd.R_reads' (Kd.R_mono (ok' := (fun k_ => some k_ ≠ (.slice Ao13 t575.length co13 : Value).ownBlock ∧ some k_ ≠ (.slice Ao17 t578.length co17 : Value).ownBlock ∧ some k_ ≠ (.slice Ao33 t584.length co33 : Value).ownBlock ∧ some k_ ≠ (.slice Ao59 y596.length co59 : Value).ownBlock ∧ k_ ≠ gb573 ∧ k_ ≠ gb574 ∧ k_ ≠ gb582 ∧ k_ ≠ gb588)) (Kd.R_types (Kd.R_types (Kd.R_types (Kd.R_types (Kd.R_apart' (Kd.R_apart' (Kd.R_apart' (HO605.out) (Kd.N_typed HO_583001.out) (by decide)) (Kd.N_typed HO_589001.out) (by decide)) (Kd.N_typed HO598.out) (by decide)) BK573.out (by decide)) BK574.out (by decide)) BK582.out (by decide)) BK588.out (by decide)) (fun k_ hk => ⟨hk.1.1.1.1.1.1.1.1.2, ⟨hk.1.1.1.1.1.1.2, ⟨hk.1.1.1.1.1.2, ⟨hk.1.1.1.1.2, ⟨hk.1.1.1.2, ⟨hk.1.1.2, ⟨hk.1.2, hk.2⟩⟩⟩⟩⟩⟩⟩))).2.1 (Kd.R_F (Kd.R_mono (ok' := (fun k_ => some k_ ≠ (.slice Ao13 t575.length co13 : Value).ownBlock ∧ some k_ ≠ (.slice Ao17 t578.length co17 : Value).ownBlock ∧ some k_ ≠ (.slice Ao33 t584.length co33 : Value).ownBlock ∧ some k_ ≠ (.slice Ao59 y596.length co59 : Value).ownBlock ∧ k_ ≠ gb573 ∧ k_ ≠ gb574 ∧ k_ ≠ gb582 ∧ k_ ≠ gb588)) (Kd.R_types (Kd.R_types (Kd.R_types (Kd.R_types (Kd.R_apart' (Kd.R_apart' (Kd.R_apart' (HO605.out) (Kd.N_typed HO_583001.out) (by decide)) (Kd.N_typed HO_589001.out) (by decide)) (Kd.N_typed HO598.out) (by decide)) BK573.out (by decide)) BK574.out (by decide)) BK582.out (by decide)) BK588.out (by decide)) (fun k_ hk => ⟨hk.1.1.1.1.1.1.1.1.2, ⟨hk.1.1.1.1.1.1.2, ⟨hk.1.1.1.1.1.2, ⟨hk.1.1.1.1.2, ⟨hk.1.1.1.2, ⟨hk.1.1.2, ⟨hk.1.2, hk.2⟩⟩⟩⟩⟩⟩⟩))))) (Reps.none _ _))))
 intro v607 w75 ho76 hb hg_ hnew_
 clear hg_ hnew_
 (first | rw [← Ny606.out] at ho76 | (simp only [Int.reduceToNat] at ho76; rw [← Ny606.out] at ho76))
 have _ := Q_ (Kd.R_below (pr_ HO_583000.out) hb)
 have _ := Q_ (Kd.N_elder' (by (with_reducible repeat (first | apply Kd.N_alloc | apply Kd.N_drewN | apply Kd.N_drew)); exact HO_583001.out) (Kd.N_base ho76) hb)
 have _ := Q_ (Kd.N_elder' (by (with_reducible repeat (first | apply Kd.N_alloc | apply Kd.N_drewN | apply Kd.N_drew)); exact HO_589001.out) (Kd.N_base ho76) hb)
 have _ := Q_ (Kd.N_elder' (by (with_reducible repeat (first | apply Kd.N_alloc | apply Kd.N_drewN | apply Kd.N_drew)); exact HO598.out) (Kd.N_base ho76) hb)
 have _ := Q_ (Kd.N_lower ho76 (below_size (pb4_ HB.out GE573.out GE574.out GE582.out GE588.out)))
 have _ := Q_ (bb_ BK573.out hb)
 have _ := Q_ (bb_ BK574.out hb)
 have _ := Q_ (bb_ BK582.out hb)
 have _ := Q_ (bb_ BK588.out hb)
 have _ := Q_ (below_step (pb4_ HB.out GE573.out GE574.out GE582.out GE588.out) hb)
 clear HO_583000 HO_583001 HO_589001 HO598 BK573 BK574 BK582 BK588 HB HO602 HO605
 rename_i HO_583000 HO_583001 HO_589001 HO598 HO608 BK573 BK574 BK582 BK588 HB
 clear hb ho76
 obtain ⟨Ao77, co77, eo77⟩ := Kd.N_slice HO608.out
 (first | subst eo77 | (injection eo77 with f1_ f2_ f3_; have f4_ := f1_.symm; have f5_ := f3_.symm; clear f1_ f2_ f3_; subst f4_; subst f5_))
 refine hK.out _ _ ⟨(blk_cell BK582.out 0).trans rfl, (blk_cell BK582.out 1).trans rfl, (blk_cell BK588.out 0).trans rfl, (blk_cell BK588.out 1).trans rfl⟩ (fun hHeld => ?_)
 clear hK K
 refine no_ (some 57) ?_
 refine on_ 10 (some 58) (tf_ 11 13) HT_ (fun K hK => ?_)
 refine goes_ Try.func66 (by kernel_rfl) rfl #[.int .i64 a4, .slice Ao77 y606.length co77, .int .i64 1] (by rfl) rfl rfl mp_ ?_
 with_reducible refine (spec_FinishOf.calls kj22 a4 _ _ y606 1 t609 _ ?side1 ?side2 A69.out).mono ?_
 (case side1 => exact pc_ ((Kd.N_reads' HO608.out).2.2))
 (case side2 => exact (Kd.N_reads' HO608.out).2.1)
 rintro e w78 ⟨rfl, hb⟩
 refine ⟨_, rfl, ?_⟩
 have _ := Q_ (Kd.R_below (pr_ HO_583000.out) hb)
 have _ := Q_ (Kd.N_below (by (with_reducible repeat (first | apply Kd.N_alloc | apply Kd.N_drewN | apply Kd.N_drew)); exact HO_583001.out) hb)
 have _ := Q_ (Kd.N_below (by (with_reducible repeat (first | apply Kd.N_alloc | apply Kd.N_drewN | apply Kd.N_drew)); exact HO_589001.out) hb)
 have _ := Q_ (Kd.N_below (by (with_reducible repeat (first | apply Kd.N_alloc | apply Kd.N_drewN | apply Kd.N_drew)); exact HO598.out) hb)
 have _ := Q_ (Kd.N_below (by (with_reducible repeat (first | apply Kd.N_alloc | apply Kd.N_drewN | apply Kd.N_drew)); exact HO608.out) hb)
 have _ := Q_ (bb_ BK573.out hb)
 have _ := Q_ (bb_ BK574.out hb)
 have _ := Q_ (bb_ BK582.out hb)
 have _ := Q_ (bb_ BK588.out hb)
 have _ := Q_ (below_step (pb4_ HB.out GE573.out GE574.out GE582.out GE588.out) hb)
 clear HO_583000 HO_583001 HO_589001 HO598 HO608 BK573 BK574 BK582 BK588 HB
 rename_i HO_583000 HO_583001 HO_589001 HO598 HO608 BK573 BK574 BK582 BK588 HB
 (try clear hb)
 (try clear hb2)
 (try clear hk)
 (try clear hi)
 refine hK.out _ _ ⟨(blk_cell BK582.out 0).trans rfl, (blk_cell BK582.out 1).trans rfl, (blk_cell BK588.out 0).trans rfl, (blk_cell BK588.out 1).trans rfl⟩ (fun hHeld => ?_)
 clear hK K
 refine no_ (some 58) ?_
 refine pu_ 11 (some 59) (tf_ 12 13) HT_ ?_
 refine pu_ 12 (some 60) (tf_ 13 13) HT_ ?_
 refine done_ (done_of HT_.out (by kernel_rfl)) ?_
 go_upto_if 60 with (fail)
 have H := HS_.out
 clear HS_
 by_cases c79 : t599 = t609
 rotate_left
 ·rw [if_neg c79] at H
  have c79b0 : (t599 == t609) = false := beq_eq_false_iff_ne.mpr c79
  have c79b1 : (t599 != t609) = true := bne_iff_ne.mpr c79
  (first | rw [c79b0] | (simp only [i64_w, i32_w]; rw [c79b0]) | rw [c79b1] | (have c_ := c79b1; rw [bne] at c_; rw [c_]; clear c_) | skip)
  simp only [Option.some.injEq, Prod.mk.injEq] at H
  obtain ⟨rfl, rfl, rfl⟩ := H
  have hnb80 := NB574_573.out
  have hnc80 := NB573_574.out
  have hnb81 := NB574_582.out
  have hnc81 := NB582_574.out
  have hnb82 := NB574_588.out
  have hnc82 := NB588_574.out
  have hcz83 := bc3_ BK574.out
  go_wp2
  refine bodyPost_ret (results_cell_row rfl _ _ gb574 48 #[.bool false, .int .i64 0, .slice none 0 0] (0, 0) _ rfl (pp_ BK574.out) Try.underlying48 rfl (by kernel_rfl)) rfl ?_
  exact ⟨_, er_, by first | exact Kd.R_nil _ _ _ _ _ | exact Kd.N_nil _ _ _ _ _ | exact Kd.V_nil _ _ _ _ _ | exact Kd.Q_nil _ _ _ _ _ | exact Kd.S_nil _ _ _ _ _, pb4_ HB.out GE573.out GE574.out GE582.out GE588.out⟩
 rw [if_pos c79] at H
 have c79b0 : (t599 == t609) = true := beq_iff_eq.mpr c79
 have c79b1 : (t599 != t609) = false := bne_eq_false_iff_eq.mpr c79
 clear c79
 (first | rw [c79b0] | (simp only [i64_w, i32_w]; rw [c79b0]) | rw [c79b1] | (have c_ := c79b1; rw [bne] at c_; rw [c_]; clear c_) | skip)
 replace H := Option.bind_eq_some_iff.mp H
 obtain ⟨t610, A840, H⟩ := H
 replace H : (some (true, t583, t610)) = some (r1, r2, r3) := H
 have A84 := Q_ A840
 clear A840
 simp only [Option.some.injEq, Prod.mk.injEq] at H
 obtain ⟨rfl, rfl, rfl⟩ := H
 try go_wp2
 have _ := Q_ (Kd.R_drew HO_583000.out)
 have _ := Q_ (Kd.N_drew HO_583001.out)
 have _ := Q_ (Kd.N_drew HO_589001.out)
 have _ := Q_ (Kd.N_drew HO598.out)
 have _ := Q_ (Kd.N_drew HO608.out)
 have _ := Q_ (blk_drew BK573.out)
 have _ := Q_ (blk_drew BK574.out)
 have _ := Q_ (blk_drew BK582.out)
 have _ := Q_ (blk_drew BK588.out)
 have _ := Q_ (below_drew1 HB.out)
 clear HO_583000 HO_583001 HO_589001 HO598 HO608 BK573 BK574 BK582 BK588 HB
 rename_i HO_583000 HO_583001 HO_589001 HO598 HO608 BK573 BK574 BK582 BK588 HB
 refine start_ (n := 7) (S := fun w' => w'.cell? ⟨gb588, 0, none⟩ = some (.int .i64 t583) ∧ w'.cell? ⟨gb588, 1, none⟩ = some (.slice Ao33 t584.length co33)) (ds := []) (tf_ 0 7) (by kernel_rfl) rfl rfl (sb_ BK588.out) (fun hHeld => ?_)
 generalize w78.drew = w85 at HO_583000 HO_583001 HO_589001 HO598 HO608 BK573 BK574 BK582 BK588 HB hHeld ⊢
 refine pure_ (i := 0) (N := some 62) (v := ?_) (a' := ?_) #[true, false, false, false, false, false, false] rfl rfl (by kernel_rfl) (fun _ _ _ h => h) (Or.inl ⟨by rfl, ?_⟩) ?_ ?_
 rotate_left
 ·intro w'
  go_simp
  (try (simp only [Instr.field]; simp only [underlying, hu101, hu48, hu71]; go_simp; simp only [asAgg]; go_simp))
  with_reducible rfl
 rotate_left
 ·simp only [Act.put, List.setIfInBounds_toArray, List.set_cons_zero, List.set_cons_succ, i64_w, i32_w]
  rfl
 refine pure_ (i := 2) (N := some 64) (v := ?_) (a' := ?_) #[true, false, true, false, false, false, false] rfl rfl (by kernel_rfl) (fun _ _ _ h => h) (Or.inl ⟨by rfl, ?_⟩) ?_ ?_
 rotate_left
 ·intro w'
  go_simp
  (try (simp only [Instr.field]; simp only [underlying, hu101, hu48, hu71]; go_simp; simp only [asAgg]; go_simp))
  with_reducible rfl
 rotate_left
 ·simp only [Act.put, List.setIfInBounds_toArray, List.set_cons_zero, List.set_cons_succ, i64_w, i32_w]
  rfl
 refine take_ (i := 1) (N := some 63) (v := ?_) (a' := ?_) #[true, true, true, false, false, false, false] rfl rfl (by kernel_rfl) (fun _ _ _ h => h) (Or.inl ⟨by rfl, ?_⟩) hHeld ?_ ?_
 rotate_left
 ·rintro w' ⟨s0, s1⟩
  go_simp
  (try (simp only [Instr.field]; simp only [underlying, hu101, hu48, hu71]; go_simp; simp only [asAgg]; go_simp))
  with_reducible rfl
 rotate_left
 ·simp only [Act.put, List.setIfInBounds_toArray, List.set_cons_zero, List.set_cons_succ, i64_w, i32_w]
  rfl
 refine take_ (i := 3) (N := some 65) (v := ?_) (a' := ?_) #[true, true, true, true, false, false, false] rfl rfl (by kernel_rfl) (fun _ _ _ h => h) (Or.inl ⟨by rfl, ?_⟩) hHeld ?_ ?_
 rotate_left
 ·rintro w' ⟨s0, s1⟩
  go_simp
  (try (simp only [Instr.field]; simp only [underlying, hu101, hu48, hu71]; go_simp; simp only [asAgg]; go_simp))
  with_reducible rfl
 rotate_left
 ·simp only [Act.put, List.setIfInBounds_toArray, List.set_cons_zero, List.set_cons_succ, i64_w, i32_w]
  rfl
 refine one_ (i := 4) (N := some 66) #[true, true, true, true, true, false, false] rfl rfl (by kernel_rfl) (by decide) (fun K hK => ?_)
 refine goes_ Try.func69 (by kernel_rfl) rfl #[.slice Ao33 t584.length co33] (by rfl) rfl rfl mp_ ?_
 with_reducible refine (spec_TagsOf.calls kj22 _ _ t584 t610 _ ?side1 ?side2 A84.out).mono ?_
 (case side1 => exact pc_ ((Kd.N_reads' HO_589001.out).2.2))
 (case side2 => exact (Kd.N_reads' HO_589001.out).2.1)
 rintro e w86 ⟨v611, rfl, ho0, hb⟩
 refine ⟨_, rfl, ?_⟩
 have _ := Q_ (Kd.R_elder' (pr_ HO_583000.out) (Kd.R_base ho0) hb)
 have _ := Q_ (Kd.N_elder' (by (with_reducible repeat (first | apply Kd.N_alloc | apply Kd.N_drewN | apply Kd.N_drew)); exact HO_583001.out) (Kd.R_base ho0) hb)
 have _ := Q_ (Kd.N_elder' (by (with_reducible repeat (first | apply Kd.N_alloc | apply Kd.N_drewN | apply Kd.N_drew)); exact HO_589001.out) (Kd.R_base ho0) hb)
 have _ := Q_ (Kd.N_elder' (by (with_reducible repeat (first | apply Kd.N_alloc | apply Kd.N_drewN | apply Kd.N_drew)); exact HO598.out) (Kd.R_base ho0) hb)
 have _ := Q_ (Kd.N_elder' (by (with_reducible repeat (first | apply Kd.N_alloc | apply Kd.N_drewN | apply Kd.N_drew)); exact HO608.out) (Kd.R_base ho0) hb)
 have _ := Q_ (Kd.R_lower (Kd.R_new' ho0 (Kd.R_lt (pr_ HO_583000.out))) (below_size (pb4_ HB.out GE573.out GE574.out GE582.out GE588.out)))
 have _ := Q_ (bb_ BK573.out hb)
 have _ := Q_ (bb_ BK574.out hb)
 have _ := Q_ (bb_ BK582.out hb)
 have _ := Q_ (bb_ BK588.out hb)
 have _ := Q_ (below_step (pb4_ HB.out GE573.out GE574.out GE582.out GE588.out) hb)
 clear HO_583000 HO_583001 HO_589001 HO598 HO608 BK573 BK574 BK582 BK588 HB
 rename_i HO_583000 HO_583001 HO_589001 HO598 HO608 HO612 BK573 BK574 BK582 BK588 HB
 (try clear hb)
 (try clear hb2)
 (try clear hk)
 (try clear hi)
 (try clear ho0)
 obtain ⟨Ao87, co87, eo87⟩ := Kd.R_slice HO612.out
 (first | subst eo87 | (injection eo87 with f1_ f2_ f3_; have f4_ := f1_.symm; have f5_ := f3_.symm; clear f1_ f2_ f3_; subst f4_; subst f5_))
 refine hK.out _ _ (sb_ BK588.out) (fun hHeld => ?_)
 clear hK K
 refine no_ (some 66) ?_
 refine pure_ (i := 5) (N := some 67) (v := ?_) (a' := ?_) #[true, true, true, true, true, true, false] rfl rfl (by kernel_rfl) (fun _ _ _ h => h) (Or.inl ⟨by rfl, ?_⟩) ?_ ?_
 rotate_left
 ·intro w'
  go_simp
  (try (simp only [Instr.field]; simp only [underlying, hu101, hu48, hu71]; go_simp; simp only [asAgg]; go_simp))
  with_reducible rfl
 rotate_left
 ·simp only [Act.put, List.setIfInBounds_toArray, List.set_cons_zero, List.set_cons_succ, i64_w, i32_w]
  rfl
 refine one_ (i := 6) (N := none) #[true, true, true, true, true, true, true] rfl rfl (by kernel_rfl) (by decide) (fun K hK => ?_)
 have hs88 : w86.cell? ⟨gb574, 0, none⟩ = some (.bool false) := (blk_cell BK574.out 0).trans rfl
 have hfs88 := blk_frozen BK574.out 0
 have hns88_0 := NB573_574.out
 have hns88_2 := NB582_574.out
 have hns88_3 := NB588_574.out
 have hms88_0 := NB574_573.out
 have hms88_2 := NB574_582.out
 have hms88_3 := NB574_588.out
 have hs89 : w86.cell? ⟨gb574, 1, none⟩ = some (.int .i64 0) := (blk_cell BK574.out 1).trans rfl
 have hfs89 := blk_frozen BK574.out 1
 have hns89_0 := NB573_574.out
 have hns89_2 := NB582_574.out
 have hns89_3 := NB588_574.out
 have hms89_0 := NB574_573.out
 have hms89_2 := NB574_582.out
 have hms89_3 := NB574_588.out
 have hs90 : w86.cell? ⟨gb574, 2, none⟩ = some (.slice none 0 0) := (blk_cell BK574.out 2).trans rfl
 have hfs90 := blk_frozen BK574.out 2
 have hns90_0 := NB573_574.out
 have hns90_2 := NB582_574.out
 have hns90_3 := NB588_574.out
 have hms90_0 := NB574_573.out
 have hms90_2 := NB574_582.out
 have hms90_3 := NB574_588.out
 refine skip_ (w1 := ?_) (by rfl) rfl ?_ ?_
 rotate_left
 ·go_simp
  rfl
 refine hK.out _ _ ⟨((cell_far (p := ⟨gb574, _, none⟩) NB588_574.out _).trans (((cell_far (p := ⟨gb574, _, none⟩) NB588_574.out _).trans (((cell_far (p := ⟨gb574, _, none⟩) NB588_574.out _).trans (hHeld.1)))))), ((cell_far (p := ⟨gb574, _, none⟩) NB588_574.out _).trans (((cell_far (p := ⟨gb574, _, none⟩) NB588_574.out _).trans (((cell_far (p := ⟨gb574, _, none⟩) NB588_574.out _).trans (hHeld.2))))))⟩ (fun hHeld => ?_)
 clear hK K
 refine done_ (by kernel_rfl) ?_
 try go_wp2
 refine bodyPost_ret (results_cell_row rfl _ _ gb574 48 #[.bool true, .int .i64 t583, .slice Ao87 t610.length co87] (0, 0) _ rfl (pp_ BK574.out) Try.underlying48 rfl (by kernel_rfl)) rfl ?_
 exact ⟨_, er_, pr_ (Kd.R_mono (rf3_ HO612.out BK574.out) (fun _ hk => trivial)), pb4_ HB.out GE573.out GE574.out GE582.out GE588.out⟩

end Go.Proofs.Ytlcpaebidnaolaa.Print
