-- Written by a program of this session (printx.py) out of the translation; Lean checks it.
import Derived.Test.YtlcpaebidnaolaaPrint0
import Derived.Test.YtlcpaebidnaolaaPrint1
import Derived.Test.YtlcpaebidnaolaaPrint2
import Derived.Test.YtlcpaebidnaolaaPrint14
import Derived.Test.YtlcpaebidnaolaaPrint15
namespace Go.Proofs.Ytlcpaebidnaolaa.Print
open Go.RowKit Go.Proofs.YtlcpaebidnaolaaW.PrintWords Go.Proofs.YtlcpaebidnaolaaW.PrintLast Go.Proofs.YtlcpaebidnaolaaW.PrintMore Go.Proofs.Ytlcpaebidnaolaa.Short
attribute [local go_sem] max2_int min2_int max_two min_two max_three min_three max_four min_four   -- for this text's walks alone
set_option linter.unusedVariables false
set_option maxHeartbeats 8000000
set_option maxRecDepth 100000
set_option linter.unusedSimpArgs false

/-! ### spec_l9Draw: function 53 -/
mutual
def spec_l9Draw.l0 : Nat → List (S113) → Int → List Int → Int → Int → Option ((List (S113)) × Int × Int)
 | 0, _, _, _, _, _ => none
 | k + 1, x3, x4, x1000, x1001, x1002 => if x4 > 0 then ((spec_l1Int.f x1000 x1001 x1002 (([1, 2, 3, 10, 26, 40, 42, 200] : List Int))).bind fun bt711 => ((spec_l1Below.f x1000 bt711.2.1 bt711.2.2 4).bind fun bt715 => (spec_l9Draw.l1 k x3 x4 bt715.1 x1000 bt715.2.1 bt715.2.2 bt711.1 ([] : List Int)))) else (some (x3, x1001, x1002))
def spec_l9Draw.l1 : Nat → List (S113) → Int → Int → List Int → Int → Int → Int → List Int → Option ((List (S113)) × Int × Int)
 | 0, _, _, _, _, _, _, _, _ => none
 | k + 1, x3, x4, x6, x1000, x1001, x1002, x715000, x715001 => if x6 > 0 then ((spec_l1Below.f x1000 x1001 x1002 256).bind fun bt718 => (if x715001.length < 17592186044416 then (spec_l9Draw.l1 k x3 x4 (wrap64 (x6 - 1)) x1000 bt718.2.1 bt718.2.2 x715000 (x715001 ++ [bt718.1])) else (none))) else ((spec_ExtOf.f k x3 x715000).bind fun t724 => (if t724 < 0 then (if x3.length < 4398046511104 then (spec_l9Draw.l0 k (x3 ++ [(⟨x715000, x715001⟩ : S113)]) (wrap64 (x4 - 1)) x1000 x1001 x1002) else (none)) else (spec_l9Draw.l0 k x3 (wrap64 (x4 - 1)) x1000 x1001 x1002)))
end
def spec_l9Draw.f (k : Nat) (s0_0 : List Int) (s0_1 : Int) (s0_2 : Int) : Option ((List (S113)) × Int × Int) := (spec_l1Below.f s0_0 s0_1 s0_2 6).bind fun bt705 => (spec_l9Draw.l0 k (([] : List (S113))) bt705.1 s0_0 bt705.2.1 bt705.2.2)
theorem spec_l9Draw.mono_l : ∀ k, (∀ y0 y1 y2 y3 y4, LeO (spec_l9Draw.l0 k y0 y1 y2 y3 y4) (spec_l9Draw.l0 (k + 1) y0 y1 y2 y3 y4)) ∧ (∀ y0 y1 y2 y3 y4 y5 y6 y7, LeO (spec_l9Draw.l1 k y0 y1 y2 y3 y4 y5 y6 y7) (spec_l9Draw.l1 (k + 1) y0 y1 y2 y3 y4 y5 y6 y7))
 | 0 => ⟨fun _ _ _ _ _ r h => by simp [spec_l9Draw.l0] at h, fun _ _ _ _ _ _ _ _ r h => by simp [spec_l9Draw.l1] at h⟩
 | k + 1 => by
  obtain ⟨ih0, ih1⟩ := spec_l9Draw.mono_l k
  refine ⟨?_, ?_⟩
  ·intro y0 y1 y2 y3 y4
   unfold spec_l9Draw.l0
   exact mo3_ ih0 ih1 spec_ExtOf.mono
  ·intro y0 y1 y2 y3 y4 y5 y6 y7
   unfold spec_l9Draw.l1
   exact mo3_ ih0 ih1 spec_ExtOf.mono
theorem spec_l9Draw.mono : ∀ a0 a1 a2 k, LeO (spec_l9Draw.f k a0 a1 a2) (spec_l9Draw.f (k + 1) a0 a1 a2) := by
 intro a0 a1 a2 k
 obtain ⟨ih0, ih1⟩ := spec_l9Draw.mono_l k
 unfold spec_l9Draw.f
 exact mo3_ ih0 ih1 spec_ExtOf.mono
def spec_l9Draw.T9 : Bool × List (List Nat × List Nat) := (true, [([], []), ([0], [0]), ([], []), ([2], [2]), ([3], [3]), ([1, 4, 3], [1, 4]), ([0, 1, 2, 3, 4, 5], []), ([6, 5, 5, 0, 1, 2, 3, 4, 5], [5, 6])])
def spec_l9Draw.B9 : List Nat := [0, 1, 0, 4, 12, 31, 63, 127]
theorem spec_l9Draw.tab9 : rtab .any (opsOf Try.f53 9) = spec_l9Draw.T9 := by kernel_rfl
theorem spec_l9Draw.bits9 : waitsOk spec_l9Draw.T9.2 spec_l9Draw.B9 = true := by kernel_rfl
theorem spec_l9Draw.calls (k : Nat) (g : Nat) (s0_0 : List Int) (s0_1 : Int) (s0_2 : Int) (r1 : List (S113)) (r2 : Int) (r3 : Int) (w0 w : World) (hI : IsS77 w0 w g s0_0 s0_1 s0_2) (hB : Below w0.heap.size w0 w) (h : spec_l9Draw.f k s0_0 s0_1 s0_2 = some (r1, r2, r3)) :
  Calls Try.prog 53 #[.pointer (some ⟨g, 0, none⟩)] w fun e w' => ∃ v0_ : Value, e = .returned (v0_) ∧ Kd.S k113 113 w' w.heap.size (fun _ => True) v0_ r1 ∧ IsS77 w0 w' g s0_0 r2 r3 ∧ Below w0.heap.size w0 w' ∧ KeepBut w w' g none := by
 have hu113 := Try.underlying113
 have HI0 := Q_ hI
 have HK := Q_ (KeepBut.refl w g none)
 have HL := Q_ hB.size
 clear hI
 have HW0 := Q_ hB.size
 have HB := Q_ hB
 clear hB
 have H : ((spec_l1Below.f s0_0 s0_1 s0_2 6).bind fun bt705 => (spec_l9Draw.l0 k (([] : List (S113))) bt705.1 s0_0 bt705.2.1 bt705.2.2)) = some (r1, r2, r3) := h
 clear h
 obtain ⟨y702, hy702⟩ : ∃ y_ : List (S113), y_ = (([] : List (S113))) := ⟨_, rfl⟩
 replace H : ((spec_l1Below.f s0_0 s0_1 s0_2 6).bind fun bt705 => (spec_l9Draw.l0 k y702 bt705.1 s0_0 bt705.2.1 bt705.2.2)) = some (r1, r2, r3) := hb_ hy702 H
 have Ny702 := Q_ hy702
 clear hy702
 replace H := Option.bind_eq_some_iff.mp H
 obtain ⟨⟨t705, t706, t707⟩, A20, H⟩ := H
 replace H : (spec_l9Draw.l0 k y702 t705 s0_0 t706 t707) = some (r1, r2, r3) := H
 have A2 := Q_ A20
 clear A20
 have H' := Q_ H
 clear H
 go_enter Try.func53, Try.ntmps53
 go_wp2_with (first | ((with_reducible refine gate_dst (N := 7) rfl ?_); refine Kd.S_lit k113 _ 113 ?hg (N := 7) ?hd (xs := ([] : List (S113))) (inner := []) (ok := fun _ => True) (okp := fun _ => True) ?hr ?hp (fun _ hk => hk) trivial (Below.refl _ _) (Nat.le_refl _) (by simp) ?_; (case hd => rfl); (case hg => rfl); (case hr => first | (go_simp; done) | (go_simp; rfl)); (case hp => exact (Reps.none _ _)); intro v703 w3 ho4 hb hg_ hnew_; clear hg_ hnew_; (first | rw [← Ny702.out] at ho4 | (simp only [Int.reduceToNat] at ho4; rw [← Ny702.out] at ho4)); have _ := Q_ (Kd.S_lower ho4 (keep_size (w := w) (g := g) (row := none) (qk0_ HK.out))); have _ := Q_ (IsS77.below (qs77_0_ HI0.out) hb); have _ := Q_ (KeepBut.trans (qk0_ HK.out) (KeepBut.of_below hb g none) (.inl rfl)); have _ := Q_ (below_step (qb1_ HB.out (IsS77.ge HI0.out)) hb); clear HI0 HK HB; rename_i HO704 HI0 HK HB; clear hb ho4) | ((with_reducible refine gate_callee (f := 25) rfl ?_); refine gl_ (some 9) Try.func25 #[.pointer (some ⟨g, 0, none⟩), .int .i64 6] ?_; (with_reducible refine (spec_l1Below.calls g s0_0 s0_1 s0_2 6 t705 t706 t707 w0 _ ?side1 ?side2 A2.out).mono ?_); (case side1 => exact qs77_0_ HI0.out); (case side2 => exact qb1_ HB.out (IsS77.ge HI0.out)); rintro e w5 ⟨rfl, hi, hb, hk⟩; refine ⟨_, rfl, ?_⟩; have _ := Q_ (Kd.S_mono (Kd.S_keep (IsS77.apartS (show IsS77 w0 _ g s0_0 s0_1 s0_2 from qs77_0_ HI0.out) (ps_ HO704.out) (by decide)) hk (fun _ h => h.2)) (fun _ h => h.1)); have _ := Q_ (KeepBut.trans (qk0_ HK.out) hk (.inl rfl)); have _ := Q_ (hb); have _ := Q_ (hi); clear HO704 HK HB HI0; rename_i HO704 HK HB HI0; (try clear hb); (try clear hb2); (try clear hk); (try clear hi)))
 (try simp only [Act.put, List.setIfInBounds_toArray, List.set_cons_zero, List.set_cons_succ])
 go_loopg [3, 4] k (fun kq v3 v4 w' => ∃ (x3_1 : List (S113)) (x4_1 : Int) (x1001_1 : Int) (x1002_1 : Int), v4 = .int .i64 x4_1 ∧ Aside0 (spec_l9Draw.l0 kq x3_1 x4_1 s0_0 x1001_1 x1002_1 = some (r1, r2, r3)) ∧ Aside0 (kq ≤ k) ∧ Aside0 (Kd.S k113 113 w' w.heap.size (fun _ => True) v3 x3_1) ∧ Aside0 (IsS77 w0 w' g s0_0 x1001_1 x1002_1) ∧ Aside0 (KeepBut w w' g none) ∧ Aside0 (Below w0.heap.size w0 w'))
 case atStart => exact ⟨(y702), (t705), (t706), (t707), el_, H', ⟨Nat.le_refl _⟩, ⟨ps_ HO704.out⟩, ⟨qs77_0_ HI0.out⟩, ⟨qk0_ HK.out⟩, ⟨qb1_ HB.out (IsS77.ge HI0.out)⟩⟩
 clear H'
 try clear c2
 try clear p2
 try clear c5
 obtain ⟨x3_1, x4_1, x1001_1, x1002_1, rfl, HA, HK1, HO_3, HI0, HK, HB⟩ := hrel
 rcases gk with _ | k1
 ·exact absurd HA.out (by simp [spec_l9Draw.l0])
 have H := HA.out
 clear HA
 simp only [spec_l9Draw.l0] at H
 by_cases c6 : x4_1 > 0
 rotate_left
 ·rw [if_neg c6] at H
  have c6b0 : decide (0 < x4_1) = false := decide_eq_false c6
  clear c6
  simp only [Option.some.injEq, Prod.mk.injEq] at H
  obtain ⟨rfl, rfl, rfl⟩ := H
  go_wp2
  go_ret
  exact ⟨_, er_, ps_ HO_3.out, qs77_0_ HI0.out, qb1_ HB.out (IsS77.ge HI0.out), qk0_ HK.out⟩
 rw [if_pos c6] at H
 have c6b0 : decide (0 < x4_1) = true := decide_eq_true c6
 clear c6
 obtain ⟨y708, hy708⟩ : ∃ y_ : List Int, y_ = (([1, 2, 3, 10, 26, 40, 42, 200] : List Int)) := ⟨_, rfl⟩
 replace H : ((spec_l1Int.f s0_0 x1001_1 x1002_1 y708).bind fun bt711 => ((spec_l1Below.f s0_0 bt711.2.1 bt711.2.2 4).bind fun bt715 => (spec_l9Draw.l1 k1 x3_1 x4_1 bt715.1 s0_0 bt715.2.1 bt715.2.2 bt711.1 ([] : List Int)))) = some (r1, r2, r3) := hb_ hy708 H
 have Ny708 := Q_ hy708
 clear hy708
 replace H := Option.bind_eq_some_iff.mp H
 obtain ⟨⟨t711, t712, t713⟩, A70, H⟩ := H
 (try dsimp only at H)
 have A7 := Q_ A70
 clear A70
 replace H := Option.bind_eq_some_iff.mp H
 obtain ⟨⟨t715, t716, t717⟩, A80, H⟩ := H
 (try dsimp only at H)
 have A8 := Q_ A80
 clear A80
 have H' := Q_ H
 clear H
 go_wp2_with (first | ((with_reducible refine gate_dst (N := 15) rfl ?_); refine Kd.R_lit (Kd.int .i64) _ 3 ?hg (N := 15) ?hd (xs := ([1, 2, 3, 10, 26, 40, 42, 200] : List Int)) (inner := [.int .i64 1, .int .i64 2, .int .i64 3, .int .i64 10, .int .i64 26, .int .i64 40, .int .i64 42, .int .i64 200]) (ok := fun _ => True) (okp := fun _ => True) ?hr ?hp (fun _ hk => hk) trivial (Below.refl _ _) (Nat.le_refl _) (by simp) ?_; (case hd => rfl); (case hg => rfl); (case hr => first | (go_simp; done) | (go_simp; rfl)); (case hp => exact (Reps.one (show Kd.M (Kd.int .i64) _ _ _ 1 [.int .i64 1] from rfl) (Reps.one (show Kd.M (Kd.int .i64) _ _ _ 2 [.int .i64 2] from rfl) (Reps.one (show Kd.M (Kd.int .i64) _ _ _ 3 [.int .i64 3] from rfl) (Reps.one (show Kd.M (Kd.int .i64) _ _ _ 10 [.int .i64 10] from rfl) (Reps.one (show Kd.M (Kd.int .i64) _ _ _ 26 [.int .i64 26] from rfl) (Reps.one (show Kd.M (Kd.int .i64) _ _ _ 40 [.int .i64 40] from rfl) (Reps.one (show Kd.M (Kd.int .i64) _ _ _ 42 [.int .i64 42] from rfl) (Reps.one (show Kd.M (Kd.int .i64) _ _ _ 200 [.int .i64 200] from rfl) (Reps.none _ _)))))))))); intro v709 w9 ho10 hb hg_ hnew_; clear hg_ hnew_; (first | rw [← Ny708.out] at ho10 | (simp only [Int.reduceToNat] at ho10; rw [← Ny708.out] at ho10)); have _ := Q_ (Kd.S_elder' (ps_ HO_3.out) (Kd.R_base ho10) hb); have _ := Q_ (Kd.R_lower ho10 (keep_size (w := w) (g := g) (row := none) (qk0_ HK.out))); have _ := Q_ (IsS77.below (qs77_0_ HI0.out) hb); have _ := Q_ (KeepBut.trans (qk0_ HK.out) (KeepBut.of_below hb g none) (.inl rfl)); have _ := Q_ (below_step (qb1_ HB.out (IsS77.ge HI0.out)) hb); clear HO_3 HI0 HK HB; rename_i HO_3 HO710 HI0 HK HB; clear hb ho10; obtain ⟨Ao11, co11, eo11⟩ := Kd.R_slice HO710.out; subst eo11) | ((with_reducible refine gate_callee (f := 27) rfl ?_); refine gl_ (some 16) Try.func27 #[.pointer (some ⟨g, 0, none⟩), .slice Ao11 y708.length co11] ?_; (with_reducible refine (spec_l1Int.calls g s0_0 x1001_1 x1002_1 _ _ y708 t711 t712 t713 w0 _ ?side1 ?side2 ?side3 ?side4 ?side5 A7.out).mono ?_); (case side1 => exact qs77_0_ HI0.out); (case side2 => exact qb1_ HB.out (IsS77.ge HI0.out)); (case side3 => exact pc_ ((Kd.R_reads' HO710.out).2.2)); (case side4 => exact (Kd.R_reads' HO710.out).2.1); (case side5 => exact far_slice (IsS77.own_ne HI0.out HO710.out (by decide))); rintro e w12 ⟨rfl, hi, hb, hk⟩; refine ⟨_, rfl, ?_⟩; have _ := Q_ (Kd.S_mono (Kd.S_keep (IsS77.apartS (show IsS77 w0 _ g s0_0 x1001_1 x1002_1 from qs77_0_ HI0.out) (ps_ HO_3.out) (by decide)) hk (fun _ h => h.2)) (fun _ h => h.1)); have _ := Q_ (Kd.R_mono (Kd.R_keep (IsS77.apart (show IsS77 w0 _ g s0_0 x1001_1 x1002_1 from qs77_0_ HI0.out) (pr_ HO710.out) (by decide)) hk (fun _ h => h.2)) (fun _ h => h.1)); have _ := Q_ (KeepBut.trans (qk0_ HK.out) hk (.inl rfl)); have _ := Q_ (hb); have _ := Q_ (hi); clear HO_3 HO710 HK HB HI0; rename_i HO_3 HO710 HK HB HI0; (try clear hb); (try clear hb2); (try clear hk); (try clear hi)) | ((with_reducible refine gate_dst (N := 5) rfl ?_); refine box_event ?hg (N := 5) ?hd (cs := #[.int .i64 0, .slice none 0 0]) (t := 113) ?hr ?_; (case hd => rfl); (case hg => rfl); (case hr => first | (go_simp; done) | (go_simp; rfl)); intro gb714 hg w13 hbox hb; have _ := Q_ (Kd.S_below (Kd.S_elderB (ps_ HO_3.out) gb714 (Nat.le_of_eq hg.symm)) hb); have _ := Q_ (Kd.R_below (pr_ HO710.out) hb); have _ := Q_ (IsS77.below (qs77_0_ HI0.out) hb); have _ := Q_ (KeepBut.trans (qk0_ HK.out) (KeepBut.of_below hb g none) (.inl rfl)); have _ := Q_ (below_step (qb1_ HB.out (IsS77.ge HI0.out)) hb); have BK714 := Q_ (hbox); have GW714 := Q_ ((by rw [hg]; exact (keep_size (w := w) (g := g) (row := none) (qk0_ HK.out)) : w.heap.size ≤ gb714)); have GE714 := Q_ (Nat.le_trans HW0.out GW714.out); have NB0_714 := Q_ ((by rw [hg]; exact Nat.ne_of_lt (IsS77.lt (show IsS77 w0 _ g s0_0 t712 t713 from qs77_0_ HI0.out)) : g ≠ gb714)); have NB714_0 := Q_ NB0_714.out.symm; clear HO_3 HO710 HI0 HK HB; rename_i HO_3 HO710 HI0 HK HB; clear hb hbox hg; have hnb14 := NB714_0.out; have hnc14 := NB0_714.out; have hcz15 := bc2_ BK714.out) | ((with_reducible refine gate_callee (f := 25) rfl ?_); refine gl_ (some 19) Try.func25 #[.pointer (some ⟨g, 0, none⟩), .int .i64 4] ?_; (with_reducible refine (spec_l1Below.calls g s0_0 t712 t713 4 t715 t716 t717 w0 _ ?side1 ?side2 A8.out).mono ?_); (case side1 => exact qs77_1_ HI0.out NB0_714.out); (case side2 => exact qb2_ HB.out (IsS77.ge HI0.out) GE714.out); rintro e w16 ⟨rfl, hi, hb, hk⟩; refine ⟨_, rfl, ?_⟩; have _ := Q_ (Kd.S_mono (Kd.S_keep (IsS77.apartS (show IsS77 w0 _ g s0_0 t712 t713 from qs77_1_ HI0.out NB0_714.out) (by (with_reducible repeat (first | apply Kd.S_alloc | apply Kd.S_drewN | apply Kd.S_drew)); exact (Kd.S_mono (Kd.S_far (p := ⟨gb714, 1, none⟩) (Kd.S_far (p := ⟨gb714, 0, none⟩) (Kd.S_mono HO_3.out (fun k_ hk => (⟨hk, hk.2⟩ : _ ∧ k_ ≠ gb714))) (fun _ hk => hk.2) (.int .i64 t711)) (fun _ hk => hk.2) (.slice none 0 0)) (fun _ h_ => h_.1))) (by decide)) hk (fun _ h => h.2)) (fun _ h => h.1)); have _ := Q_ (Kd.R_mono (Kd.R_keep (IsS77.apart (show IsS77 w0 _ g s0_0 t712 t713 from qs77_1_ HI0.out NB0_714.out) (pr_ (rf2_ HO710.out BK714.out)) (by decide)) hk (fun _ h => h.2)) (fun _ h => h.1)); have _ := Q_ (KeepBut.blk hk (g' := gb714) (o := .cells #[.int .i64 t711, .slice none 0 0] 113 (0, 0)) (pp_ BK714.out) NB714_0.out (by simp)); have _ := Q_ (KeepBut.trans (qk1_ HK.out GW714.out) hk (.inl rfl)); have _ := Q_ (hb); have _ := Q_ (hi); clear HO_3 HO710 BK714 HK HB HI0; rename_i HO_3 HO710 BK714 HK HB HI0; (try clear hb); (try clear hb2); (try clear hk); (try clear hi)))
 (try simp only [Act.put, List.setIfInBounds_toArray, List.set_cons_zero, List.set_cons_succ])
 go_loopg [6] k1 (fun kq v6 w' => ∃ (x6_2 : Int) (x1001_2 : Int) (x1002_2 : Int) (x715001_2 : List Int) (u715001 : Value), v6 = .int .i64 x6_2 ∧ Aside0 (spec_l9Draw.l1 kq x3_1 x4_1 x6_2 s0_0 x1001_2 x1002_2 t711 x715001_2 = some (r1, r2, r3)) ∧ Aside0 (kq ≤ k1) ∧ Aside0 (Kd.S k113 113 w' w.heap.size (fun k_ => some k_ ≠ (u715001 : Value).ownBlock ∧ k_ ≠ gb714) u3 x3_1) ∧ Aside0 (Kd.R (Kd.int .i64) 3 w' w.heap.size (fun _ => True) u715001 x715001_2) ∧ Aside0 (w'.heap[gb714]? = some (.cells #[.int .i64 t711, u715001] 113 (0, 0))) ∧ Aside0 (IsS77 w0 w' g s0_0 x1001_2 x1002_2) ∧ Aside0 (KeepBut w w' g none) ∧ Aside0 (Below w0.heap.size w0 w'))
 case atStart => exact ⟨(t715), (t716), (t717), (([] : List Int)), (.slice none 0 0), el_, H', ⟨Nat.le_refl _⟩, ⟨by (with_reducible repeat (first | apply Kd.S_alloc | apply Kd.S_drewN | apply Kd.S_drew)); exact Kd.S_mono HO_3.out (fun _ hk => ⟨(by simp [Value.ownBlock]), hk.2⟩)⟩, ⟨by first | exact Kd.R_nil _ _ _ _ _ | exact Kd.N_nil _ _ _ _ _ | exact Kd.V_nil _ _ _ _ _ | exact Kd.Q_nil _ _ _ _ _ | exact Kd.S_nil _ _ _ _ _⟩, ⟨pk_ BK714.out⟩, ⟨qs77_1_ HI0.out NB0_714.out⟩, ⟨qk1_ HK.out GW714.out⟩, ⟨qb2_ HB.out (IsS77.ge HI0.out) GE714.out⟩⟩
 clear H'
 try clear c1
 try clear c2
 try clear p2
 try clear c5
 try clear c6
 try clear c6b0
 try clear c14
 try clear hcz15
 try clear p2
 obtain ⟨x6_2, x1001_2, x1002_2, x715001_2, u715001, rfl, HA, HK2, HO_3, HO_715001, BK714, HI0, HK, HB⟩ := hrel
 rcases gk with _ | k2
 ·exact absurd HA.out (by simp [spec_l9Draw.l1])
 have H := HA.out
 clear HA
 simp only [spec_l9Draw.l1] at H
 by_cases c17 : x6_2 > 0
 rotate_left
 ·rw [if_neg c17] at H
  have c17b0 : decide (0 < x6_2) = false := decide_eq_false c17
  clear c17
  replace H := Option.bind_eq_some_iff.mp H
  obtain ⟨t724, A180, H⟩ := H
  (try dsimp only at H)
  have A18 := Q_ A180
  clear A180
  have HS_ := Q_ H
  clear H
  have hnb19 := NB714_0.out
  have hnc19 := NB0_714.out
  have hcz20 := bc2_ BK714.out
  obtain ⟨Ao21, co21, eo21⟩ := Kd.S_slice HO_3.out
  subst eo21
  go_upto_if 35 with (first | ((with_reducible refine gate_callee (f := 71) rfl ?_); refine gl_ (some 34) Try.func71 #[.slice Ao21 x3_1.length co21, .int .i64 t711] ?_; (with_reducible refine (spec_ExtOf.calls k2 _ _ x3_1 t711 t724 _ ?side1 ?side2 A18.out).mono ?_); (case side1 => exact pc_ ((Kd.S_reads' HO_3.out).2.2)); (case side2 => exact (Kd.S_reads' HO_3.out).2.1); rintro e w' ⟨rfl, ⟨nd, rfl⟩⟩; refine ⟨_, rfl, ?_⟩))
  (try simp only [Act.put, List.setIfInBounds_toArray, List.set_cons_zero, List.set_cons_succ])
  have H := HS_.out
  clear HS_
  by_cases c22 : t724 < 0
  rotate_left
  ·rw [if_neg c22] at H
   have c22b0 : decide (t724 < 0) = false := decide_eq_false c22
   clear c22
   (first | rw [c22b0] | (simp only [i64_w, i32_w]; rw [c22b0]) | skip)
   have H' := Q_ H
   clear H
   go_wp2
   go_roundg k2
   case measure => have := HK1.out; have := HK2.out; omega
   case rel => exact ⟨(x3_1), (wrap64 (x4_1 - 1)), (x1001_2), (x1002_2), el_, H', ⟨by have := HK1.out; have := HK2.out; omega⟩, ⟨ps_ (Kd.S_mono HO_3.out (fun _ hk => trivial))⟩, ⟨qs77_1_ HI0.out NB0_714.out⟩, ⟨qk1_ HK.out GW714.out⟩, ⟨qb2_ HB.out (IsS77.ge HI0.out) GE714.out⟩⟩
  rw [if_pos c22] at H
  have c22b0 : decide (t724 < 0) = true := decide_eq_true c22
  clear c22
  (first | rw [c22b0] | (simp only [i64_w, i32_w]; rw [c22b0]) | skip)
  by_cases c23 : x3_1.length < 4398046511104
  rotate_left
  ·rw [if_neg c23] at H
   exact absurd H (by simp)
  rw [if_pos c23] at H
  have LMc23 := Q_ c23
  clear c23
  obtain ⟨y725, hy725⟩ : ∃ y_ : List (S113), y_ = (x3_1 ++ [(⟨t711, x715001_2⟩ : S113)]) := ⟨_, rfl⟩
  replace H : (spec_l9Draw.l0 k2 y725 (wrap64 (x4_1 - 1)) s0_0 x1001_2 x1002_2) = some (r1, r2, r3) := hb_ hy725 H
  have Ny725 := Q_ hy725
  clear hy725
  have H' := Q_ H
  clear H
  have hnb24 := NB714_0.out
  have hnc24 := NB0_714.out
  have hcz25 := bc2_ BK714.out
  obtain ⟨Ao27, co27, eo27⟩ := Kd.R_slice HO_715001.out
  subst eo27
  go_wp2_with (first | ((with_reducible refine gate_builtin (b := .append) (xs := #[.tmp 36, .tmp 38]) rfl ?_); at_builtin; refine Kd.S_append k113 w.heap.size rfl (.tmp 36) (.tmp 38) 69 113 (.agg #[(.int .i64 0), (.slice none 0 0)]) 32 rfl Try.underlying69 info113 rfl (by decide) (by omega) (.slice Ao21 x3_1.length co21) x3_1 (⟨t711, x715001_2⟩ : S113) [.int .i64 t711, .slice Ao27 x715001_2.length co27] (fun k_ => k_ ≠ gb714) (fun k_ => some k_ = (.slice Ao27 x715001_2.length co27 : Value).ownBlock) rfl rfl ?aP (fun k_ hk_ => ((Kd.R_mono (ok' := fun k_ => ((fun k_ => k_ ≠ gb714)) k_ ∧ some k_ ≠ (.slice Ao21 x3_1.length co21 : Value).ownBlock) (Kd.R_types (Kd.R_apart' (HO_715001.out) (Kd.S_typed HO_3.out) (by decide)) BK714.out (by decide)) (fun k_ hk => ⟨hk.2, hk.1.2⟩))).1 k_ hk_.symm) ?aF ?aO (Below.refl _ _) ?aS ?aL ?_; (case aP => exact k113_mkM _ _ _ (⟨t711, x715001_2⟩ : S113) (Kd.R_mono (Kd.R_tight rfl (Kd.R_mono (ok' := fun k_ => ((fun k_ => k_ ≠ gb714)) k_ ∧ some k_ ≠ (.slice Ao21 x3_1.length co21 : Value).ownBlock) (Kd.R_types (Kd.R_apart' (HO_715001.out) (Kd.S_typed HO_3.out) (by decide)) BK714.out (by decide)) (fun k_ hk => ⟨hk.2, hk.1.2⟩))) (fun _ h_ => h_))); (case aF => exact (fun k_ hk => Kd.freshB (g := gb714) (o := .cells #[.int .i64 t711, .slice Ao27 x715001_2.length co27] 113 (0, 0)) (pk_ BK714.out) k_ hk)); (case aO => exact (by (with_reducible repeat (first | apply Kd.S_alloc | apply Kd.S_drewN | apply Kd.S_drew)); exact Kd.S_mono HO_3.out (fun k_ hk => ⟨hk.2, fun e_ => hk.1 e_⟩))); (case aS => exact (keep_size (w := w) (g := g) (row := none) (qk1_ HK.out GW714.out))); (case aL => have := LMc23.out; omega); intro v726 w26 ho hb hg hat; rw [← Ny725.out] at ho; have _ := Q_ (blk_grown (g := gb714) (o := .cells #[.int .i64 t711, .slice Ao27 x715001_2.length co27] 113 (0, 0)) (pk_ BK714.out) hg (Kd.S_away HO_3.out (fun _ hk => hk.2))); have _ := Q_ (IsS77.grown (qs77_1_ HI0.out NB0_714.out) hg (IsS77.own_neS HI0.out HO_3.out (by decide))); have _ := Q_ (below_weaken (qb2_ HB.out (IsS77.ge HI0.out) GE714.out) HL.out hb); have _ := Q_ (KeepBut.trans (qk1_ HK.out GW714.out) (KeepBut.of_grown hg g) (Kd.S_base2 HO_3.out)); have _ := Q_ (ho); clear BK714 HI0 HB HK HO_3 HO_715001; rename_i BK714 HI0 HB HK HO727; clear ho hb hg hat))
  go_roundg k2
  case measure => have := HK1.out; have := HK2.out; omega
  case rel => exact ⟨(y725), (wrap64 (x4_1 - 1)), (x1001_2), (x1002_2), el_, H', ⟨by have := HK1.out; have := HK2.out; omega⟩, ⟨ps_ (Kd.S_mono HO727.out (fun _ hk => trivial))⟩, ⟨qs77_1_ HI0.out NB0_714.out⟩, ⟨qk1_ HK.out GW714.out⟩, ⟨qb2_ HB.out (IsS77.ge HI0.out) GE714.out⟩⟩
 rw [if_pos c17] at H
 have c17b0 : decide (0 < x6_2) = true := decide_eq_true c17
 clear c17
 replace H := Option.bind_eq_some_iff.mp H
 obtain ⟨⟨t718, t719, t720⟩, A280, H⟩ := H
 (try dsimp only at H)
 have A28 := Q_ A280
 clear A280
 by_cases c29 : x715001_2.length < 17592186044416
 rotate_left
 ·rw [if_neg c29] at H
  exact absurd H (by simp)
 rw [if_pos c29] at H
 have LMc29 := Q_ c29
 clear c29
 obtain ⟨y721, hy721⟩ : ∃ y_ : List Int, y_ = (x715001_2 ++ [t718]) := ⟨_, rfl⟩
 replace H : (spec_l9Draw.l1 k2 x3_1 x4_1 (wrap64 (x6_2 - 1)) s0_0 t719 t720 t711 y721) = some (r1, r2, r3) := hb_ hy721 H
 have Ny721 := Q_ hy721
 clear hy721
 have H' := Q_ H
 clear H
 try go_wp2
 have _ := Q_ (Kd.S_drew HO_3.out)
 have _ := Q_ (Kd.R_drew HO_715001.out)
 have _ := Q_ (blk_drew BK714.out)
 have _ := Q_ (IsS77.drew HI0.out)
 have _ := Q_ (keep_drew HK.out)
 have _ := Q_ (below_drew1 HB.out)
 clear HO_3 HO_715001 BK714 HI0 HK HB
 rename_i HO_3 HO_715001 BK714 HI0 HK HB
 refine start_ (n := 8) (S := fun w' => w'.cell? ⟨gb714, 0, none⟩ = some (.int .i64 t711) ∧ w'.cell? ⟨gb714, 1, none⟩ = some (u715001)) (ds := [7]) #[false, false, false, false, false, false, false, false] (by kernel_rfl) rfl rfl (sb_ BK714.out) (fun hHeld => ?_); refine with_tabW spec_l9Draw.tab9 spec_l9Draw.bits9 (fun HT_ HW_ => ?_)
 generalize wr.drew = w30 at HO_3 HO_715001 BK714 HI0 HK HB hHeld ⊢
 refine pu_ 0 (some 24) (tf_ 1 8) HT_ ?_
 refine pu_ 2 (some 26) (tm_ 8 5) HT_ ?_
 refine ta_ 1 (some 25) (tf_ 3 8) HT_ HW_ hHeld ?_
 refine on_ 3 (some 27) (tf_ 4 8) HT_ (fun K hK => ?_)
 refine goes_ Try.func25 (by kernel_rfl) rfl #[.pointer (some ⟨g, 0, none⟩), .int .i64 256] (by rfl) rfl rfl mp_ ?_
 with_reducible refine (spec_l1Below.calls g s0_0 x1001_2 x1002_2 256 t718 t719 t720 w0 _ ?side1 ?side2 A28.out).mono ?_
 (case side1 => exact qs77_1_ HI0.out NB0_714.out)
 (case side2 => exact qb2_ HB.out (IsS77.ge HI0.out) GE714.out)
 rintro e w31 ⟨rfl, hi, hb, hk⟩
 refine ⟨_, rfl, ?_⟩
 have _ := Q_ (Kd.S_mono (Kd.S_keep (IsS77.apartS (show IsS77 w0 _ g s0_0 x1001_2 x1002_2 from qs77_1_ HI0.out NB0_714.out) (ps_ HO_3.out) (by decide)) hk (fun _ h => h.2)) (fun _ h => h.1))
 have _ := Q_ (Kd.R_mono (Kd.R_keep (IsS77.apart (show IsS77 w0 _ g s0_0 x1001_2 x1002_2 from qs77_1_ HI0.out NB0_714.out) (pr_ HO_715001.out) (by decide)) hk (fun _ h => h.2)) (fun _ h => h.1))
 have _ := Q_ (KeepBut.blk hk (g' := gb714) (o := .cells #[.int .i64 t711, u715001] 113 (0, 0)) (pk_ BK714.out) NB714_0.out (by simp))
 have _ := Q_ (KeepBut.trans (qk1_ HK.out GW714.out) hk (.inl rfl))
 have _ := Q_ (hb)
 have _ := Q_ (hi)
 clear HO_3 HO_715001 BK714 HK HB HI0
 rename_i HO_3 HO_715001 BK714 HK HB HI0
 (try clear hb)
 (try clear hb2)
 (try clear hk)
 (try clear hi)
 refine hK.out _ _ (sb_ BK714.out) (fun hHeld => ?_)
 clear hK K
 refine no_ (some 27) ?_
 refine on_ 4 (some 28) (tf_ 5 8) HT_ (fun K hK => ?_)
 refine value_ (w1 := ?_) (v := ?_) (by rfl) rfl ?_ ?_
 rotate_left 2
 ·go_simp
  constructor
  ·rfl
  ·rfl
 refine hK.out _ _ ⟨(blk_cell (blk_alloc BK714.out _) 0).trans rfl, (blk_cell (blk_alloc BK714.out _) 1).trans rfl⟩ (fun hHeld => ?_)
 clear hK K
 refine no_ (some 28) ?_
 refine on_ 5 (some 29) (tf_ 6 8) HT_ (fun K hK => ?_)
 refine Kd.R_append_step (Kd.int .i64) w.heap.size (by rfl) (.tmp 25) (.tmp 28) 25 3 (.int .i64 0) 8 rfl Try.underlying25 info3 rfl (by decide) (by omega) u715001 x715001_2 t718 [.int .i64 t718] (fun _ => True) (fun _ => False) rfl rfl ?aP (fun _ hk => hk.elim) ?aF ?aO (Below.refl _ _) ?aS ?aL ?_
 (case aP => exact rfl)
 (case aF => exact (fun _ _ => trivial))
 (case aO => exact (pr_ HO_715001.out))
 (case aS => exact (keep_size (w := w) (g := g) (row := none) (qk1_ HK.out GW714.out)))
 (case aL => have := LMc29.out; omega)
 intro v722 w32 ho hb hg hat
 rw [← Ny721.out] at ho
 have _ := Q_ (Kd.S_after (ok := (fun k_ => k_ ≠ gb714)) (by (with_reducible repeat (first | apply Kd.S_alloc | apply Kd.S_drewN | apply Kd.S_drew)); exact Kd.S_mono HO_3.out (fun _ hk => ⟨hk.2, hk.1⟩)) hg hat)
 have _ := Q_ (blk_grown (g := gb714) (o := .cells #[.int .i64 t711, u715001] 113 (0, 0)) (pk_ BK714.out) hg (Kd.R_ne HO_715001.out BK714.out (by decide)))
 have _ := Q_ (IsS77.grown (qs77_1_ HI0.out NB0_714.out) hg (IsS77.own_ne HI0.out HO_715001.out (by decide)))
 have _ := Q_ (below_weaken (qb2_ HB.out (IsS77.ge HI0.out) GE714.out) HL.out hb)
 have _ := Q_ (KeepBut.trans (qk1_ HK.out GW714.out) (KeepBut.of_grown hg g) (Kd.R_base2 HO_715001.out))
 have _ := Q_ (ho)
 clear HO_3 BK714 HI0 HB HK HO_715001
 rename_i HO_3 BK714 HI0 HB HK HO723
 clear ho hb hg hat
 obtain ⟨Ao33, co33, eo33⟩ := Kd.R_slice HO723.out
 (first | subst eo33 | (injection eo33 with f1_ f2_ f3_; have f4_ := f1_.symm; have f5_ := f3_.symm; clear f1_ f2_ f3_; subst f4_; subst f5_))
 refine hK.out _ _ (sb_ BK714.out) (fun hHeld => ?_)
 clear hK K
 refine no_ (some 29) ?_
 refine pu_ 6 (some 30) (tf_ 7 8) HT_ ?_
 refine last_ (i := 7) (N := none) #[true, true, true, true, true, true, true, true] rfl rfl (one_of HT_.out (by kernel_rfl)) (by decide) (fun K hK => ?_)
 have hs34 : w32.cell? ⟨gb714, 1, none⟩ = some (u715001) := (blk_cell BK714.out 1).trans rfl
 have hfs34 := blk_frozen BK714.out 1
 refine skip_ (w1 := ?_) (by rfl) rfl ?_ ?_
 rotate_left
 ·go_simp
  rfl
 refine hK.out _ _ ?_
 clear hK K
 refine done_ (done_of HT_.out (by kernel_rfl)) ?_
 try go_wp2
 go_roundg k2
 case measure => have := HK1.out; have := HK2.out; omega
 case rel => exact ⟨(wrap64 (x6_2 - 1)), (t719), (t720), (y721), (.slice Ao33 y721.length co33), el_, H', ⟨by have := HK1.out; have := HK2.out; omega⟩, ⟨by (with_reducible repeat (first | apply Kd.S_alloc | apply Kd.S_drewN | apply Kd.S_drew)); exact Kd.S_mono (Kd.S_far (p := ⟨gb714, 1, none⟩) (Kd.S_mono HO_3.out (fun k_ hk => (⟨hk, hk.1⟩ : _ ∧ k_ ≠ gb714))) (fun _ hk => hk.2) (.slice Ao33 y721.length co33)) (fun _ hk => ⟨hk.1.2, hk.1.1⟩)⟩, ⟨pr_ (Kd.R_mono (Kd.R_far (p := ⟨gb714, 1, none⟩) (Kd.R_types HO723.out BK714.out (by decide)) (fun _ hk => hk.2) (.slice Ao33 y721.length co33)) (fun _ hk => trivial))⟩, ⟨pp_ BK714.out⟩, ⟨qs77_1_ HI0.out NB0_714.out⟩, ⟨qk1_ HK.out GW714.out⟩, ⟨qb2_ HB.out (IsS77.ge HI0.out) GE714.out⟩⟩

/-! ### spec_l17Draw: function 40 -/
def spec_l17Draw.f (k : Nat) (s0_0 : List Int) (s0_1 : Int) (s0_2 : Int) : Option (List Int × (List (S113)) × Int × Int) := (spec_l12Draw.f k s0_0 s0_1 s0_2).bind fun bt729 => ((spec_l9Draw.f k s0_0 bt729.2.1 bt729.2.2).bind fun bt734 => (some (bt729.1, bt734.1, bt734.2.1, bt734.2.2)))
theorem spec_l17Draw.mono : ∀ a0 a1 a2 k, LeO (spec_l17Draw.f k a0 a1 a2) (spec_l17Draw.f (k + 1) a0 a1 a2) := by
 intro a0 a1 a2 k
 unfold spec_l17Draw.f
 exact mo2_ spec_l12Draw.mono spec_l9Draw.mono
theorem spec_l17Draw.calls (k : Nat) (g : Nat) (s0_0 : List Int) (s0_1 : Int) (s0_2 : Int) (r1 : List Int) (r2 : List (S113)) (r3 : Int) (r4 : Int) (w0 w : World) (hI : IsS77 w0 w g s0_0 s0_1 s0_2) (hB : Below w0.heap.size w0 w) (h : spec_l17Draw.f k s0_0 s0_1 s0_2 = some (r1, r2, r3, r4)) :
  Calls Try.prog 40 #[.pointer (some ⟨g, 0, none⟩)] w fun e w' => ∃ v0_ v1_ : Value, e = .returned (.agg #[v0_, v1_]) ∧ Kd.R (Kd.int .i64) 3 w' w.heap.size (fun _ => True) v0_ r1 ∧ Kd.S k113 113 w' w.heap.size (fun k_ => some k_ ≠ (v0_ : Value).ownBlock) v1_ r2 ∧ IsS77 w0 w' g s0_0 r3 r4 ∧ Below w0.heap.size w0 w' ∧ KeepBut w w' g none := by
 have hu71 := Try.underlying71
 have HI0 := Q_ hI
 have HK := Q_ (KeepBut.refl w g none)
 have HL := Q_ hB.size
 clear hI
 have HW0 := Q_ hB.size
 have HB := Q_ hB
 clear hB
 have H : ((spec_l12Draw.f k s0_0 s0_1 s0_2).bind fun bt729 => ((spec_l9Draw.f k s0_0 bt729.2.1 bt729.2.2).bind fun bt734 => (some (bt729.1, bt734.1, bt734.2.1, bt734.2.2)))) = some (r1, r2, r3, r4) := h
 clear h
 replace H := Option.bind_eq_some_iff.mp H
 obtain ⟨⟨t729, t732, t733⟩, A20, H⟩ := H
 (try dsimp only at H)
 have A2 := Q_ A20
 clear A20
 replace H := Option.bind_eq_some_iff.mp H
 obtain ⟨⟨t734, t737, t738⟩, A30, H⟩ := H
 replace H : (some (t729, t734, t737, t738)) = some (r1, r2, r3, r4) := H
 have A3 := Q_ A30
 clear A30
 simp only [Option.some.injEq, Prod.mk.injEq] at H
 obtain ⟨rfl, rfl, rfl, rfl⟩ := H
 go_enter Try.func40, Try.ntmps40
 go_wp2_with (first | ((with_reducible refine gate_dst (N := 2) rfl ?_); refine box_event ?hg (N := 2) ?hd (cs := #[.slice none 0 0, .slice none 0 0]) (t := 71) ?hr ?_; (case hd => rfl); (case hg => rfl); (case hr => first | (go_simp; done) | (go_simp; rfl)); intro gb728 hg w4 hbox hb; have _ := Q_ (IsS77.below (qs77_0_ HI0.out) hb); have _ := Q_ (KeepBut.trans (qk0_ HK.out) (KeepBut.of_below hb g none) (.inl rfl)); have _ := Q_ (below_step (qb1_ HB.out (IsS77.ge HI0.out)) hb); have BK728 := Q_ (hbox); have GW728 := Q_ ((by rw [hg]; exact (keep_size (w := w) (g := g) (row := none) (qk0_ HK.out)) : w.heap.size ≤ gb728)); have GE728 := Q_ (Nat.le_trans HW0.out GW728.out); have NB0_728 := Q_ ((by rw [hg]; exact Nat.ne_of_lt (IsS77.lt (show IsS77 w0 _ g s0_0 s0_1 s0_2 from qs77_0_ HI0.out)) : g ≠ gb728)); have NB728_0 := Q_ NB0_728.out.symm; clear HI0 HK HB; rename_i HI0 HK HB; clear hb hbox hg) | ((with_reducible refine gate_callee (f := 42) rfl ?_); refine gl_ (some 4) Try.func42 #[.pointer (some ⟨g, 0, none⟩)] ?_; (with_reducible refine (spec_l12Draw.calls k g s0_0 s0_1 s0_2 t729 t732 t733 w0 _ ?side1 ?side2 A2.out).mono ?_); (case side1 => exact qs77_1_ HI0.out NB0_728.out); (case side2 => exact qb2_ HB.out (IsS77.ge HI0.out) GE728.out); rintro e w5 ⟨v730, rfl, ho0, hi, hb, hk⟩; refine ⟨_, rfl, ?_⟩; have _ := Q_ (KeepBut.blk hk (g' := gb728) (o := .cells #[.slice none 0 0, .slice none 0 0] 71 (0, 0)) (pk_ BK728.out) NB728_0.out (by simp)); have _ := Q_ (Kd.R_lower ho0 (keep_size (w := w) (g := g) (row := none) (qk1_ HK.out GW728.out))); have _ := Q_ (KeepBut.trans (qk1_ HK.out GW728.out) hk (.inl rfl)); have _ := Q_ (hb); have _ := Q_ (hi); clear BK728 HK HB HI0; rename_i BK728 HO731 HK HB HI0; (try clear hb); (try clear hb2); (try clear hk); (try clear hi); (try clear ho0)) | ((with_reducible refine gate_callee (f := 53) rfl ?_); refine gl_ (some 6) Try.func53 #[.pointer (some ⟨g, 0, none⟩)] ?_; (with_reducible refine (spec_l9Draw.calls k g s0_0 t732 t733 t734 t737 t738 w0 _ ?side1 ?side2 A3.out).mono ?_); (case side1 => exact qs77_1_ HI0.out NB0_728.out); (case side2 => exact qb2_ HB.out (IsS77.ge HI0.out) GE728.out); rintro e w6 ⟨v735, rfl, ho0, hi, hb, hk⟩; refine ⟨_, rfl, ?_⟩; have _ := Q_ (KeepBut.blk hk (g' := gb728) (o := .cells #[.slice none 0 0, .slice none 0 0] 71 (0, 0)) (pk_ BK728.out) NB728_0.out (by simp)); have _ := Q_ (Kd.R_mono (Kd.R_keep (IsS77.apart (show IsS77 w0 _ g s0_0 t732 t733 from qs77_1_ HI0.out NB0_728.out) (pr_ HO731.out) (by decide)) hk (fun _ h => h.2)) (fun _ h => h.1)); have _ := Q_ (Kd.S_lower (Kd.S_new' ho0 (Kd.R_lt (pr_ HO731.out))) (keep_size (w := w) (g := g) (row := none) (qk1_ HK.out GW728.out))); have _ := Q_ (KeepBut.trans (qk1_ HK.out GW728.out) hk (.inl rfl)); have _ := Q_ (hb); have _ := Q_ (hi); clear BK728 HO731 HK HB HI0; rename_i BK728 HO731 HO736 HK HB HI0; (try clear hb); (try clear hb2); (try clear hk); (try clear hi); (try clear ho0); obtain ⟨Ao7, co7, eo7⟩ := Kd.S_slice HO736.out; subst eo7; obtain ⟨Ao8, co8, eo8⟩ := Kd.R_slice HO731.out; subst eo8; have hnb9 := NB728_0.out; have hnc9 := NB0_728.out; have hcz10 := bc2_ BK728.out))
 refine bodyPost_ret (results_cell_row rfl _ _ gb728 71 #[.slice Ao8 t729.length co8, .slice Ao7 t734.length co7] (0, 0) _ rfl (pp_ BK728.out) Try.underlying71 rfl (by kernel_rfl)) rfl ?_
 exact ⟨_, _, er_, pr_ (Kd.R_mono (rf2_ HO731.out BK728.out) (fun _ hk => trivial)), ps_ (Kd.S_mono (Kd.S_far (p := ⟨gb728, 1, none⟩) (Kd.S_far (p := ⟨gb728, 0, none⟩) (Kd.S_types HO736.out BK728.out (by decide)) (fun _ hk => hk.2) (.slice Ao8 t729.length co8)) (fun _ hk => hk.2) (.slice Ao7 t734.length co7)) (fun _ hk => hk.1.2)), qs77_1_ HI0.out NB0_728.out, qb2_ HB.out (IsS77.ge HI0.out) GE728.out, qk1_ HK.out GW728.out⟩

/-! ### spec_l17Tags: function 26 -/
def spec_l17Tags.l0 : Nat → List Int → Int → List Int → Int → Int → Option (List Int × Int × Int)
 | 0, _, _, _, _, _ => none
 | k + 1, x3, x4, x1000, x1001, x1002 => if x4 > 0 then ((spec_l1Int.f x1000 x1001 x1002 (([1, 2, 3, 10, 40, 200] : List Int))).bind fun bt748 => ((spec_l4Put.f k x3 bt748.1).bind fun t751 => (spec_l17Tags.l0 k t751 (wrap64 (x4 - 1)) x1000 bt748.2.1 bt748.2.2))) else (some (x3, x1001, x1002))
def spec_l17Tags.f (k : Nat) (s0_0 : List Int) (s0_1 : Int) (s0_2 : Int) : Option (List Int × Int × Int) := (spec_l1Below.f s0_0 s0_1 s0_2 5).bind fun bt742 => (spec_l17Tags.l0 k (([] : List Int)) bt742.1 s0_0 bt742.2.1 bt742.2.2)
theorem spec_l17Tags.mono_l : ∀ k, (∀ y0 y1 y2 y3 y4, LeO (spec_l17Tags.l0 k y0 y1 y2 y3 y4) (spec_l17Tags.l0 (k + 1) y0 y1 y2 y3 y4))
 | 0 => fun _ _ _ _ _ r h => by simp [spec_l17Tags.l0] at h
 | k + 1 => by
  have ih0 := spec_l17Tags.mono_l k
  ·intro y0 y1 y2 y3 y4
   unfold spec_l17Tags.l0
   exact mo2_ ih0 spec_l4Put.mono
theorem spec_l17Tags.mono : ∀ a0 a1 a2 k, LeO (spec_l17Tags.f k a0 a1 a2) (spec_l17Tags.f (k + 1) a0 a1 a2) := by
 intro a0 a1 a2 k
 have ih0 := spec_l17Tags.mono_l k
 unfold spec_l17Tags.f
 exact mo2_ ih0 spec_l4Put.mono
theorem spec_l17Tags.calls (k : Nat) (g : Nat) (s0_0 : List Int) (s0_1 : Int) (s0_2 : Int) (r1 : List Int) (r2 : Int) (r3 : Int) (w0 w : World) (hI : IsS77 w0 w g s0_0 s0_1 s0_2) (hB : Below w0.heap.size w0 w) (h : spec_l17Tags.f k s0_0 s0_1 s0_2 = some (r1, r2, r3)) :
  Calls Try.prog 26 #[.pointer (some ⟨g, 0, none⟩)] w fun e w' => ∃ v0_ : Value, e = .returned (v0_) ∧ Kd.R (Kd.int .i64) 3 w' w.heap.size (fun _ => True) v0_ r1 ∧ IsS77 w0 w' g s0_0 r2 r3 ∧ Below w0.heap.size w0 w' ∧ KeepBut w w' g none := by
 have HI0 := Q_ hI
 have HK := Q_ (KeepBut.refl w g none)
 have HL := Q_ hB.size
 clear hI
 have HW0 := Q_ hB.size
 have HB := Q_ hB
 clear hB
 have H : ((spec_l1Below.f s0_0 s0_1 s0_2 5).bind fun bt742 => (spec_l17Tags.l0 k (([] : List Int)) bt742.1 s0_0 bt742.2.1 bt742.2.2)) = some (r1, r2, r3) := h
 clear h
 obtain ⟨y739, hy739⟩ : ∃ y_ : List Int, y_ = (([] : List Int)) := ⟨_, rfl⟩
 replace H : ((spec_l1Below.f s0_0 s0_1 s0_2 5).bind fun bt742 => (spec_l17Tags.l0 k y739 bt742.1 s0_0 bt742.2.1 bt742.2.2)) = some (r1, r2, r3) := hb_ hy739 H
 have Ny739 := Q_ hy739
 clear hy739
 replace H := Option.bind_eq_some_iff.mp H
 obtain ⟨⟨t742, t743, t744⟩, A20, H⟩ := H
 replace H : (spec_l17Tags.l0 k y739 t742 s0_0 t743 t744) = some (r1, r2, r3) := H
 have A2 := Q_ A20
 clear A20
 have H' := Q_ H
 clear H
 go_enter Try.func26, Try.ntmps26
 go_wp2_with (first | ((with_reducible refine gate_dst (N := 5) rfl ?_); refine Kd.R_lit (Kd.int .i64) _ 3 ?hg (N := 5) ?hd (xs := ([] : List Int)) (inner := []) (ok := fun _ => True) (okp := fun _ => True) ?hr ?hp (fun _ hk => hk) trivial (Below.refl _ _) (Nat.le_refl _) (by simp) ?_; (case hd => rfl); (case hg => rfl); (case hr => first | (go_simp; done) | (go_simp; rfl)); (case hp => exact (Reps.none _ _)); intro v740 w3 ho4 hb hg_ hnew_; clear hg_ hnew_; (first | rw [← Ny739.out] at ho4 | (simp only [Int.reduceToNat] at ho4; rw [← Ny739.out] at ho4)); have _ := Q_ (Kd.R_lower ho4 (keep_size (w := w) (g := g) (row := none) (qk0_ HK.out))); have _ := Q_ (IsS77.below (qs77_0_ HI0.out) hb); have _ := Q_ (KeepBut.trans (qk0_ HK.out) (KeepBut.of_below hb g none) (.inl rfl)); have _ := Q_ (below_step (qb1_ HB.out (IsS77.ge HI0.out)) hb); clear HI0 HK HB; rename_i HO741 HI0 HK HB; clear hb ho4) | ((with_reducible refine gate_callee (f := 25) rfl ?_); refine gl_ (some 7) Try.func25 #[.pointer (some ⟨g, 0, none⟩), .int .i64 5] ?_; (with_reducible refine (spec_l1Below.calls g s0_0 s0_1 s0_2 5 t742 t743 t744 w0 _ ?side1 ?side2 A2.out).mono ?_); (case side1 => exact qs77_0_ HI0.out); (case side2 => exact qb1_ HB.out (IsS77.ge HI0.out)); rintro e w5 ⟨rfl, hi, hb, hk⟩; refine ⟨_, rfl, ?_⟩; have _ := Q_ (Kd.R_mono (Kd.R_keep (IsS77.apart (show IsS77 w0 _ g s0_0 s0_1 s0_2 from qs77_0_ HI0.out) (pr_ HO741.out) (by decide)) hk (fun _ h => h.2)) (fun _ h => h.1)); have _ := Q_ (KeepBut.trans (qk0_ HK.out) hk (.inl rfl)); have _ := Q_ (hb); have _ := Q_ (hi); clear HO741 HK HB HI0; rename_i HO741 HK HB HI0; (try clear hb); (try clear hb2); (try clear hk); (try clear hi)))
 (try simp only [Act.put, List.setIfInBounds_toArray, List.set_cons_zero, List.set_cons_succ])
 go_loopg [3, 4] k (fun kq v3 v4 w' => ∃ (x3_1 : List Int) (x4_1 : Int) (x1001_1 : Int) (x1002_1 : Int), v4 = .int .i64 x4_1 ∧ Aside0 (spec_l17Tags.l0 kq x3_1 x4_1 s0_0 x1001_1 x1002_1 = some (r1, r2, r3)) ∧ Aside0 (kq ≤ k) ∧ Aside0 (Kd.R (Kd.int .i64) 3 w' w.heap.size (fun _ => True) v3 x3_1) ∧ Aside0 (IsS77 w0 w' g s0_0 x1001_1 x1002_1) ∧ Aside0 (KeepBut w w' g none) ∧ Aside0 (Below w0.heap.size w0 w'))
 case atStart => exact ⟨(y739), (t742), (t743), (t744), el_, H', ⟨Nat.le_refl _⟩, ⟨pr_ HO741.out⟩, ⟨qs77_0_ HI0.out⟩, ⟨qk0_ HK.out⟩, ⟨qb1_ HB.out (IsS77.ge HI0.out)⟩⟩
 clear H'
 try clear c2
 try clear p2
 obtain ⟨x3_1, x4_1, x1001_1, x1002_1, rfl, HA, HK1, HO_3, HI0, HK, HB⟩ := hrel
 rcases gk with _ | k1
 ·exact absurd HA.out (by simp [spec_l17Tags.l0])
 have H := HA.out
 clear HA
 simp only [spec_l17Tags.l0] at H
 by_cases c6 : x4_1 > 0
 rotate_left
 ·rw [if_neg c6] at H
  have c6b0 : decide (0 < x4_1) = false := decide_eq_false c6
  clear c6
  simp only [Option.some.injEq, Prod.mk.injEq] at H
  obtain ⟨rfl, rfl, rfl⟩ := H
  go_wp2
  go_ret
  exact ⟨_, er_, pr_ HO_3.out, qs77_0_ HI0.out, qb1_ HB.out (IsS77.ge HI0.out), qk0_ HK.out⟩
 rw [if_pos c6] at H
 have c6b0 : decide (0 < x4_1) = true := decide_eq_true c6
 clear c6
 obtain ⟨y745, hy745⟩ : ∃ y_ : List Int, y_ = (([1, 2, 3, 10, 40, 200] : List Int)) := ⟨_, rfl⟩
 replace H : ((spec_l1Int.f s0_0 x1001_1 x1002_1 y745).bind fun bt748 => ((spec_l4Put.f k1 x3_1 bt748.1).bind fun t751 => (spec_l17Tags.l0 k1 t751 (wrap64 (x4_1 - 1)) s0_0 bt748.2.1 bt748.2.2))) = some (r1, r2, r3) := hb_ hy745 H
 have Ny745 := Q_ hy745
 clear hy745
 replace H := Option.bind_eq_some_iff.mp H
 obtain ⟨⟨t748, t749, t750⟩, A70, H⟩ := H
 (try dsimp only at H)
 have A7 := Q_ A70
 clear A70
 replace H := Option.bind_eq_some_iff.mp H
 obtain ⟨t751, A80, H⟩ := H
 (try dsimp only at H)
 have A8 := Q_ A80
 clear A80
 have H' := Q_ H
 clear H
 go_wp2_with (first | ((with_reducible refine gate_dst (N := 14) rfl ?_); refine Kd.R_lit (Kd.int .i64) _ 3 ?hg (N := 14) ?hd (xs := ([1, 2, 3, 10, 40, 200] : List Int)) (inner := [.int .i64 1, .int .i64 2, .int .i64 3, .int .i64 10, .int .i64 40, .int .i64 200]) (ok := fun _ => True) (okp := fun _ => True) ?hr ?hp (fun _ hk => hk) trivial (Below.refl _ _) (Nat.le_refl _) (by simp) ?_; (case hd => rfl); (case hg => rfl); (case hr => first | (go_simp; done) | (go_simp; rfl)); (case hp => exact (Reps.one (show Kd.M (Kd.int .i64) _ _ _ 1 [.int .i64 1] from rfl) (Reps.one (show Kd.M (Kd.int .i64) _ _ _ 2 [.int .i64 2] from rfl) (Reps.one (show Kd.M (Kd.int .i64) _ _ _ 3 [.int .i64 3] from rfl) (Reps.one (show Kd.M (Kd.int .i64) _ _ _ 10 [.int .i64 10] from rfl) (Reps.one (show Kd.M (Kd.int .i64) _ _ _ 40 [.int .i64 40] from rfl) (Reps.one (show Kd.M (Kd.int .i64) _ _ _ 200 [.int .i64 200] from rfl) (Reps.none _ _)))))))); intro v746 w9 ho10 hb hg_ hnew_; clear hg_ hnew_; (first | rw [← Ny745.out] at ho10 | (simp only [Int.reduceToNat] at ho10; rw [← Ny745.out] at ho10)); have _ := Q_ (Kd.R_elder' (pr_ HO_3.out) (Kd.R_base ho10) hb); have _ := Q_ (Kd.R_lower (Kd.R_new' ho10 (Kd.R_lt (pr_ HO_3.out))) (keep_size (w := w) (g := g) (row := none) (qk0_ HK.out))); have _ := Q_ (IsS77.below (qs77_0_ HI0.out) hb); have _ := Q_ (KeepBut.trans (qk0_ HK.out) (KeepBut.of_below hb g none) (.inl rfl)); have _ := Q_ (below_step (qb1_ HB.out (IsS77.ge HI0.out)) hb); clear HO_3 HI0 HK HB; rename_i HO_3 HO747 HI0 HK HB; clear hb ho10; obtain ⟨Ao11, co11, eo11⟩ := Kd.R_slice HO747.out; subst eo11) | ((with_reducible refine gate_callee (f := 27) rfl ?_); refine gl_ (some 15) Try.func27 #[.pointer (some ⟨g, 0, none⟩), .slice Ao11 y745.length co11] ?_; (with_reducible refine (spec_l1Int.calls g s0_0 x1001_1 x1002_1 _ _ y745 t748 t749 t750 w0 _ ?side1 ?side2 ?side3 ?side4 ?side5 A7.out).mono ?_); (case side1 => exact qs77_0_ HI0.out); (case side2 => exact qb1_ HB.out (IsS77.ge HI0.out)); (case side3 => exact pc_ ((Kd.R_reads' HO747.out).2.2)); (case side4 => exact (Kd.R_reads' HO747.out).2.1); (case side5 => exact far_slice (IsS77.own_ne HI0.out HO747.out (by decide))); rintro e w12 ⟨rfl, hi, hb, hk⟩; refine ⟨_, rfl, ?_⟩; have _ := Q_ (Kd.R_mono (Kd.R_keep (IsS77.apart (show IsS77 w0 _ g s0_0 x1001_1 x1002_1 from qs77_0_ HI0.out) (pr_ HO_3.out) (by decide)) hk (fun _ h => h.2)) (fun _ h => h.1)); have _ := Q_ (Kd.R_mono (Kd.R_keep (IsS77.apart (show IsS77 w0 _ g s0_0 x1001_1 x1002_1 from qs77_0_ HI0.out) (pr_ HO747.out) (by decide)) hk (fun _ h => h.2)) (fun _ h => h.1)); have _ := Q_ (KeepBut.trans (qk0_ HK.out) hk (.inl rfl)); have _ := Q_ (hb); have _ := Q_ (hi); clear HO_3 HO747 HK HB HI0; rename_i HO_3 HO747 HK HB HI0; (try clear hb); (try clear hb2); (try clear hk); (try clear hi); obtain ⟨Ao13, co13, eo13⟩ := Kd.R_slice HO_3.out; subst eo13) | ((with_reducible refine gate_callee (f := 46) rfl ?_); refine gl_ (some 16) Try.func46 #[.slice Ao13 x3_1.length co13, .int .i64 t748] ?_; (with_reducible refine (spec_l4Put.calls k1 _ _ x3_1 t748 t751 _ ?side1 ?side2 A8.out).mono ?_); (case side1 => exact pc_ ((Kd.R_reads' HO_3.out).2.2)); (case side2 => exact (Kd.R_reads' HO_3.out).2.1); rintro e w14 ⟨v752, rfl, ho0, hb⟩; refine ⟨_, rfl, ?_⟩; have _ := Q_ (Kd.R_elder' (pr_ HO_3.out) (Kd.R_base ho0) hb); have _ := Q_ (Kd.R_elder' (pr_ HO747.out) (Kd.R_base ho0) hb); have _ := Q_ (Kd.R_lower (Kd.R_new' (Kd.R_new' ho0 (Kd.R_lt (pr_ HO_3.out))) (Kd.R_lt (pr_ HO747.out))) (keep_size (w := w) (g := g) (row := none) (qk0_ HK.out))); have _ := Q_ (IsS77.below (qs77_0_ HI0.out) hb); have _ := Q_ (KeepBut.trans (qk0_ HK.out) (KeepBut.of_below hb g none) (.inl rfl)); have _ := Q_ (below_step (qb1_ HB.out (IsS77.ge HI0.out)) hb); clear HO_3 HO747 HI0 HK HB; rename_i HO_3 HO747 HO753 HI0 HK HB; (try clear hb); (try clear hb2); (try clear hk); (try clear hi); (try clear ho0)))
 go_roundg k1
 case measure => have := HK1.out; omega
 case rel => exact ⟨(t751), (wrap64 (x4_1 - 1)), (t749), (t750), el_, H', ⟨by have := HK1.out; omega⟩, ⟨pr_ (Kd.R_mono HO753.out (fun _ hk => trivial))⟩, ⟨qs77_0_ HI0.out⟩, ⟨qk0_ HK.out⟩, ⟨qb1_ HB.out (IsS77.ge HI0.out)⟩⟩

/-! ### spec_l19Draw: function 54 -/
def spec_l19Draw.f (k : Nat) (s0_0 : List Int) (s0_1 : Int) (s0_2 : Int) : Option (Int × List Int × List Int × Bool × Int × Int) := (spec_l1Below.f s0_0 s0_1 s0_2 7).bind fun bt756 => (if bt756.1 = 0 then ((spec_l1Below.f s0_0 bt756.2.1 bt756.2.2 6).bind fun bt759 => (some (wrap64 (1 + bt759.1), ([] : List Int), ([] : List Int), false, bt759.2.1, bt759.2.2))) else (if bt756.1 = 1 then ((spec_l17Tags.f k s0_0 bt756.2.1 bt756.2.2).bind fun bt762 => (some (0, bt762.1, ([] : List Int), false, bt762.2.1, bt762.2.2))) else (if bt756.1 = 2 then ((spec_l17Tags.f k s0_0 bt756.2.1 bt756.2.2).bind fun bt767 => (some (0, ([] : List Int), bt767.1, false, bt767.2.1, bt767.2.2))) else (if bt756.1 = 3 then (some (0, ([] : List Int), ([] : List Int), true, bt756.2.1, bt756.2.2)) else (some (0, ([] : List Int), ([] : List Int), false, bt756.2.1, bt756.2.2))))))
theorem spec_l19Draw.mono : ∀ a0 a1 a2 k, LeO (spec_l19Draw.f k a0 a1 a2) (spec_l19Draw.f (k + 1) a0 a1 a2) := by
 intro a0 a1 a2 k
 unfold spec_l19Draw.f
 exact mo1_ spec_l17Tags.mono
theorem spec_l19Draw.calls (k : Nat) (g : Nat) (s0_0 : List Int) (s0_1 : Int) (s0_2 : Int) (r1 : Int) (r2 : List Int) (r3 : List Int) (r4 : Bool) (r5 : Int) (r6 : Int) (w0 w : World) (hI : IsS77 w0 w g s0_0 s0_1 s0_2) (hB : Below w0.heap.size w0 w) (h : spec_l19Draw.f k s0_0 s0_1 s0_2 = some (r1, r2, r3, r4, r5, r6)) :
  Calls Try.prog 54 #[.pointer (some ⟨g, 0, none⟩)] w fun e w' => ∃ v1_ v2_ : Value, e = .returned (.agg #[.int .i64 r1, v1_, v2_, .bool r4]) ∧ Kd.R (Kd.int .i64) 3 w' w.heap.size (fun k_ => some k_ ≠ (v2_ : Value).ownBlock) v1_ r2 ∧ Kd.R (Kd.int .i64) 3 w' w.heap.size (fun k_ => some k_ ≠ (v1_ : Value).ownBlock) v2_ r3 ∧ IsS77 w0 w' g s0_0 r5 r6 ∧ Below w0.heap.size w0 w' ∧ KeepBut w w' g none := by
 have hu89 := Try.underlying89
 have HI0 := Q_ hI
 have HK := Q_ (KeepBut.refl w g none)
 have HL := Q_ hB.size
 clear hI
 have HW0 := Q_ hB.size
 have HB := Q_ hB
 clear hB
 have H : ((spec_l1Below.f s0_0 s0_1 s0_2 7).bind fun bt756 => (if bt756.1 = 0 then ((spec_l1Below.f s0_0 bt756.2.1 bt756.2.2 6).bind fun bt759 => (some (wrap64 (1 + bt759.1), ([] : List Int), ([] : List Int), false, bt759.2.1, bt759.2.2))) else (if bt756.1 = 1 then ((spec_l17Tags.f k s0_0 bt756.2.1 bt756.2.2).bind fun bt762 => (some (0, bt762.1, ([] : List Int), false, bt762.2.1, bt762.2.2))) else (if bt756.1 = 2 then ((spec_l17Tags.f k s0_0 bt756.2.1 bt756.2.2).bind fun bt767 => (some (0, ([] : List Int), bt767.1, false, bt767.2.1, bt767.2.2))) else (if bt756.1 = 3 then (some (0, ([] : List Int), ([] : List Int), true, bt756.2.1, bt756.2.2)) else (some (0, ([] : List Int), ([] : List Int), false, bt756.2.1, bt756.2.2))))))) = some (r1, r2, r3, r4, r5, r6) := h
 clear h
 have HS_ := Q_ H
 clear H
 go_enter Try.func54, Try.ntmps54
 go_upto_region 1 with (first | ((with_reducible refine gate_dst (N := 2) rfl ?_); refine box_event ?hg (N := 2) ?hd (cs := #[.int .i64 0, .slice none 0 0, .slice none 0 0, .bool false]) (t := 89) ?hr ?_; (case hd => rfl); (case hg => rfl); (case hr => first | (go_simp; done) | (go_simp; rfl)); intro gb754 hg w2 hbox hb; have _ := Q_ (IsS77.below (qs77_0_ HI0.out) hb); have _ := Q_ (KeepBut.trans (qk0_ HK.out) (KeepBut.of_below hb g none) (.inl rfl)); have _ := Q_ (below_step (qb1_ HB.out (IsS77.ge HI0.out)) hb); have BK754 := Q_ (hbox); have GW754 := Q_ ((by rw [hg]; exact (keep_size (w := w) (g := g) (row := none) (qk0_ HK.out)) : w.heap.size ≤ gb754)); have GE754 := Q_ (Nat.le_trans HW0.out GW754.out); have NB0_754 := Q_ ((by rw [hg]; exact Nat.ne_of_lt (IsS77.lt (show IsS77 w0 _ g s0_0 s0_1 s0_2 from qs77_0_ HI0.out)) : g ≠ gb754)); have NB754_0 := Q_ NB0_754.out.symm; clear HI0 HK HB; rename_i HI0 HK HB; clear hb hbox hg))
 (try simp only [Act.put, List.setIfInBounds_toArray, List.set_cons_zero, List.set_cons_succ])
 have H := HS_.out
 clear HS_
 have HS_ := Q_ H
 clear H
 go_upto_region 2 with (first | ((with_reducible refine gate_dst (N := 3) rfl ?_); refine box_event ?hg (N := 3) ?hd (cs := #[.int .i64 0, .slice none 0 0, .slice none 0 0, .bool false]) (t := 89) ?hr ?_; (case hd => rfl); (case hg => rfl); (case hr => first | (go_simp; done) | (go_simp; rfl)); intro gb755 hg w3 hbox hb; have _ := Q_ (IsS77.below (qs77_1_ HI0.out NB0_754.out) hb); have _ := Q_ (bb_ BK754.out hb); have _ := Q_ (KeepBut.trans (qk1_ HK.out GW754.out) (KeepBut.of_below hb g none) (.inl rfl)); have _ := Q_ (below_step (qb2_ HB.out (IsS77.ge HI0.out) GE754.out) hb); have BK755 := Q_ (hbox); have GW755 := Q_ ((by rw [hg]; exact (keep_size (w := w) (g := g) (row := none) (qk1_ HK.out GW754.out)) : w.heap.size ≤ gb755)); have GE755 := Q_ (Nat.le_trans HW0.out GW755.out); have NB754_755 := Q_ ((by rw [hg]; exact Nat.ne_of_lt (blk_lt (pk_ BK754.out)) : gb754 ≠ gb755)); have NB755_754 := Q_ NB754_755.out.symm; have NB0_755 := Q_ ((by rw [hg]; exact Nat.ne_of_lt (IsS77.lt (show IsS77 w0 _ g s0_0 s0_1 s0_2 from qs77_1_ HI0.out NB0_754.out)) : g ≠ gb755)); have NB755_0 := Q_ NB0_755.out.symm; clear HI0 BK754 HK HB; rename_i HI0 BK754 HK HB; clear hb hbox hg; have hnb4 := NB755_754.out; have hnc4 := NB754_755.out; have hnb5 := NB755_0.out; have hnc5 := NB0_755.out; have hcz6 := bc4_ BK755.out))
 (try simp only [Act.put, List.setIfInBounds_toArray, List.set_cons_zero, List.set_cons_succ])
 have H := HS_.out
 clear HS_
 replace H := Option.bind_eq_some_iff.mp H
 obtain ⟨⟨t756, t757, t758⟩, A70, H⟩ := H
 (try dsimp only at H)
 have A7 := Q_ A70
 clear A70
 have HS_ := Q_ H
 clear H
 go_upto_if 7 with (first | ((with_reducible refine gate_callee (f := 25) rfl ?_); refine gl_ (some 6) Try.func25 #[.pointer (some ⟨g, 0, none⟩), .int .i64 7] ?_; (with_reducible refine (spec_l1Below.calls g s0_0 s0_1 s0_2 7 t756 t757 t758 w0 _ ?side1 ?side2 A7.out).mono ?_); (case side1 => exact qs77_2_ HI0.out NB0_754.out NB0_755.out); (case side2 => exact qb3_ HB.out (IsS77.ge HI0.out) GE754.out GE755.out); rintro e w8 ⟨rfl, hi, hb, hk⟩; refine ⟨_, rfl, ?_⟩; have _ := Q_ (KeepBut.blk hk (g' := gb754) (o := .cells #[.int .i64 0, .slice none 0 0, .slice none 0 0, .bool false] 89 (0, 0)) (pp_ BK754.out) NB754_0.out (by simp)); have _ := Q_ (KeepBut.blk hk (g' := gb755) (o := .cells #[.int .i64 0, .slice none 0 0, .slice none 0 0, .bool false] 89 (0, 0)) (pp_ BK755.out) NB755_0.out (by simp)); have _ := Q_ (KeepBut.trans (qk2_ HK.out GW754.out GW755.out) hk (.inl rfl)); have _ := Q_ (hb); have _ := Q_ (hi); clear BK754 BK755 HK HB HI0; rename_i BK754 BK755 HK HB HI0; (try clear hb); (try clear hb2); (try clear hk); (try clear hi)))
 (try simp only [Act.put, List.setIfInBounds_toArray, List.set_cons_zero, List.set_cons_succ])
 have H := HS_.out
 clear HS_
 by_cases c9 : t756 = 0
 ·rw [if_pos c9] at H
  have c9b0 : (t756 == 0) = true := beq_iff_eq.mpr c9
  have c9b1 : (t756 != 0) = false := bne_eq_false_iff_eq.mpr c9
  clear c9
  (first | rw [c9b0] | (simp only [i64_w, i32_w]; rw [c9b0]) | rw [c9b1] | (have c_ := c9b1; rw [bne] at c_; rw [c_]; clear c_) | skip)
  replace H := Option.bind_eq_some_iff.mp H
  obtain ⟨⟨t759, t760, t761⟩, A100, H⟩ := H
  (try dsimp only at H)
  have A10 := Q_ A100
  clear A100
  simp only [Option.some.injEq, Prod.mk.injEq] at H
  obtain ⟨rfl, rfl, rfl, rfl, rfl, rfl⟩ := H
  go_wp2_with (first | ((with_reducible refine gate_callee (f := 25) rfl ?_); refine gl_ (some 10) Try.func25 #[.pointer (some ⟨g, 0, none⟩), .int .i64 6] ?_; (with_reducible refine (spec_l1Below.calls g s0_0 t757 t758 6 t759 t760 t761 w0 _ ?side1 ?side2 A10.out).mono ?_); (case side1 => exact qs77_2_ HI0.out NB0_754.out NB0_755.out); (case side2 => exact qb3_ HB.out (IsS77.ge HI0.out) GE754.out GE755.out); rintro e w11 ⟨rfl, hi, hb, hk⟩; refine ⟨_, rfl, ?_⟩; have _ := Q_ (KeepBut.blk hk (g' := gb754) (o := .cells #[.int .i64 0, .slice none 0 0, .slice none 0 0, .bool false] 89 (0, 0)) (pk_ BK754.out) NB754_0.out (by simp)); have _ := Q_ (KeepBut.blk hk (g' := gb755) (o := .cells #[.int .i64 0, .slice none 0 0, .slice none 0 0, .bool false] 89 (0, 0)) (pk_ BK755.out) NB755_0.out (by simp)); have _ := Q_ (KeepBut.trans (qk2_ HK.out GW754.out GW755.out) hk (.inl rfl)); have _ := Q_ (hb); have _ := Q_ (hi); clear BK754 BK755 HK HB HI0; rename_i BK754 BK755 HK HB HI0; (try clear hb); (try clear hb2); (try clear hk); (try clear hi); have hnb12 := NB755_754.out; have hnc12 := NB754_755.out; have hnb13 := NB755_0.out; have hnc13 := NB0_755.out; have hcz14 := bc4_ BK755.out; have hnb15 := NB754_0.out; have hnc15 := NB0_754.out; have hcz16 := bc4_ BK754.out))
  refine bodyPost_ret (results_cell_row rfl _ _ gb754 89 #[.int .i64 (wrap64 (1 + t759)), .slice none 0 0, .slice none 0 0, .bool false] (0, 0) _ rfl (pp_ BK754.out) Try.underlying89 rfl (by kernel_rfl)) rfl ?_
  exact ⟨_, _, er_, by first | exact Kd.R_nil _ _ _ _ _ | exact Kd.N_nil _ _ _ _ _ | exact Kd.V_nil _ _ _ _ _ | exact Kd.Q_nil _ _ _ _ _ | exact Kd.S_nil _ _ _ _ _, by first | exact Kd.R_nil _ _ _ _ _ | exact Kd.N_nil _ _ _ _ _ | exact Kd.V_nil _ _ _ _ _ | exact Kd.Q_nil _ _ _ _ _ | exact Kd.S_nil _ _ _ _ _, qs77_2_ HI0.out NB0_754.out NB0_755.out, qb3_ HB.out (IsS77.ge HI0.out) GE754.out GE755.out, qk2_ HK.out GW754.out GW755.out⟩
 rw [if_neg c9] at H
 have c9b0 : (t756 == 0) = false := beq_eq_false_iff_ne.mpr c9
 have c9b1 : (t756 != 0) = true := bne_iff_ne.mpr c9
 (first | rw [c9b0] | (simp only [i64_w, i32_w]; rw [c9b0]) | rw [c9b1] | (have c_ := c9b1; rw [bne] at c_; rw [c_]; clear c_) | skip)
 by_cases c17 : t756 = 1
 ·rw [if_pos c17] at H
  have c17b0 : (t756 == 1) = true := beq_iff_eq.mpr c17
  have c17b1 : (t756 != 1) = false := bne_eq_false_iff_eq.mpr c17
  clear c17
  replace H := Option.bind_eq_some_iff.mp H
  obtain ⟨⟨t762, t765, t766⟩, A180, H⟩ := H
  (try dsimp only at H)
  have A18 := Q_ A180
  clear A180
  simp only [Option.some.injEq, Prod.mk.injEq] at H
  obtain ⟨rfl, rfl, rfl, rfl, rfl, rfl⟩ := H
  go_wp2_with (first | ((with_reducible refine gate_callee (f := 26) rfl ?_); refine gl_ (some 16) Try.func26 #[.pointer (some ⟨g, 0, none⟩)] ?_; (with_reducible refine (spec_l17Tags.calls k g s0_0 t757 t758 t762 t765 t766 w0 _ ?side1 ?side2 A18.out).mono ?_); (case side1 => exact qs77_2_ HI0.out NB0_754.out NB0_755.out); (case side2 => exact qb3_ HB.out (IsS77.ge HI0.out) GE754.out GE755.out); rintro e w19 ⟨v763, rfl, ho0, hi, hb, hk⟩; refine ⟨_, rfl, ?_⟩; have _ := Q_ (KeepBut.blk hk (g' := gb754) (o := .cells #[.int .i64 0, .slice none 0 0, .slice none 0 0, .bool false] 89 (0, 0)) (pk_ BK754.out) NB754_0.out (by simp)); have _ := Q_ (KeepBut.blk hk (g' := gb755) (o := .cells #[.int .i64 0, .slice none 0 0, .slice none 0 0, .bool false] 89 (0, 0)) (pk_ BK755.out) NB755_0.out (by simp)); have _ := Q_ (Kd.R_lower ho0 (keep_size (w := w) (g := g) (row := none) (qk2_ HK.out GW754.out GW755.out))); have _ := Q_ (KeepBut.trans (qk2_ HK.out GW754.out GW755.out) hk (.inl rfl)); have _ := Q_ (hb); have _ := Q_ (hi); clear BK754 BK755 HK HB HI0; rename_i BK754 BK755 HO764 HK HB HI0; (try clear hb); (try clear hb2); (try clear hk); (try clear hi); (try clear ho0); obtain ⟨Ao20, co20, eo20⟩ := Kd.R_slice HO764.out; subst eo20; have hnb21 := NB755_754.out; have hnc21 := NB754_755.out; have hnb22 := NB755_0.out; have hnc22 := NB0_755.out; have hcz23 := bc4_ BK755.out; have hnb24 := NB754_0.out; have hnc24 := NB0_754.out; have hcz25 := bc4_ BK754.out))
  refine bodyPost_ret (results_cell_row rfl _ _ gb754 89 #[.int .i64 0, .slice Ao20 t762.length co20, .slice none 0 0, .bool false] (0, 0) _ rfl (pp_ BK754.out) Try.underlying89 rfl (by kernel_rfl)) rfl ?_
  exact ⟨_, _, er_, by (with_reducible repeat (first | apply Kd.R_alloc | apply Kd.R_drewN | apply Kd.R_drew)); exact Kd.R_mono (Kd.R_far (p := ⟨gb754, 3, none⟩) (Kd.R_far (p := ⟨gb754, 2, none⟩) (Kd.R_far (p := ⟨gb754, 1, none⟩) (Kd.R_far (p := ⟨gb754, 0, none⟩) (Kd.R_far (p := ⟨gb755, 1, none⟩) (Kd.R_types (Kd.R_types HO764.out BK755.out (by decide)) BK754.out (by decide)) (fun _ hk => hk.1.2) (.slice Ao20 t762.length co20)) (fun _ hk => hk.2) (.int .i64 0)) (fun _ hk => hk.2) (.slice Ao20 t762.length co20)) (fun _ hk => hk.2) (.slice none 0 0)) (fun _ hk => hk.2) (.bool false)) (fun _ hk => (by simp [Value.ownBlock])), by first | exact Kd.R_nil _ _ _ _ _ | exact Kd.N_nil _ _ _ _ _ | exact Kd.V_nil _ _ _ _ _ | exact Kd.Q_nil _ _ _ _ _ | exact Kd.S_nil _ _ _ _ _, qs77_2_ HI0.out NB0_754.out NB0_755.out, qb3_ HB.out (IsS77.ge HI0.out) GE754.out GE755.out, qk2_ HK.out GW754.out GW755.out⟩
 rw [if_neg c17] at H
 have c17b0 : (t756 == 1) = false := beq_eq_false_iff_ne.mpr c17
 have c17b1 : (t756 != 1) = true := bne_iff_ne.mpr c17
 by_cases c26 : t756 = 2
 ·rw [if_pos c26] at H
  have c26b0 : (t756 == 2) = true := beq_iff_eq.mpr c26
  have c26b1 : (t756 != 2) = false := bne_eq_false_iff_eq.mpr c26
  clear c26
  replace H := Option.bind_eq_some_iff.mp H
  obtain ⟨⟨t767, t770, t771⟩, A270, H⟩ := H
  (try dsimp only at H)
  have A27 := Q_ A270
  clear A270
  simp only [Option.some.injEq, Prod.mk.injEq] at H
  obtain ⟨rfl, rfl, rfl, rfl, rfl, rfl⟩ := H
  go_wp2_with (first | ((with_reducible refine gate_callee (f := 26) rfl ?_); refine gl_ (some 21) Try.func26 #[.pointer (some ⟨g, 0, none⟩)] ?_; (with_reducible refine (spec_l17Tags.calls k g s0_0 t757 t758 t767 t770 t771 w0 _ ?side1 ?side2 A27.out).mono ?_); (case side1 => exact qs77_2_ HI0.out NB0_754.out NB0_755.out); (case side2 => exact qb3_ HB.out (IsS77.ge HI0.out) GE754.out GE755.out); rintro e w28 ⟨v768, rfl, ho0, hi, hb, hk⟩; refine ⟨_, rfl, ?_⟩; have _ := Q_ (KeepBut.blk hk (g' := gb754) (o := .cells #[.int .i64 0, .slice none 0 0, .slice none 0 0, .bool false] 89 (0, 0)) (pk_ BK754.out) NB754_0.out (by simp)); have _ := Q_ (KeepBut.blk hk (g' := gb755) (o := .cells #[.int .i64 0, .slice none 0 0, .slice none 0 0, .bool false] 89 (0, 0)) (pk_ BK755.out) NB755_0.out (by simp)); have _ := Q_ (Kd.R_lower ho0 (keep_size (w := w) (g := g) (row := none) (qk2_ HK.out GW754.out GW755.out))); have _ := Q_ (KeepBut.trans (qk2_ HK.out GW754.out GW755.out) hk (.inl rfl)); have _ := Q_ (hb); have _ := Q_ (hi); clear BK754 BK755 HK HB HI0; rename_i BK754 BK755 HO769 HK HB HI0; (try clear hb); (try clear hb2); (try clear hk); (try clear hi); (try clear ho0); obtain ⟨Ao29, co29, eo29⟩ := Kd.R_slice HO769.out; subst eo29; have hnb30 := NB755_754.out; have hnc30 := NB754_755.out; have hnb31 := NB755_0.out; have hnc31 := NB0_755.out; have hcz32 := bc4_ BK755.out; have hnb33 := NB754_0.out; have hnc33 := NB0_754.out; have hcz34 := bc4_ BK754.out))
  refine bodyPost_ret (results_cell_row rfl _ _ gb754 89 #[.int .i64 0, .slice none 0 0, .slice Ao29 t767.length co29, .bool false] (0, 0) _ rfl (pp_ BK754.out) Try.underlying89 rfl (by kernel_rfl)) rfl ?_
  exact ⟨_, _, er_, by first | exact Kd.R_nil _ _ _ _ _ | exact Kd.N_nil _ _ _ _ _ | exact Kd.V_nil _ _ _ _ _ | exact Kd.Q_nil _ _ _ _ _ | exact Kd.S_nil _ _ _ _ _, by (with_reducible repeat (first | apply Kd.R_alloc | apply Kd.R_drewN | apply Kd.R_drew)); exact Kd.R_mono (Kd.R_far (p := ⟨gb754, 3, none⟩) (Kd.R_far (p := ⟨gb754, 2, none⟩) (Kd.R_far (p := ⟨gb754, 1, none⟩) (Kd.R_far (p := ⟨gb754, 0, none⟩) (Kd.R_far (p := ⟨gb755, 2, none⟩) (Kd.R_types (Kd.R_types HO769.out BK755.out (by decide)) BK754.out (by decide)) (fun _ hk => hk.1.2) (.slice Ao29 t767.length co29)) (fun _ hk => hk.2) (.int .i64 0)) (fun _ hk => hk.2) (.slice none 0 0)) (fun _ hk => hk.2) (.slice Ao29 t767.length co29)) (fun _ hk => hk.2) (.bool false)) (fun _ hk => (by simp [Value.ownBlock])), qs77_2_ HI0.out NB0_754.out NB0_755.out, qb3_ HB.out (IsS77.ge HI0.out) GE754.out GE755.out, qk2_ HK.out GW754.out GW755.out⟩
 rw [if_neg c26] at H
 have c26b0 : (t756 == 2) = false := beq_eq_false_iff_ne.mpr c26
 have c26b1 : (t756 != 2) = true := bne_iff_ne.mpr c26
 by_cases c35 : t756 = 3
 rotate_left
 ·rw [if_neg c35] at H
  have c35b0 : (t756 == 3) = false := beq_eq_false_iff_ne.mpr c35
  have c35b1 : (t756 != 3) = true := bne_iff_ne.mpr c35
  simp only [Option.some.injEq, Prod.mk.injEq] at H
  obtain ⟨rfl, rfl, rfl, rfl, rfl, rfl⟩ := H
  have hnb36 := NB755_754.out
  have hnc36 := NB754_755.out
  have hnb37 := NB755_0.out
  have hnc37 := NB0_755.out
  have hcz38 := bc4_ BK755.out
  have hnb39 := NB754_0.out
  have hnc39 := NB0_754.out
  have hcz40 := bc4_ BK754.out
  go_wp2
  refine bodyPost_ret (results_cell_row rfl _ _ gb754 89 #[.int .i64 0, .slice none 0 0, .slice none 0 0, .bool false] (0, 0) _ rfl (pp_ BK754.out) Try.underlying89 rfl (by kernel_rfl)) rfl ?_
  exact ⟨_, _, er_, by first | exact Kd.R_nil _ _ _ _ _ | exact Kd.N_nil _ _ _ _ _ | exact Kd.V_nil _ _ _ _ _ | exact Kd.Q_nil _ _ _ _ _ | exact Kd.S_nil _ _ _ _ _, by first | exact Kd.R_nil _ _ _ _ _ | exact Kd.N_nil _ _ _ _ _ | exact Kd.V_nil _ _ _ _ _ | exact Kd.Q_nil _ _ _ _ _ | exact Kd.S_nil _ _ _ _ _, qs77_2_ HI0.out NB0_754.out NB0_755.out, qb3_ HB.out (IsS77.ge HI0.out) GE754.out GE755.out, qk2_ HK.out GW754.out GW755.out⟩
 rw [if_pos c35] at H
 have c35b0 : (t756 == 3) = true := beq_iff_eq.mpr c35
 have c35b1 : (t756 != 3) = false := bne_eq_false_iff_eq.mpr c35
 clear c35
 simp only [Option.some.injEq, Prod.mk.injEq] at H
 obtain ⟨rfl, rfl, rfl, rfl, rfl, rfl⟩ := H
 have hnb41 := NB755_754.out
 have hnc41 := NB754_755.out
 have hnb42 := NB755_0.out
 have hnc42 := NB0_755.out
 have hcz43 := bc4_ BK755.out
 have hnb44 := NB754_0.out
 have hnc44 := NB0_754.out
 have hcz45 := bc4_ BK754.out
 go_wp2
 refine bodyPost_ret (results_cell_row rfl _ _ gb754 89 #[.int .i64 0, .slice none 0 0, .slice none 0 0, .bool true] (0, 0) _ rfl (pp_ BK754.out) Try.underlying89 rfl (by kernel_rfl)) rfl ?_
 exact ⟨_, _, er_, by first | exact Kd.R_nil _ _ _ _ _ | exact Kd.N_nil _ _ _ _ _ | exact Kd.V_nil _ _ _ _ _ | exact Kd.Q_nil _ _ _ _ _ | exact Kd.S_nil _ _ _ _ _, by first | exact Kd.R_nil _ _ _ _ _ | exact Kd.N_nil _ _ _ _ _ | exact Kd.V_nil _ _ _ _ _ | exact Kd.Q_nil _ _ _ _ _ | exact Kd.S_nil _ _ _ _ _, qs77_2_ HI0.out NB0_754.out NB0_755.out, qb3_ HB.out (IsS77.ge HI0.out) GE754.out GE755.out, qk2_ HK.out GW754.out GW755.out⟩

/-! ### spec_l19Path: function 41 -/
def spec_l19Path.l0 : Nat → List (S89) → Int → List Int → Int → Int → Option ((List (S89)) × Int × Int)
 | 0, _, _, _, _, _ => none
 | k + 1, x3, x4, x1000, x1001, x1002 => if x4 > 0 then ((spec_l19Draw.f k x1000 x1001 x1002).bind fun bt778 => (if x3.length < 2199023255552 then (spec_l19Path.l0 k (x3 ++ [(⟨bt778.1, bt778.2.1, bt778.2.2.1, bt778.2.2.2.1⟩ : S89)]) (wrap64 (x4 - 1)) x1000 bt778.2.2.2.2.1 bt778.2.2.2.2.2) else (none))) else (some (x3, x1001, x1002))
def spec_l19Path.f (k : Nat) (s0_0 : List Int) (s0_1 : Int) (s0_2 : Int) : Option ((List (S89)) × Int × Int) := (spec_l1Below.f s0_0 s0_1 s0_2 4).bind fun bt775 => (spec_l19Path.l0 k (([] : List (S89))) bt775.1 s0_0 bt775.2.1 bt775.2.2)
theorem spec_l19Path.mono_l : ∀ k, (∀ y0 y1 y2 y3 y4, LeO (spec_l19Path.l0 k y0 y1 y2 y3 y4) (spec_l19Path.l0 (k + 1) y0 y1 y2 y3 y4))
 | 0 => fun _ _ _ _ _ r h => by simp [spec_l19Path.l0] at h
 | k + 1 => by
  have ih0 := spec_l19Path.mono_l k
  ·intro y0 y1 y2 y3 y4
   unfold spec_l19Path.l0
   exact mo2_ ih0 spec_l19Draw.mono
theorem spec_l19Path.mono : ∀ a0 a1 a2 k, LeO (spec_l19Path.f k a0 a1 a2) (spec_l19Path.f (k + 1) a0 a1 a2) := by
 intro a0 a1 a2 k
 have ih0 := spec_l19Path.mono_l k
 unfold spec_l19Path.f
 exact mo2_ ih0 spec_l19Draw.mono
theorem spec_l19Path.calls (k : Nat) (g : Nat) (s0_0 : List Int) (s0_1 : Int) (s0_2 : Int) (r1 : List (S89)) (r2 : Int) (r3 : Int) (w0 w : World) (hI : IsS77 w0 w g s0_0 s0_1 s0_2) (hB : Below w0.heap.size w0 w) (h : spec_l19Path.f k s0_0 s0_1 s0_2 = some (r1, r2, r3)) :
  Calls Try.prog 41 #[.pointer (some ⟨g, 0, none⟩)] w fun e w' => ∃ v0_ : Value, e = .returned (v0_) ∧ Kd.S k89 89 w' w.heap.size (fun _ => True) v0_ r1 ∧ IsS77 w0 w' g s0_0 r2 r3 ∧ Below w0.heap.size w0 w' ∧ KeepBut w w' g none := by
 have HI0 := Q_ hI
 have HK := Q_ (KeepBut.refl w g none)
 have HL := Q_ hB.size
 clear hI
 have HW0 := Q_ hB.size
 have HB := Q_ hB
 clear hB
 have H : ((spec_l1Below.f s0_0 s0_1 s0_2 4).bind fun bt775 => (spec_l19Path.l0 k (([] : List (S89))) bt775.1 s0_0 bt775.2.1 bt775.2.2)) = some (r1, r2, r3) := h
 clear h
 obtain ⟨y772, hy772⟩ : ∃ y_ : List (S89), y_ = (([] : List (S89))) := ⟨_, rfl⟩
 replace H : ((spec_l1Below.f s0_0 s0_1 s0_2 4).bind fun bt775 => (spec_l19Path.l0 k y772 bt775.1 s0_0 bt775.2.1 bt775.2.2)) = some (r1, r2, r3) := hb_ hy772 H
 have Ny772 := Q_ hy772
 clear hy772
 replace H := Option.bind_eq_some_iff.mp H
 obtain ⟨⟨t775, t776, t777⟩, A20, H⟩ := H
 replace H : (spec_l19Path.l0 k y772 t775 s0_0 t776 t777) = some (r1, r2, r3) := H
 have A2 := Q_ A20
 clear A20
 have H' := Q_ H
 clear H
 go_enter Try.func41, Try.ntmps41
 go_wp2_with (first | ((with_reducible refine gate_dst (N := 5) rfl ?_); refine Kd.S_lit k89 _ 89 ?hg (N := 5) ?hd (xs := ([] : List (S89))) (inner := []) (ok := fun _ => True) (okp := fun _ => True) ?hr ?hp (fun _ hk => hk) trivial (Below.refl _ _) (Nat.le_refl _) (by simp) ?_; (case hd => rfl); (case hg => rfl); (case hr => first | (go_simp; done) | (go_simp; rfl)); (case hp => exact (Reps.none _ _)); intro v773 w3 ho4 hb hg_ hnew_; clear hg_ hnew_; (first | rw [← Ny772.out] at ho4 | (simp only [Int.reduceToNat] at ho4; rw [← Ny772.out] at ho4)); have _ := Q_ (Kd.S_lower ho4 (keep_size (w := w) (g := g) (row := none) (qk0_ HK.out))); have _ := Q_ (IsS77.below (qs77_0_ HI0.out) hb); have _ := Q_ (KeepBut.trans (qk0_ HK.out) (KeepBut.of_below hb g none) (.inl rfl)); have _ := Q_ (below_step (qb1_ HB.out (IsS77.ge HI0.out)) hb); clear HI0 HK HB; rename_i HO774 HI0 HK HB; clear hb ho4) | ((with_reducible refine gate_callee (f := 25) rfl ?_); refine gl_ (some 7) Try.func25 #[.pointer (some ⟨g, 0, none⟩), .int .i64 4] ?_; (with_reducible refine (spec_l1Below.calls g s0_0 s0_1 s0_2 4 t775 t776 t777 w0 _ ?side1 ?side2 A2.out).mono ?_); (case side1 => exact qs77_0_ HI0.out); (case side2 => exact qb1_ HB.out (IsS77.ge HI0.out)); rintro e w5 ⟨rfl, hi, hb, hk⟩; refine ⟨_, rfl, ?_⟩; have _ := Q_ (Kd.S_mono (Kd.S_keep (IsS77.apartS (show IsS77 w0 _ g s0_0 s0_1 s0_2 from qs77_0_ HI0.out) (ps_ HO774.out) (by decide)) hk (fun _ h => h.2)) (fun _ h => h.1)); have _ := Q_ (KeepBut.trans (qk0_ HK.out) hk (.inl rfl)); have _ := Q_ (hb); have _ := Q_ (hi); clear HO774 HK HB HI0; rename_i HO774 HK HB HI0; (try clear hb); (try clear hb2); (try clear hk); (try clear hi)))
 (try simp only [Act.put, List.setIfInBounds_toArray, List.set_cons_zero, List.set_cons_succ])
 go_loopg [3, 4] k (fun kq v3 v4 w' => ∃ (x3_1 : List (S89)) (x4_1 : Int) (x1001_1 : Int) (x1002_1 : Int), v4 = .int .i64 x4_1 ∧ Aside0 (spec_l19Path.l0 kq x3_1 x4_1 s0_0 x1001_1 x1002_1 = some (r1, r2, r3)) ∧ Aside0 (kq ≤ k) ∧ Aside0 (Kd.S k89 89 w' w.heap.size (fun _ => True) v3 x3_1) ∧ Aside0 (IsS77 w0 w' g s0_0 x1001_1 x1002_1) ∧ Aside0 (KeepBut w w' g none) ∧ Aside0 (Below w0.heap.size w0 w'))
 case atStart => exact ⟨(y772), (t775), (t776), (t777), el_, H', ⟨Nat.le_refl _⟩, ⟨ps_ HO774.out⟩, ⟨qs77_0_ HI0.out⟩, ⟨qk0_ HK.out⟩, ⟨qb1_ HB.out (IsS77.ge HI0.out)⟩⟩
 clear H'
 try clear c2
 try clear p2
 try clear c4
 obtain ⟨x3_1, x4_1, x1001_1, x1002_1, rfl, HA, HK1, HO_3, HI0, HK, HB⟩ := hrel
 rcases gk with _ | k1
 ·exact absurd HA.out (by simp [spec_l19Path.l0])
 have H := HA.out
 clear HA
 simp only [spec_l19Path.l0] at H
 by_cases c6 : x4_1 > 0
 rotate_left
 ·rw [if_neg c6] at H
  have c6b0 : decide (0 < x4_1) = false := decide_eq_false c6
  clear c6
  simp only [Option.some.injEq, Prod.mk.injEq] at H
  obtain ⟨rfl, rfl, rfl⟩ := H
  go_wp2
  go_ret
  exact ⟨_, er_, ps_ HO_3.out, qs77_0_ HI0.out, qb1_ HB.out (IsS77.ge HI0.out), qk0_ HK.out⟩
 rw [if_pos c6] at H
 have c6b0 : decide (0 < x4_1) = true := decide_eq_true c6
 clear c6
 replace H := Option.bind_eq_some_iff.mp H
 obtain ⟨⟨t778, t779, t782, t785, t786, t787⟩, A70, H⟩ := H
 (try dsimp only at H)
 have A7 := Q_ A70
 clear A70
 by_cases c8 : x3_1.length < 2199023255552
 rotate_left
 ·rw [if_neg c8] at H
  exact absurd H (by simp)
 rw [if_pos c8] at H
 have LMc8 := Q_ c8
 clear c8
 obtain ⟨y788, hy788⟩ : ∃ y_ : List (S89), y_ = (x3_1 ++ [(⟨t778, t779, t782, t785⟩ : S89)]) := ⟨_, rfl⟩
 replace H : (spec_l19Path.l0 k1 y788 (wrap64 (x4_1 - 1)) s0_0 t786 t787) = some (r1, r2, r3) := hb_ hy788 H
 have Ny788 := Q_ hy788
 clear hy788
 have H' := Q_ H
 clear H
 go_wp2_with (first | ((with_reducible refine gate_callee (f := 54) rfl ?_); refine gl_ (some 14) Try.func54 #[.pointer (some ⟨g, 0, none⟩)] ?_; (with_reducible refine (spec_l19Draw.calls k1 g s0_0 x1001_1 x1002_1 t778 t779 t782 t785 t786 t787 w0 _ ?side1 ?side2 A7.out).mono ?_); (case side1 => exact qs77_0_ HI0.out); (case side2 => exact qb1_ HB.out (IsS77.ge HI0.out)); rintro e w9 ⟨v780, v783, rfl, ho0, ho1, hi, hb, hk⟩; refine ⟨_, rfl, ?_⟩; have _ := Q_ (Kd.S_mono (Kd.S_told (Kd.S_told (Kd.S_oldK (IsS77.apartS (show IsS77 w0 _ g s0_0 x1001_1 x1002_1 from qs77_0_ HI0.out) (ps_ HO_3.out) (by decide)) hk) (Kd.R_base ho0)) (Kd.R_base ho1)) (fun _ h_ => h_.1)); have _ := Q_ (Kd.R_lower ho0 (keep_size (w := w) (g := g) (row := none) (qk0_ HK.out))); have _ := Q_ (Kd.R_lower ho1 (keep_size (w := w) (g := g) (row := none) (qk0_ HK.out))); have _ := Q_ (KeepBut.trans (qk0_ HK.out) hk (.inl rfl)); have _ := Q_ (hb); have _ := Q_ (hi); clear HO_3 HK HB HI0; rename_i HO_3 HO781 HO784 HK HB HI0; (try clear hb); (try clear hb2); (try clear hk); (try clear hi); (try clear ho0); (try clear ho1); obtain ⟨Ao11, co11, eo11⟩ := Kd.R_slice HO781.out; subst eo11; obtain ⟨Ao12, co12, eo12⟩ := Kd.R_slice HO784.out; subst eo12) | ((with_reducible refine gate_builtin (b := .append) (xs := #[.tmp 12, .tmp 15]) rfl ?_); at_builtin; refine Kd.S_append k89 w.heap.size rfl (.tmp 12) (.tmp 15) 73 89 (.agg #[(.int .i64 0), (.slice none 0 0), (.slice none 0 0), (.bool false)]) 64 rfl Try.underlying73 info89 rfl (by decide) (by omega) u3 x3_1 (⟨t778, t779, t782, t785⟩ : S89) [.int .i64 t778, .slice Ao11 t779.length co11, .slice Ao12 t782.length co12, .bool t785] (fun _ => True) (fun k_ => some k_ = (.slice Ao11 t779.length co11 : Value).ownBlock ∨ some k_ = (.slice Ao12 t782.length co12 : Value).ownBlock) rfl rfl ?aP (fun k_ hk_ => hk_.elim (fun h_ => ((Kd.R_mono (ok' := fun k_ => ((fun _ => True)) k_ ∧ some k_ ≠ (u3 : Value).ownBlock) (Kd.R_apart' (HO781.out) (Kd.S_typed HO_3.out) (by decide)) (fun k_ hk => ⟨trivial, hk.2⟩))).1 k_ h_.symm) (fun h_ => ((Kd.R_mono (ok' := fun k_ => ((fun _ => True)) k_ ∧ some k_ ≠ (u3 : Value).ownBlock) (Kd.R_apart' (HO784.out) (Kd.S_typed HO_3.out) (by decide)) (fun k_ hk => ⟨trivial, hk.2⟩))).1 k_ h_.symm)) ?aF ?aO (Below.refl _ _) ?aS ?aL ?_; (case aP => exact k89_mkM _ _ _ (⟨t778, t779, t782, t785⟩ : S89) (Kd.R_mono (Kd.R_tight rfl (Kd.R_mono (ok' := fun k_ => ((fun _ => True)) k_ ∧ some k_ ≠ (u3 : Value).ownBlock) (Kd.R_apart' (HO781.out) (Kd.S_typed HO_3.out) (by decide)) (fun k_ hk => ⟨trivial, hk.2⟩))) (fun _ h_ => Or.inl h_)) (Kd.R_mono (Kd.R_tight rfl (Kd.R_mono (ok' := fun k_ => ((fun _ => True)) k_ ∧ some k_ ≠ (u3 : Value).ownBlock) (Kd.R_apart' (HO784.out) (Kd.S_typed HO_3.out) (by decide)) (fun k_ hk => ⟨trivial, hk.2⟩))) (fun _ h_ => Or.inr (h_)))); (case aF => exact (fun _ _ => trivial)); (case aO => exact (by (with_reducible repeat (first | apply Kd.S_alloc | apply Kd.S_drewN | apply Kd.S_drew)); exact Kd.S_mono HO_3.out (fun k_ hk => ⟨trivial, fun e_ => e_.elim (fun h_ => hk.1.2 h_) (fun h_ => hk.2 h_)⟩))); (case aS => exact (keep_size (w := w) (g := g) (row := none) (qk0_ HK.out))); (case aL => have := LMc8.out; omega); intro v789 w10 ho hb hg hat; rw [← Ny788.out] at ho; have _ := Q_ (IsS77.grown (qs77_0_ HI0.out) hg (IsS77.own_neS HI0.out HO_3.out (by decide))); have _ := Q_ (below_weaken (qb1_ HB.out (IsS77.ge HI0.out)) HL.out hb); have _ := Q_ (KeepBut.trans (qk0_ HK.out) (KeepBut.of_grown hg g) (Kd.S_base2 HO_3.out)); have _ := Q_ (ho); clear HI0 HB HK HO_3 HO781 HO784; rename_i HI0 HB HK HO790; clear ho hb hg hat))
 go_roundg k1
 case measure => have := HK1.out; omega
 case rel => exact ⟨(y788), (wrap64 (x4_1 - 1)), (t786), (t787), el_, H', ⟨by have := HK1.out; omega⟩, ⟨ps_ HO790.out⟩, ⟨qs77_0_ HI0.out⟩, ⟨qk0_ HK.out⟩, ⟨qb1_ HB.out (IsS77.ge HI0.out)⟩⟩

/-! ### spec_DrawMaskedBy: function 20 -/
def spec_DrawMaskedBy.l0 : Nat → List (S50) → Int → List Int → Int → Int → Option ((List (S50)) × Int)
 | 0, _, _, _, _, _ => none
 | k + 1, x5, x6, x795000, x795001, x795002 => if x6 > 0 then ((spec_l17Draw.f k x795000 x795001 x795002).bind fun bt804 => ((spec_l19Path.f k x795000 bt804.2.2.1 bt804.2.2.2).bind fun bt812 => ((spec_l12Draw.f k x795000 bt812.2.1 bt812.2.2).bind fun bt817 => ((spec_Dial.f k bt804.1 bt804.2.1 bt812.1 bt817.1 ([] : List Int) 5).bind fun bt822 => (if x5.length < 1954687338268 then (spec_DrawMaskedBy.l0 k (x5 ++ [(⟨(⟨bt822.1, bt822.2.1, bt822.2.2.1⟩ : S48), bt822.2.2.2.1, bt822.2.2.2.2⟩ : S50)]) (wrap64 (x6 - 1)) x795000 bt817.2.1 bt817.2.2) else (none)))))) else ((spec_l1Below.f x795000 x795001 x795002 6).bind fun bt801 => (some (x5, wrap64 (1 + bt801.1))))
def spec_DrawMaskedBy.f (k : Nat) (l0 : List Int) : Option ((List (S50)) × Int) := (spec_l1New.f k l0).bind fun bt791 => ((spec_l1Below.f bt791.1 bt791.2.1 bt791.2.2 5).bind fun bt798 => (spec_DrawMaskedBy.l0 k (([] : List (S50))) bt798.1 bt791.1 bt798.2.1 bt798.2.2))
theorem spec_DrawMaskedBy.mono_l : ∀ k, (∀ y0 y1 y2 y3 y4, LeO (spec_DrawMaskedBy.l0 k y0 y1 y2 y3 y4) (spec_DrawMaskedBy.l0 (k + 1) y0 y1 y2 y3 y4))
 | 0 => fun _ _ _ _ _ r h => by simp [spec_DrawMaskedBy.l0] at h
 | k + 1 => by
  have ih0 := spec_DrawMaskedBy.mono_l k
  ·intro y0 y1 y2 y3 y4
   unfold spec_DrawMaskedBy.l0
   exact mo6_ ih0 spec_Dial.mono spec_l12Draw.mono spec_l17Draw.mono spec_l19Path.mono spec_l1New.mono
theorem spec_DrawMaskedBy.mono : ∀ a0 k, LeO (spec_DrawMaskedBy.f k a0) (spec_DrawMaskedBy.f (k + 1) a0) := by
 intro a0 k
 have ih0 := spec_DrawMaskedBy.mono_l k
 unfold spec_DrawMaskedBy.f
 exact mo6_ ih0 spec_Dial.mono spec_l12Draw.mono spec_l17Draw.mono spec_l19Path.mono spec_l1New.mono
theorem spec_DrawMaskedBy.calls (k : Nat) (A0 : Option Addr) (c0 : Nat) (l0 : List Int) (r1 : List (S50)) (r2 : Int) (w : World) (hr0 : Kd.C (Kd.int .u8) w A0 l0.length l0) (hc0 : l0.length ≤ c0) (h : spec_DrawMaskedBy.f k l0 = some (r1, r2)) :
  Calls Try.prog 20 #[.slice A0 l0.length c0] w fun e w' => ∃ v0_ : Value, e = .returned (.tuple #[v0_, .int .i64 r2]) ∧ Kd.S k50 50 w' w.heap.size (fun _ => True) v0_ r1 ∧ Below w.heap.size w w' := by
 have HR0 := Q_ hr0
 have HC0 := Q_ hc0
 clear hr0 hc0
 have HB := Q_ (Below.refl w.heap.size w)
 have H : ((spec_l1New.f k l0).bind fun bt791 => ((spec_l1Below.f bt791.1 bt791.2.1 bt791.2.2 5).bind fun bt798 => (spec_DrawMaskedBy.l0 k (([] : List (S50))) bt798.1 bt791.1 bt798.2.1 bt798.2.2))) = some (r1, r2) := h
 clear h
 replace H := Option.bind_eq_some_iff.mp H
 obtain ⟨⟨t791, t792, t793⟩, A20, H⟩ := H
 (try dsimp only at H)
 have A2 := Q_ A20
 clear A20
 obtain ⟨y795, hy795⟩ : ∃ y_ : List (S50), y_ = (([] : List (S50))) := ⟨_, rfl⟩
 replace H : ((spec_l1Below.f t791 t792 t793 5).bind fun bt798 => (spec_DrawMaskedBy.l0 k y795 bt798.1 t791 bt798.2.1 bt798.2.2)) = some (r1, r2) := hb_ hy795 H
 have Ny795 := Q_ hy795
 clear hy795
 replace H := Option.bind_eq_some_iff.mp H
 obtain ⟨⟨t798, t799, t800⟩, A30, H⟩ := H
 replace H : (spec_DrawMaskedBy.l0 k y795 t798 t791 t799 t800) = some (r1, r2) := H
 have A3 := Q_ A30
 clear A30
 have H' := Q_ H
 clear H
 go_enter Try.func20, Try.ntmps20
 go_wp2_with (first | ((with_reducible refine gate_callee (f := 23) rfl ?_); refine gl_ (some 8) Try.func23 #[.slice A0 l0.length c0] ?_; (with_reducible refine (spec_l1New.calls k _ _ l0 t791 t792 t793 w _ ?side1 ?side2 ?side3 A2.out).mono ?_); (case side1 => exact qb0_ HB.out); (case side2 => exact HR0.out); (case side3 => exact HC0.out); rintro e w4 ⟨g794, rfl, hi, hb, hb2⟩; refine ⟨_, rfl, ?_⟩; have _ := Q_ (hb); have _ := Q_ (hi); clear HB; rename_i HB HI794; (try clear hb); (try clear hb2); (try clear hk); (try clear hi)) | ((with_reducible refine gate_dst (N := 9) rfl ?_); refine Kd.S_lit k50 _ 50 ?hg (N := 9) ?hd (xs := ([] : List (S50))) (inner := []) (ok := fun _ => True) (okp := fun _ => True) ?hr ?hp (fun _ hk => hk) trivial (Below.refl _ _) (Nat.le_refl _) (by simp) ?_; (case hd => rfl); (case hg => rfl); (case hr => first | (go_simp; done) | (go_simp; rfl)); (case hp => exact (Reps.none _ _)); intro v796 w5 ho6 hb hg_ hnew_; clear hg_ hnew_; (first | rw [← Ny795.out] at ho6 | (simp only [Int.reduceToNat] at ho6; rw [← Ny795.out] at ho6)); have _ := Q_ (Kd.S_lower ho6 (below_size (qb1_ HB.out (IsS77.ge HI794.out)))); have _ := Q_ (IsS77.below (qs77_0_ HI794.out) hb); have _ := Q_ (below_step (qb1_ HB.out (IsS77.ge HI794.out)) hb); clear HI794 HB; rename_i HO797 HI794 HB; clear hb ho6) | ((with_reducible refine gate_callee (f := 25) rfl ?_); refine gl_ (some 11) Try.func25 #[.pointer (some ⟨g794, 0, none⟩), .int .i64 5] ?_; (with_reducible refine (spec_l1Below.calls g794 t791 t792 t793 5 t798 t799 t800 w _ ?side1 ?side2 A3.out).mono ?_); (case side1 => exact qs77_0_ HI794.out); (case side2 => exact qb1_ HB.out (IsS77.ge HI794.out)); rintro e w7 ⟨rfl, hi, hb, hk⟩; refine ⟨_, rfl, ?_⟩; have _ := Q_ (Kd.S_mono (Kd.S_keep (IsS77.apartS (show IsS77 w _ g794 t791 t792 t793 from qs77_0_ HI794.out) (ps_ HO797.out) (by decide)) hk (fun _ h => h.2)) (fun _ h => h.1)); have _ := Q_ (hb); have _ := Q_ (hi); clear HO797 HB HI794; rename_i HO797 HB HI794; (try clear hb); (try clear hb2); (try clear hk); (try clear hi)))
 (try simp only [Act.put, List.setIfInBounds_toArray, List.set_cons_zero, List.set_cons_succ])
 go_loopg [5, 6] k (fun kq v5 v6 w' => ∃ (x5_1 : List (S50)) (x6_1 : Int) (x795001_1 : Int) (x795002_1 : Int), v6 = .int .i64 x6_1 ∧ Aside0 (spec_DrawMaskedBy.l0 kq x5_1 x6_1 t791 x795001_1 x795002_1 = some (r1, r2)) ∧ Aside0 (kq ≤ k) ∧ Aside0 (Kd.S k50 50 w' w.heap.size (fun _ => True) v5 x5_1) ∧ Aside0 (IsS77 w w' g794 t791 x795001_1 x795002_1) ∧ Aside0 (Below w.heap.size w w'))
 case atStart => exact ⟨(y795), (t798), (t799), (t800), el_, H', ⟨Nat.le_refl _⟩, ⟨ps_ HO797.out⟩, ⟨qs77_0_ HI794.out⟩, ⟨qb1_ HB.out (IsS77.ge HI794.out)⟩⟩
 clear H'
 try clear c2
 try clear p2
 obtain ⟨x5_1, x6_1, x795001_1, x795002_1, rfl, HA, HK1, HO_5, HI794, HB⟩ := hrel
 rcases gk with _ | k1
 ·exact absurd HA.out (by simp [spec_DrawMaskedBy.l0])
 have H := HA.out
 clear HA
 simp only [spec_DrawMaskedBy.l0] at H
 by_cases c8 : x6_1 > 0
 rotate_left
 ·rw [if_neg c8] at H
  have c8b0 : decide (0 < x6_1) = false := decide_eq_false c8
  clear c8
  replace H := Option.bind_eq_some_iff.mp H
  obtain ⟨⟨t801, t802, t803⟩, A90, H⟩ := H
  replace H : (some (x5_1, wrap64 (1 + t801))) = some (r1, r2) := H
  have A9 := Q_ A90
  clear A90
  simp only [Option.some.injEq, Prod.mk.injEq] at H
  obtain ⟨rfl, rfl⟩ := H
  go_wp2_with (first | ((with_reducible refine gate_callee (f := 25) rfl ?_); refine gl_ (some 28) Try.func25 #[.pointer (some ⟨g794, 0, none⟩), .int .i64 6] ?_; (with_reducible refine (spec_l1Below.calls g794 t791 x795001_1 x795002_1 6 t801 t802 t803 w _ ?side1 ?side2 A9.out).mono ?_); (case side1 => exact qs77_0_ HI794.out); (case side2 => exact qb1_ HB.out (IsS77.ge HI794.out)); rintro e w10 ⟨rfl, hi, hb, hk⟩; refine ⟨_, rfl, ?_⟩; have _ := Q_ (Kd.S_mono (Kd.S_keep (IsS77.apartS (show IsS77 w _ g794 t791 x795001_1 x795002_1 from qs77_0_ HI794.out) (ps_ HO_5.out) (by decide)) hk (fun _ h => h.2)) (fun _ h => h.1)); have _ := Q_ (hb); have _ := Q_ (hi); clear HO_5 HB HI794; rename_i HO_5 HB HI794; (try clear hb); (try clear hb2); (try clear hk); (try clear hi)))
  go_ret2
  exact ⟨_, er_, ps_ HO_5.out, qb1_ HB.out (IsS77.ge HI794.out)⟩
 rw [if_pos c8] at H
 have c8b0 : decide (0 < x6_1) = true := decide_eq_true c8
 clear c8
 replace H := Option.bind_eq_some_iff.mp H
 obtain ⟨⟨t804, t807, t810, t811⟩, A110, H⟩ := H
 (try dsimp only at H)
 have A11 := Q_ A110
 clear A110
 replace H := Option.bind_eq_some_iff.mp H
 obtain ⟨⟨t812, t815, t816⟩, A120, H⟩ := H
 (try dsimp only at H)
 have A12 := Q_ A120
 clear A120
 replace H := Option.bind_eq_some_iff.mp H
 obtain ⟨⟨t817, t820, t821⟩, A130, H⟩ := H
 (try dsimp only at H)
 have A13 := Q_ A130
 clear A130
 replace H := Option.bind_eq_some_iff.mp H
 obtain ⟨⟨t822, t823, t824, t827, t828⟩, A140, H⟩ := H
 (try dsimp only at H)
 have A14 := Q_ A140
 clear A140
 by_cases c15 : x5_1.length < 1954687338268
 rotate_left
 ·rw [if_neg c15] at H
  exact absurd H (by simp)
 rw [if_pos c15] at H
 have LMc15 := Q_ c15
 clear c15
 obtain ⟨y831, hy831⟩ : ∃ y_ : List (S50), y_ = (x5_1 ++ [(⟨(⟨t822, t823, t824⟩ : S48), t827, t828⟩ : S50)]) := ⟨_, rfl⟩
 replace H : (spec_DrawMaskedBy.l0 k1 y831 (wrap64 (x6_1 - 1)) t791 t820 t821) = some (r1, r2) := hb_ hy831 H
 have Ny831 := Q_ hy831
 clear hy831
 have H' := Q_ H
 clear H
 go_wp2_with (first | ((with_reducible refine gate_callee (f := 40) rfl ?_); refine gl_ (some 18) Try.func40 #[.pointer (some ⟨g794, 0, none⟩)] ?_; (with_reducible refine (spec_l17Draw.calls k1 g794 t791 x795001_1 x795002_1 t804 t807 t810 t811 w _ ?side1 ?side2 A11.out).mono ?_); (case side1 => exact qs77_0_ HI794.out); (case side2 => exact qb1_ HB.out (IsS77.ge HI794.out)); rintro e w16 ⟨v805, v808, rfl, ho0, ho1, hi, hb, hk⟩; refine ⟨_, rfl, ?_⟩; have _ := Q_ (Kd.S_mono (Kd.S_told (Kd.S_oldK (IsS77.apartS (show IsS77 w _ g794 t791 x795001_1 x795002_1 from qs77_0_ HI794.out) (ps_ HO_5.out) (by decide)) hk) (Kd.R_base ho0)) (fun _ h_ => h_.1)); have _ := Q_ (Kd.R_lower ho0 (below_size (qb1_ HB.out (IsS77.ge HI794.out)))); have _ := Q_ (Kd.S_lower ho1 (below_size (qb1_ HB.out (IsS77.ge HI794.out)))); have _ := Q_ (hb); have _ := Q_ (hi); clear HO_5 HB HI794; rename_i HO_5 HO806 HO809 HB HI794; (try clear hb); (try clear hb2); (try clear hk); (try clear hi); (try clear ho0); (try clear ho1)) | ((with_reducible refine gate_callee (f := 41) rfl ?_); refine gl_ (some 20) Try.func41 #[.pointer (some ⟨g794, 0, none⟩)] ?_; (with_reducible refine (spec_l19Path.calls k1 g794 t791 t810 t811 t812 t815 t816 w _ ?side1 ?side2 A12.out).mono ?_); (case side1 => exact qs77_0_ HI794.out); (case side2 => exact qb1_ HB.out (IsS77.ge HI794.out)); rintro e w17 ⟨v813, rfl, ho0, hi, hb, hk⟩; refine ⟨_, rfl, ?_⟩; have _ := Q_ (Kd.S_mono (Kd.S_keep (IsS77.apartS (show IsS77 w _ g794 t791 t810 t811 from qs77_0_ HI794.out) (ps_ HO_5.out) (by decide)) hk (fun _ h => h.2)) (fun _ h => h.1)); have _ := Q_ (Kd.R_mono (Kd.R_keep (IsS77.apart (show IsS77 w _ g794 t791 t810 t811 from qs77_0_ HI794.out) (pr_ HO806.out) (by decide)) hk (fun _ h => h.2)) (fun _ h => h.1)); have _ := Q_ (Kd.S_mono (Kd.S_keep (IsS77.apartS (show IsS77 w _ g794 t791 t810 t811 from qs77_0_ HI794.out) (ps_ HO809.out) (by decide)) hk (fun _ h => h.2)) (fun _ h => h.1)); have _ := Q_ (Kd.S_lower (Kd.S_new' ho0 (Kd.R_lt (pr_ HO806.out))) (below_size (qb1_ HB.out (IsS77.ge HI794.out)))); have _ := Q_ (hb); have _ := Q_ (hi); clear HO_5 HO806 HO809 HB HI794; rename_i HO_5 HO806 HO809 HO814 HB HI794; (try clear hb); (try clear hb2); (try clear hk); (try clear hi); (try clear ho0)) | ((with_reducible refine gate_callee (f := 42) rfl ?_); refine gl_ (some 22) Try.func42 #[.pointer (some ⟨g794, 0, none⟩)] ?_; (with_reducible refine (spec_l12Draw.calls k1 g794 t791 t815 t816 t817 t820 t821 w _ ?side1 ?side2 A13.out).mono ?_); (case side1 => exact qs77_0_ HI794.out); (case side2 => exact qb1_ HB.out (IsS77.ge HI794.out)); rintro e w18 ⟨v818, rfl, ho0, hi, hb, hk⟩; refine ⟨_, rfl, ?_⟩; have _ := Q_ (Kd.S_mono (Kd.S_told (Kd.S_oldK (IsS77.apartS (show IsS77 w _ g794 t791 t815 t816 from qs77_0_ HI794.out) (ps_ HO_5.out) (by decide)) hk) (Kd.R_base ho0)) (fun _ h_ => h_.1)); have _ := Q_ (Kd.R_mono (Kd.R_told (Kd.R_oldK (IsS77.apart (show IsS77 w _ g794 t791 t815 t816 from qs77_0_ HI794.out) (pr_ HO806.out) (by decide)) hk) (Kd.R_base ho0)) (fun _ h_ => h_.1)); have _ := Q_ (Kd.S_mono (Kd.S_told (Kd.S_oldK (IsS77.apartS (show IsS77 w _ g794 t791 t815 t816 from qs77_0_ HI794.out) (ps_ HO809.out) (by decide)) hk) (Kd.R_base ho0)) (fun _ h_ => h_.1)); have _ := Q_ (Kd.S_mono (Kd.S_told (Kd.S_oldK (IsS77.apartS (show IsS77 w _ g794 t791 t815 t816 from qs77_0_ HI794.out) (ps_ HO814.out) (by decide)) hk) (Kd.R_base ho0)) (fun _ h_ => h_.1)); have _ := Q_ (Kd.R_lower (Kd.R_new' ho0 (Kd.R_lt (pr_ HO806.out))) (below_size (qb1_ HB.out (IsS77.ge HI794.out)))); have _ := Q_ (hb); have _ := Q_ (hi); clear HO_5 HO806 HO809 HO814 HB HI794; rename_i HO_5 HO806 HO809 HO814 HO819 HB HI794; (try clear hb); (try clear hb2); (try clear hk); (try clear hi); (try clear ho0); obtain ⟨Ao19, co19, eo19⟩ := Kd.R_slice HO806.out; subst eo19; obtain ⟨Ao20, co20, eo20⟩ := Kd.S_slice HO809.out; subst eo20; obtain ⟨Ao21, co21, eo21⟩ := Kd.S_slice HO814.out; subst eo21; obtain ⟨Ao22, co22, eo22⟩ := Kd.R_slice HO819.out; subst eo22) | ((with_reducible refine gate_callee (f := 39) rfl ?_); refine gl_ (some 23) Try.func39 #[.agg #[.slice Ao19 t804.length co19, .slice Ao20 t807.length co20], .slice Ao21 t812.length co21, .slice Ao22 t817.length co22, .slice none 0 0, .int .i64 5] ?_; (refine (spec_Dial.calls k1 _ _ t804 _ _ t807 _ _ t812 _ _ t817 _ _ ([] : List Int) 5 t822 t823 t824 t827 t828 _ ?side1 ?side2 ?side3 ?side4 ?side5 ?side6 ?side7 ?side8 ?side9 ?side10 A14.out).mono ?_); (case side1 => exact pc_ ((Kd.R_reads' HO806.out).2.2)); (case side2 => exact (Kd.R_reads' HO806.out).2.1); (case side3 => exact pc_ ((Kd.S_reads' HO809.out).2.2)); (case side4 => exact (Kd.S_reads' HO809.out).2.1); (case side5 => exact pc_ ((Kd.S_reads' HO814.out).2.2)); (case side6 => exact (Kd.S_reads' HO814.out).2.1); (case side7 => exact pc_ ((Kd.R_reads' HO819.out).2.2)); (case side8 => exact (Kd.R_reads' HO819.out).2.1); (case side9 => exact Kd.C_nil _ _); (case side10 => exact Nat.le_refl _); rintro e w23 ⟨v825, v829, rfl, ho0, ho1, hb⟩; refine ⟨_, rfl, ?_⟩; have _ := Q_ (Kd.S_mono (Kd.S_told (Kd.S_told (Kd.S_old (ps_ HO_5.out) hb) (Kd.R_base ho0)) (Kd.R_base ho1)) (fun _ h_ => h_.1)); have _ := Q_ (Kd.R_mono (Kd.R_told (Kd.R_told (Kd.R_old (pr_ HO806.out) hb) (Kd.R_base ho0)) (Kd.R_base ho1)) (fun _ h_ => h_.1)); have _ := Q_ (Kd.S_mono (Kd.S_told (Kd.S_told (Kd.S_old (ps_ HO809.out) hb) (Kd.R_base ho0)) (Kd.R_base ho1)) (fun _ h_ => h_.1)); have _ := Q_ (Kd.S_mono (Kd.S_told (Kd.S_told (Kd.S_old (ps_ HO814.out) hb) (Kd.R_base ho0)) (Kd.R_base ho1)) (fun _ h_ => h_.1)); have _ := Q_ (Kd.R_mono (Kd.R_told (Kd.R_told (Kd.R_old (pr_ HO819.out) hb) (Kd.R_base ho0)) (Kd.R_base ho1)) (fun _ h_ => h_.1)); have _ := Q_ (Kd.R_lower (Kd.R_new' (Kd.R_new' ho0 (Kd.R_lt (pr_ HO806.out))) (Kd.R_lt (pr_ HO819.out))) (below_size (qb1_ HB.out (IsS77.ge HI794.out)))); have _ := Q_ (Kd.R_lower (Kd.R_new' (Kd.R_new' ho1 (Kd.R_lt (pr_ HO806.out))) (Kd.R_lt (pr_ HO819.out))) (below_size (qb1_ HB.out (IsS77.ge HI794.out)))); have _ := Q_ (IsS77.below (qs77_0_ HI794.out) hb); have _ := Q_ (below_step (qb1_ HB.out (IsS77.ge HI794.out)) hb); clear HO_5 HO806 HO809 HO814 HO819 HI794 HB; rename_i HO_5 HO806 HO809 HO814 HO819 HO826 HO830 HI794 HB; (try clear hb); (try clear hb2); (try clear hk); (try clear hi); (try clear ho0); (try clear ho1); obtain ⟨Ao25, co25, eo25⟩ := Kd.R_slice HO826.out; subst eo25; obtain ⟨Ao26, co26, eo26⟩ := Kd.R_slice HO830.out; subst eo26) | ((with_reducible refine gate_builtin (b := .append) (xs := #[.tmp 16, .tmp 24]) rfl ?_); at_builtin; refine Kd.S_append k50 (w0 := w) w.heap.size rfl (.tmp 16) (.tmp 24) 43 50 (.agg #[(.bool false), (.int .i64 0), (.slice none 0 0), (.int .i64 0), (.slice none 0 0)]) 72 rfl Try.underlying43 info50 rfl (by decide) (by omega) u5 x5_1 (⟨(⟨t822, t823, t824⟩ : S48), t827, t828⟩ : S50) [.bool t822, .int .i64 t823, .slice Ao25 t824.length co25, .int .i64 t827, .slice Ao26 t828.length co26] (fun k_ => some k_ ≠ (.slice Ao19 t804.length co19 : Value).ownBlock ∧ some k_ ≠ (.slice Ao22 t817.length co22 : Value).ownBlock) (fun k_ => some k_ = (.slice Ao25 t824.length co25 : Value).ownBlock ∨ some k_ = (.slice Ao26 t828.length co26 : Value).ownBlock) rfl rfl ?aP (fun k_ hk_ => hk_.elim (fun h_ => ((Kd.R_mono (ok' := fun k_ => ((fun k_ => some k_ ≠ (.slice Ao19 t804.length co19 : Value).ownBlock ∧ some k_ ≠ (.slice Ao22 t817.length co22 : Value).ownBlock)) k_ ∧ some k_ ≠ (u5 : Value).ownBlock) (Kd.R_apart' (HO826.out) (Kd.S_typed HO_5.out) (by decide)) (fun k_ hk => ⟨⟨hk.1.1.2, hk.1.2⟩, hk.2⟩))).1 k_ h_.symm) (fun h_ => ((Kd.R_mono (ok' := fun k_ => ((fun k_ => some k_ ≠ (.slice Ao19 t804.length co19 : Value).ownBlock ∧ some k_ ≠ (.slice Ao22 t817.length co22 : Value).ownBlock)) k_ ∧ some k_ ≠ (u5 : Value).ownBlock) (Kd.R_apart' (HO830.out) (Kd.S_typed HO_5.out) (by decide)) (fun k_ hk => ⟨⟨hk.1.1.2, hk.1.2⟩, hk.2⟩))).1 k_ h_.symm)) ?aF ?aO ?aB ?aS ?aL ?_; (case aP => exact k50_mkM _ _ _ (⟨(⟨t822, t823, t824⟩ : S48), t827, t828⟩ : S50) (Kd.R_mono (Kd.R_tight rfl (Kd.R_mono (ok' := fun k_ => ((fun k_ => some k_ ≠ (.slice Ao19 t804.length co19 : Value).ownBlock ∧ some k_ ≠ (.slice Ao22 t817.length co22 : Value).ownBlock)) k_ ∧ some k_ ≠ (u5 : Value).ownBlock) (Kd.R_apart' (HO826.out) (Kd.S_typed HO_5.out) (by decide)) (fun k_ hk => ⟨⟨hk.1.1.2, hk.1.2⟩, hk.2⟩))) (fun _ h_ => Or.inl h_)) (Kd.R_mono (Kd.R_tight rfl (Kd.R_mono (ok' := fun k_ => ((fun k_ => some k_ ≠ (.slice Ao19 t804.length co19 : Value).ownBlock ∧ some k_ ≠ (.slice Ao22 t817.length co22 : Value).ownBlock)) k_ ∧ some k_ ≠ (u5 : Value).ownBlock) (Kd.R_apart' (HO830.out) (Kd.S_typed HO_5.out) (by decide)) (fun k_ hk => ⟨⟨hk.1.1.2, hk.1.2⟩, hk.2⟩))) (fun _ h_ => Or.inr (h_)))); (case aB => exact (qb1_ HB.out (IsS77.ge HI794.out))); (case aF => exact (fun k_ hk => ⟨Kd.fresh' (Kd.R_lt (pr_ HO806.out)) k_ hk, Kd.fresh' (Kd.R_lt (pr_ HO819.out)) k_ hk⟩)); (case aO => exact (by (with_reducible repeat (first | apply Kd.S_alloc | apply Kd.S_drewN | apply Kd.S_drew)); exact Kd.S_mono HO_5.out (fun k_ hk => ⟨⟨hk.1.1.1.2, hk.1.1.2⟩, fun e_ => e_.elim (fun h_ => hk.1.2 h_) (fun h_ => hk.2 h_)⟩))); (case aS => exact (below_size (qb1_ HB.out (IsS77.ge HI794.out)))); (case aL => have := LMc15.out; omega); intro v832 w24 ho hb hg hat; rw [← Ny831.out] at ho; have _ := Q_ (IsS77.grown (qs77_0_ HI794.out) hg (IsS77.own_neS HI794.out HO_5.out (by decide))); have _ := Q_ (Kd.R_over' (pr_ HO806.out) (Kd.S_typed (ps_ HO_5.out)) (by decide) hg); have _ := Q_ (Kd.S_over' (ps_ HO809.out) (Kd.S_typed (ps_ HO_5.out)) (by decide) hg); have _ := Q_ (Kd.S_over' (ps_ HO814.out) (Kd.S_typed (ps_ HO_5.out)) (by decide) hg); have _ := Q_ (Kd.R_over' (pr_ HO819.out) (Kd.S_typed (ps_ HO_5.out)) (by decide) hg); have _ := Q_ (hb); have _ := Q_ (ho); clear HI794 HO806 HO809 HO814 HO819 HB HO_5 HO826 HO830; rename_i HI794 HO806 HO809 HO814 HO819 HB HO833; clear ho hb hg hat))
 go_roundg k1
 case measure => have := HK1.out; omega
 case rel => exact ⟨(y831), (wrap64 (x6_1 - 1)), (t820), (t821), el_, H', ⟨by have := HK1.out; omega⟩, ⟨ps_ (Kd.S_mono HO833.out (fun _ hk => trivial))⟩, ⟨qs77_0_ HI794.out⟩, ⟨qb1_ HB.out (IsS77.ge HI794.out)⟩⟩

end Go.Proofs.Ytlcpaebidnaolaa.Print
