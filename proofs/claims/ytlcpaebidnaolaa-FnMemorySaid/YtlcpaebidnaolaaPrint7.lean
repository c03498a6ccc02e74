-- Written by a program of this session (printx.py) out of the translation; Lean checks it.
import Derived.Test.YtlcpaebidnaolaaPrint0
import Derived.Test.YtlcpaebidnaolaaPrint1
import Derived.Test.YtlcpaebidnaolaaPrint2
import Derived.Test.YtlcpaebidnaolaaPrint3
import Derived.Test.YtlcpaebidnaolaaPrint4
import Derived.Test.YtlcpaebidnaolaaPrint5
import Derived.Test.YtlcpaebidnaolaaPrint6
namespace Go.Proofs.Ytlcpaebidnaolaa.Print
open Go.RowKit Go.Proofs.YtlcpaebidnaolaaW.PrintWords Go.Proofs.YtlcpaebidnaolaaW.PrintLast Go.Proofs.YtlcpaebidnaolaaW.PrintMore Go.Proofs.Ytlcpaebidnaolaa.Short
attribute [local go_sem] max2_int min2_int max_two min_two max_three min_three max_four min_four   -- for this text's walks alone
set_option linter.unusedVariables false
set_option maxHeartbeats 8000000
set_option maxRecDepth 100000
set_option linter.unusedSimpArgs false

/-! ### spec_l23Draw: function 44 -/
def spec_l23Draw.l0 : Nat → List (S61) → Int → List Int → Int → Int → Option ((List (S61)) × Int × Int)
 | 0, _, _, _, _, _ => none
 | k + 1, x3, x4, x1000, x1001, x1002 => if x4 > 0 then ((spec_l17Draw.f k x1000 x1001 x1002).bind fun bt339 => ((spec_l12Draw.f k x1000 bt339.2.2.1 bt339.2.2.2).bind fun bt348 => ((spec_l17Tags.f k x1000 bt348.2.1 bt348.2.2).bind fun bt353 => ((spec_PartHello.f k bt339.1 bt339.2.1 bt348.1 bt353.1).bind fun bt358 => ((spec_l1Below.f x1000 bt353.2.1 bt353.2.2 6).bind fun bt366 => ((spec_GivenUp.f k bt339.1 bt339.2.1 bt358.1 bt358.2.1).bind fun t369 => ((spec_l1Below.f x1000 bt366.2.1 bt366.2.2 40).bind fun bt372 => ((spec_Remember.f k x3 bt366.1 t369 bt372.1).bind fun t375 => (spec_l23Draw.l0 k t375 (wrap64 (x4 - 1)) x1000 bt372.2.1 bt372.2.2))))))))) else (some (x3, x1001, x1002))
def spec_l23Draw.f (k : Nat) (s0_0 : List Int) (s0_1 : Int) (s0_2 : Int) : Option ((List (S61)) × Int × Int) := (spec_l1Below.f s0_0 s0_1 s0_2 6).bind fun bt336 => (spec_l23Draw.l0 k (([] : List (S61))) bt336.1 s0_0 bt336.2.1 bt336.2.2)
theorem spec_l23Draw.mono_l : ∀ k, (∀ y0 y1 y2 y3 y4, LeO (spec_l23Draw.l0 k y0 y1 y2 y3 y4) (spec_l23Draw.l0 (k + 1) y0 y1 y2 y3 y4))
 | 0 => fun _ _ _ _ _ r h => by simp [spec_l23Draw.l0] at h
 | k + 1 => by
  have ih0 := spec_l23Draw.mono_l k
  ·intro y0 y1 y2 y3 y4
   unfold spec_l23Draw.l0
   repeat' first
   | (with_reducible exact ih0 _ _ _ _ _)
   | (with_reducible exact spec_GivenUp.mono _ _ _ _ _)
   | (with_reducible exact spec_PartHello.mono _ _ _ _ _)
   | (with_reducible exact spec_Remember.mono _ _ _ _ _)
   | (with_reducible exact spec_l12Draw.mono _ _ _ _)
   | (with_reducible exact spec_l17Draw.mono _ _ _ _)
   | (with_reducible exact spec_l17Tags.mono _ _ _ _)
   | (with_reducible exact LeO.refl _)
   | (with_reducible exact LeO.none _)
   | (with_reducible refine LeO.ite ?_ ?_)
   | (with_reducible refine LeO.bind ?_ (fun _ => ?_))
   | exact ih0 _ _ _ _ _
   | exact spec_GivenUp.mono _ _ _ _ _
   | exact spec_PartHello.mono _ _ _ _ _
   | exact spec_Remember.mono _ _ _ _ _
   | exact spec_l12Draw.mono _ _ _ _
   | exact spec_l17Draw.mono _ _ _ _
   | exact spec_l17Tags.mono _ _ _ _
   | exact LeO.none _
   | refine LeO.ite ?_ ?_
   | refine LeO.bind ?_ (fun _ => ?_)
theorem spec_l23Draw.mono : ∀ a0 a1 a2 k, LeO (spec_l23Draw.f k a0 a1 a2) (spec_l23Draw.f (k + 1) a0 a1 a2) := by
 intro a0 a1 a2 k
 have ih0 := spec_l23Draw.mono_l k
 unfold spec_l23Draw.f
 repeat' first
   | (with_reducible exact ih0 _ _ _ _ _)
   | (with_reducible exact spec_GivenUp.mono _ _ _ _ _)
   | (with_reducible exact spec_PartHello.mono _ _ _ _ _)
   | (with_reducible exact spec_Remember.mono _ _ _ _ _)
   | (with_reducible exact spec_l12Draw.mono _ _ _ _)
   | (with_reducible exact spec_l17Draw.mono _ _ _ _)
   | (with_reducible exact spec_l17Tags.mono _ _ _ _)
   | (with_reducible exact LeO.refl _)
   | (with_reducible exact LeO.none _)
   | (with_reducible refine LeO.ite ?_ ?_)
   | (with_reducible refine LeO.bind ?_ (fun _ => ?_))
   | exact ih0 _ _ _ _ _
   | exact spec_GivenUp.mono _ _ _ _ _
   | exact spec_PartHello.mono _ _ _ _ _
   | exact spec_Remember.mono _ _ _ _ _
   | exact spec_l12Draw.mono _ _ _ _
   | exact spec_l17Draw.mono _ _ _ _
   | exact spec_l17Tags.mono _ _ _ _
   | exact LeO.none _
   | refine LeO.ite ?_ ?_
   | refine LeO.bind ?_ (fun _ => ?_)
def spec_l23Draw.T6 : Bool × List (List Nat × List Nat) := (true, [([], []), ([], []), ([1], [1]), ([], []), ([3, 2], [3]), ([0, 2, 4, 4], [0, 2, 4]), ([5], [5]), ([6], [6]), ([6], [6]), ([], []), ([9, 7, 5, 0, 1, 2, 3, 4, 5, 6, 7, 9], [7, 9]), ([8, 10, 0, 1, 2, 3, 4, 5, 6, 7, 8, 9, 10], [8])])
def spec_l23Draw.B6 : List Nat := [0, 0, 2, 0, 14, 31, 63, 127, 127, 0, 767, 2047]
theorem spec_l23Draw.tab6 : rtab .any (opsOf Try.f44 6) = spec_l23Draw.T6 := by kernel_rfl
theorem spec_l23Draw.bits6 : waitsOk spec_l23Draw.T6.2 spec_l23Draw.B6 = true := by kernel_rfl
def spec_l23Draw.T7 : Bool × List (List Nat × List Nat) := (true, [([], []), ([], []), ([1], [1]), ([], []), ([], []), ([3, 4, 2], [3, 4]), ([], []), ([6, 5], [6]), ([0, 2, 5, 7, 7], [0, 2, 5, 7]), ([8, 8, 0, 1, 2, 3, 4, 5, 6, 7, 8], [0, 8])])
def spec_l23Draw.B7 : List Nat := [0, 0, 2, 0, 0, 30, 0, 126, 255, 511]
theorem spec_l23Draw.tab7 : rtab .any (opsOf Try.f44 7) = spec_l23Draw.T7 := by kernel_rfl
theorem spec_l23Draw.bits7 : waitsOk spec_l23Draw.T7.2 spec_l23Draw.B7 = true := by kernel_rfl
theorem spec_l23Draw.calls (k : Nat) (g : Nat) (s0_0 : List Int) (s0_1 : Int) (s0_2 : Int) (r1 : List (S61)) (r2 : Int) (r3 : Int) (w0 w : World) (hI : IsS77 w0 w g s0_0 s0_1 s0_2) (hB : Below w0.heap.size w0 w) (h : spec_l23Draw.f k s0_0 s0_1 s0_2 = some (r1, r2, r3)) :
  Calls Try.prog 44 #[.pointer (some ⟨g, 0, none⟩)] w fun e w' => ∃ v0_ : Value, e = .returned (v0_) ∧ Kd.S k61 61 w' w.heap.size (fun _ => True) v0_ r1 ∧ IsS77 w0 w' g s0_0 r2 r3 ∧ Below w0.heap.size w0 w' ∧ KeepBut w w' g none := by
 have hu71 := Try.underlying71
 have HI0 := Q_ hI
 have HK := Q_ (KeepBut.refl w g none)
 have HL := Q_ hB.size
 clear hI
 have HW0 := Q_ hB.size
 have HB := Q_ hB
 clear hB
 have H : ((spec_l1Below.f s0_0 s0_1 s0_2 6).bind fun bt336 => (spec_l23Draw.l0 k (([] : List (S61))) bt336.1 s0_0 bt336.2.1 bt336.2.2)) = some (r1, r2, r3) := h
 clear h
 obtain ⟨y333, hy333⟩ : ∃ y_ : List (S61), y_ = (([] : List (S61))) := ⟨_, rfl⟩
 replace H : ((spec_l1Below.f s0_0 s0_1 s0_2 6).bind fun bt336 => (spec_l23Draw.l0 k y333 bt336.1 s0_0 bt336.2.1 bt336.2.2)) = some (r1, r2, r3) := hb_ hy333 H
 have Ny333 := Q_ hy333
 clear hy333
 replace H := Option.bind_eq_some_iff.mp H
 obtain ⟨⟨t336, t337, t338⟩, A20, H⟩ := H
 replace H : (spec_l23Draw.l0 k y333 t336 s0_0 t337 t338) = some (r1, r2, r3) := H
 have A2 := Q_ A20
 clear A20
 have H' := Q_ H
 clear H
 go_enter Try.func44, Try.ntmps44
 go_wp2_with (first | ((with_reducible refine gate_dst (N := 8) rfl ?_); refine Kd.S_lit k61 _ 61 ?hg (N := 8) ?hd (xs := ([] : List (S61))) (inner := []) (ok := fun _ => True) (okp := fun _ => True) ?hr ?hp (fun _ hk => hk) trivial (Below.refl _ _) (Nat.le_refl _) (by simp) ?_; (case hd => rfl); (case hg => rfl); (case hr => first | (go_simp; done) | (go_simp; rfl)); (case hp => exact (Reps.none _ _)); intro v334 w3 ho4 hb hg_ hnew_; clear hg_ hnew_; (first | rw [← Ny333.out] at ho4 | (simp only [Int.reduceToNat] at ho4; rw [← Ny333.out] at ho4)); have _ := Q_ (Kd.S_lower ho4 (keep_size (w := w) (g := g) (row := none) (qk0_ HK.out))); have _ := Q_ (IsS77.below (qs77_0_ HI0.out) hb); have _ := Q_ (KeepBut.trans (qk0_ HK.out) (KeepBut.of_below hb g none) (.inl rfl)); have _ := Q_ (below_step (qb1_ HB.out (IsS77.ge HI0.out)) hb); clear HI0 HK HB; rename_i HO335 HI0 HK HB; clear hb ho4) | ((with_reducible refine gate_callee (f := 25) rfl ?_); refine gl_ (some 10) Try.func25 #[.pointer (some ⟨g, 0, none⟩), .int .i64 6] ?_; (with_reducible refine (spec_l1Below.calls g s0_0 s0_1 s0_2 6 t336 t337 t338 w0 _ ?side1 ?side2 A2.out).mono ?_); (case side1 => exact qs77_0_ HI0.out); (case side2 => exact qb1_ HB.out (IsS77.ge HI0.out)); rintro e w5 ⟨rfl, hi, hb, hk⟩; refine ⟨_, rfl, ?_⟩; have _ := Q_ (Kd.S_mono (Kd.S_keep (IsS77.apartS (show IsS77 w0 _ g s0_0 s0_1 s0_2 from qs77_0_ HI0.out) (ps_ HO335.out) (by decide)) hk (fun _ h => h.2)) (fun _ h => h.1)); have _ := Q_ (KeepBut.trans (qk0_ HK.out) hk (.inl rfl)); have _ := Q_ (hb); have _ := Q_ (hi); clear HO335 HK HB HI0; rename_i HO335 HK HB HI0; (try clear hb); (try clear hb2); (try clear hk); (try clear hi)))
 (try simp only [Act.put, List.setIfInBounds_toArray, List.set_cons_zero, List.set_cons_succ])
 go_loopg [3, 4] k (fun kq v3 v4 w' => ∃ (x3_1 : List (S61)) (x4_1 : Int) (x1001_1 : Int) (x1002_1 : Int), v4 = .int .i64 x4_1 ∧ Aside0 (spec_l23Draw.l0 kq x3_1 x4_1 s0_0 x1001_1 x1002_1 = some (r1, r2, r3)) ∧ Aside0 (kq ≤ k) ∧ Aside0 (Kd.S k61 61 w' w.heap.size (fun _ => True) v3 x3_1) ∧ Aside0 (IsS77 w0 w' g s0_0 x1001_1 x1002_1) ∧ Aside0 (KeepBut w w' g none) ∧ Aside0 (Below w0.heap.size w0 w'))
 case atStart => exact ⟨(y333), (t336), (t337), (t338), el_, H', ⟨Nat.le_refl _⟩, ⟨ps_ HO335.out⟩, ⟨qs77_0_ HI0.out⟩, ⟨qk0_ HK.out⟩, ⟨qb1_ HB.out (IsS77.ge HI0.out)⟩⟩
 clear H'
 try clear c2
 try clear p2
 try clear c4
 obtain ⟨x3_1, x4_1, x1001_1, x1002_1, rfl, HA, HK1, HO_3, HI0, HK, HB⟩ := hrel
 rcases gk with _ | k1
 ·exact absurd HA.out (by simp [spec_l23Draw.l0])
 have H := HA.out
 clear HA
 simp only [spec_l23Draw.l0] at H
 by_cases c6 : x4_1 > 0
 rotate_left
 ·rw [if_neg c6] at H
  have c6b0 : decide (0 < x4_1) = false := decide_eq_false c6
  clear c6
  simp only [Option.some.injEq, Prod.mk.injEq] at H
  obtain ⟨rfl, rfl, rfl⟩ := H
  go_wp2
  go_ret
  exact ⟨_, er_, ps_ HO_3.out, qs77_0_ HI0.out, qb1_ HB.out (IsS77.ge HI0.out), qk0_ HK.out⟩
 rw [if_pos c6] at H
 have c6b0 : decide (0 < x4_1) = true := decide_eq_true c6
 clear c6
 replace H := Option.bind_eq_some_iff.mp H
 obtain ⟨⟨t339, t342, t345, t346⟩, A70, H⟩ := H
 (try dsimp only at H)
 have A7 := Q_ A70
 clear A70
 replace H := Option.bind_eq_some_iff.mp H
 obtain ⟨⟨t348, t351, t352⟩, A80, H⟩ := H
 (try dsimp only at H)
 have A8 := Q_ A80
 clear A80
 replace H := Option.bind_eq_some_iff.mp H
 obtain ⟨⟨t353, t356, t357⟩, A90, H⟩ := H
 (try dsimp only at H)
 have A9 := Q_ A90
 clear A90
 replace H := Option.bind_eq_some_iff.mp H
 obtain ⟨⟨t358, t361, t364⟩, A100, H⟩ := H
 (try dsimp only at H)
 have A10 := Q_ A100
 clear A100
 replace H := Option.bind_eq_some_iff.mp H
 obtain ⟨⟨t366, t367, t368⟩, A110, H⟩ := H
 (try dsimp only at H)
 have A11 := Q_ A110
 clear A110
 replace H := Option.bind_eq_some_iff.mp H
 obtain ⟨t369, A120, H⟩ := H
 (try dsimp only at H)
 have A12 := Q_ A120
 clear A120
 replace H := Option.bind_eq_some_iff.mp H
 obtain ⟨⟨t372, t373, t374⟩, A130, H⟩ := H
 (try dsimp only at H)
 have A13 := Q_ A130
 clear A130
 replace H := Option.bind_eq_some_iff.mp H
 obtain ⟨t375, A140, H⟩ := H
 (try dsimp only at H)
 have A14 := Q_ A140
 clear A140
 have H' := Q_ H
 clear H
 try go_wp2_with (first | ((with_reducible refine gate_callee (f := 40) rfl ?_); refine gl_ (some 16) Try.func40 #[.pointer (some ⟨g, 0, none⟩)] ?_; (with_reducible refine (spec_l17Draw.calls k1 g s0_0 x1001_1 x1002_1 t339 t342 t345 t346 w0 _ ?side1 ?side2 A7.out).mono ?_); (case side1 => exact qs77_0_ HI0.out); (case side2 => exact qb1_ HB.out (IsS77.ge HI0.out)); rintro e w15 ⟨v340, v343, rfl, ho0, ho1, hi, hb, hk⟩; refine ⟨_, rfl, ?_⟩; have _ := Q_ (Kd.S_mono (Kd.S_told (Kd.S_oldK (IsS77.apartS (show IsS77 w0 _ g s0_0 x1001_1 x1002_1 from qs77_0_ HI0.out) (ps_ HO_3.out) (by decide)) hk) (Kd.R_base ho0)) (fun _ h_ => h_.1)); have _ := Q_ (Kd.R_lower ho0 (keep_size (w := w) (g := g) (row := none) (qk0_ HK.out))); have _ := Q_ (Kd.S_lower ho1 (keep_size (w := w) (g := g) (row := none) (qk0_ HK.out))); have _ := Q_ (KeepBut.trans (qk0_ HK.out) hk (.inl rfl)); have _ := Q_ (hb); have _ := Q_ (hi); clear HO_3 HK HB HI0; rename_i HO_3 HO341 HO344 HK HB HI0; (try clear hb); (try clear hb2); (try clear hk); (try clear hi); (try clear ho0); (try clear ho1)) | ((with_reducible refine gate_dst (N := 5) rfl ?_); refine box_event ?hg (N := 5) ?hd (cs := #[.slice none 0 0, .slice none 0 0]) (t := 71) ?hr ?_; (case hd => rfl); (case hg => rfl); (case hr => first | (go_simp; done) | (go_simp; rfl)); intro gb347 hg w16 hbox hb; have _ := Q_ (Kd.S_below (ps_ HO_3.out) hb); have _ := Q_ (Kd.R_below (pr_ HO341.out) hb); have _ := Q_ (Kd.S_below (ps_ HO344.out) hb); have _ := Q_ (IsS77.below (qs77_0_ HI0.out) hb); have _ := Q_ (KeepBut.trans (qk0_ HK.out) (KeepBut.of_below hb g none) (.inl rfl)); have _ := Q_ (below_step (qb1_ HB.out (IsS77.ge HI0.out)) hb); have BK347 := Q_ (hbox); have GW347 := Q_ ((by rw [hg]; exact (keep_size (w := w) (g := g) (row := none) (qk0_ HK.out)) : w.heap.size ≤ gb347)); have GE347 := Q_ (Nat.le_trans HW0.out GW347.out); have NB0_347 := Q_ ((by rw [hg]; exact Nat.ne_of_lt (IsS77.lt (show IsS77 w0 _ g s0_0 t345 t346 from qs77_0_ HI0.out)) : g ≠ gb347)); have NB347_0 := Q_ NB0_347.out.symm; clear HO_3 HO341 HO344 HI0 HK HB; rename_i HO_3 HO341 HO344 HI0 HK HB; clear hb hbox hg; obtain ⟨Ao17, co17, eo17⟩ := Kd.R_slice HO341.out; subst eo17; have hnb18 := NB347_0.out; have hnc18 := NB0_347.out; have hcz19 := bc2_ BK347.out; obtain ⟨Ao20, co20, eo20⟩ := Kd.S_slice HO344.out; subst eo20))
 have n0_ : Aside0 (Kd.S k61 61 ((w16.setCell ⟨gb347, 0, none⟩ (.slice Ao17 t339.length co17)).setCell ⟨gb347, 1, none⟩ (.slice Ao20 t342.length co20)) w.heap.size (fun k_ => some k_ ≠ (.slice Ao17 t339.length co17 : Value).ownBlock) u3 x3_1) := ⟨ps_ (Kd.S_mono (Kd.S_far (p := ⟨gb347, 1, none⟩) (Kd.S_far (p := ⟨gb347, 0, none⟩) (Kd.S_types HO_3.out BK347.out (by decide)) (fun _ hk => hk.2) (.slice Ao17 t339.length co17)) (fun _ hk => hk.2) (.slice Ao20 t342.length co20)) (fun _ hk => hk.1.2))⟩
 have n1_ : Aside0 (Kd.R (Kd.int .i64) 3 ((w16.setCell ⟨gb347, 0, none⟩ (.slice Ao17 t339.length co17)).setCell ⟨gb347, 1, none⟩ (.slice Ao20 t342.length co20)) w.heap.size (fun _ => True) (.slice Ao17 t339.length co17) t339) := ⟨pr_ (Kd.R_mono (rf2_ HO341.out BK347.out) (fun _ hk => trivial))⟩
 have n2_ : Aside0 (Kd.S k113 113 ((w16.setCell ⟨gb347, 0, none⟩ (.slice Ao17 t339.length co17)).setCell ⟨gb347, 1, none⟩ (.slice Ao20 t342.length co20)) w.heap.size (fun k_ => some k_ ≠ (.slice Ao17 t339.length co17 : Value).ownBlock) (.slice Ao20 t342.length co20) t342) := ⟨ps_ (sf2_ HO344.out BK347.out)⟩
 have n3_ : Aside0 (((w16.setCell ⟨gb347, 0, none⟩ (.slice Ao17 t339.length co17)).setCell ⟨gb347, 1, none⟩ (.slice Ao20 t342.length co20)).heap[gb347]? = some (.cells #[.slice Ao17 t339.length co17, .slice Ao20 t342.length co20] 71 (0, 0))) := ⟨pp_ BK347.out⟩
 have n4_ : Aside0 (IsS77 w0 ((w16.setCell ⟨gb347, 0, none⟩ (.slice Ao17 t339.length co17)).setCell ⟨gb347, 1, none⟩ (.slice Ao20 t342.length co20)) g s0_0 t345 t346) := ⟨qs77_1_ HI0.out NB0_347.out⟩
 have n5_ : Aside0 (KeepBut w ((w16.setCell ⟨gb347, 0, none⟩ (.slice Ao17 t339.length co17)).setCell ⟨gb347, 1, none⟩ (.slice Ao20 t342.length co20)) g none) := ⟨qk1_ HK.out GW347.out⟩
 have n6_ : Aside0 (Below w0.heap.size w0 ((w16.setCell ⟨gb347, 0, none⟩ (.slice Ao17 t339.length co17)).setCell ⟨gb347, 1, none⟩ (.slice Ao20 t342.length co20))) := ⟨qb2_ HB.out (IsS77.ge HI0.out) GE347.out⟩
 (try clear HO_3)
 (try clear HO341)
 (try clear HO344)
 (try clear BK347)
 (try clear HI0)
 (try clear HK)
 (try clear HB)
 generalize ((w16.setCell ⟨gb347, 0, none⟩ (.slice Ao17 t339.length co17)).setCell ⟨gb347, 1, none⟩ (.slice Ao20 t342.length co20)) = w21 at n0_ n1_ n2_ n3_ n4_ n5_ n6_ ⊢
 have HO_3 := n0_
 have HO341 := n1_
 have HO344 := n2_
 have BK347 := n3_
 have HI0 := n4_
 have HK := n5_
 have HB := n6_
 clear n0_ n1_ n2_ n3_ n4_ n5_ n6_
 have _ := Q_ (Kd.S_drew HO_3.out)
 have _ := Q_ (Kd.R_drew HO341.out)
 have _ := Q_ (Kd.S_drew HO344.out)
 have _ := Q_ (blk_drew BK347.out)
 have _ := Q_ (IsS77.drew HI0.out)
 have _ := Q_ (keep_drew HK.out)
 have _ := Q_ (below_drew1 HB.out)
 clear HO_3 HO341 HO344 BK347 HI0 HK HB
 rename_i HO_3 HO341 HO344 BK347 HI0 HK HB
 refine start_ (n := 12) (S := fun w' => w'.cell? ⟨gb347, 0, none⟩ = some (.slice Ao17 t339.length co17) ∧ w'.cell? ⟨gb347, 1, none⟩ = some (.slice Ao20 t342.length co20)) (ds := []) (tf_ 0 12) (by kernel_rfl) rfl rfl (sb_ BK347.out) (fun hHeld => ?_); refine with_tabW spec_l23Draw.tab6 spec_l23Draw.bits6 (fun HT_ HW_ => ?_)
 generalize w21.drew = w22 at HO_3 HO341 HO344 BK347 HI0 HK HB hHeld ⊢
 refine pu_ 1 (some 19) (tm_ 12 2) HT_ ?_
 refine pu_ 3 (some 21) (tm_ 12 10) HT_ ?_
 refine ta_ 0 (some 18) (tm_ 12 11) HT_ HW_ hHeld ?_
 refine join_ (σ := Value × Value × Value × Value × Nat) 2 #[true, true, true, true, true, true, true, true, true, true, false, false] (fun s_ => [(20, s_.1), (22, s_.2.1), (23, .tuple #[.agg #[s_.2.2.1, s_.2.2.2.1], .bool t364]), (6, .pointer (some ⟨s_.2.2.2.2, 0, none⟩)), (17, .tuple #[.agg #[s_.2.2.1, s_.2.2.2.1], .bool t364]), (24, .agg #[s_.2.2.1, s_.2.2.2.1]), (25, .bool t364)]) (fun s_ w' => (w'.cell? ⟨gb347, 0, none⟩ = some (.slice Ao17 t339.length co17) ∧ w'.cell? ⟨gb347, 1, none⟩ = some (.slice Ao20 t342.length co20)) ∧ (Kd.R (Kd.int .i64) 3 w' w.heap.size (fun k_ => some k_ ≠ (s_.1 : Value).ownBlock ∧ some k_ ≠ (s_.2.1 : Value).ownBlock ∧ some k_ ≠ (s_.2.2.1 : Value).ownBlock) (.slice Ao17 t339.length co17) t339) ∧ (Kd.S k113 113 w' w.heap.size (fun k_ => some k_ ≠ (.slice Ao17 t339.length co17 : Value).ownBlock ∧ some k_ ≠ (s_.1 : Value).ownBlock ∧ some k_ ≠ (s_.2.1 : Value).ownBlock ∧ some k_ ≠ (s_.2.2.1 : Value).ownBlock ∧ some k_ ≠ (s_.2.2.2.1 : Value).ownBlock) (.slice Ao20 t342.length co20) t342) ∧ (Kd.R (Kd.int .i64) 3 w' w.heap.size (fun k_ => some k_ ≠ (.slice Ao17 t339.length co17 : Value).ownBlock ∧ some k_ ≠ (s_.2.1 : Value).ownBlock ∧ some k_ ≠ (s_.2.2.1 : Value).ownBlock) s_.1 t348) ∧ (Kd.R (Kd.int .i64) 3 w' w.heap.size (fun k_ => some k_ ≠ (.slice Ao17 t339.length co17 : Value).ownBlock ∧ some k_ ≠ (s_.1 : Value).ownBlock ∧ some k_ ≠ (s_.2.2.1 : Value).ownBlock) s_.2.1 t353) ∧ (Kd.R (Kd.int .i64) 3 w' w.heap.size (fun k_ => some k_ ≠ (.slice Ao17 t339.length co17 : Value).ownBlock ∧ some k_ ≠ (s_.1 : Value).ownBlock ∧ some k_ ≠ (s_.2.1 : Value).ownBlock) s_.2.2.1 t358) ∧ (Kd.S k113 113 w' w.heap.size (fun k_ => some k_ ≠ (.slice Ao17 t339.length co17 : Value).ownBlock ∧ some k_ ≠ (.slice Ao20 t342.length co20 : Value).ownBlock ∧ some k_ ≠ (s_.1 : Value).ownBlock ∧ some k_ ≠ (s_.2.1 : Value).ownBlock ∧ some k_ ≠ (s_.2.2.1 : Value).ownBlock) s_.2.2.2.1 t361) ∧ (Kd.S k61 61 w' w.heap.size (fun k_ => some k_ ≠ (.slice Ao17 t339.length co17 : Value).ownBlock ∧ some k_ ≠ (s_.1 : Value).ownBlock ∧ some k_ ≠ (s_.2.1 : Value).ownBlock ∧ some k_ ≠ (s_.2.2.1 : Value).ownBlock) u3 x3_1) ∧ (w'.heap[gb347]? = some (.cells #[.slice Ao17 t339.length co17, .slice Ao20 t342.length co20] 71 (0, 0))) ∧ (w'.heap[s_.2.2.2.2]? = some (.cells #[.slice none 0 0, .slice none 0 0] 71 (0, 0))) ∧ (w.heap.size ≤ s_.2.2.2.2) ∧ (w0.heap.size ≤ s_.2.2.2.2) ∧ (g ≠ s_.2.2.2.2) ∧ (s_.2.2.2.2 ≠ g) ∧ (gb347 ≠ s_.2.2.2.2) ∧ (s_.2.2.2.2 ≠ gb347) ∧ (IsS77 w0 w' g s0_0 t356 t357) ∧ (KeepBut w w' g none) ∧ (Below w0.heap.size w0 w')) ?_ ?_
 rotate_left
 ·intro hCont
  refine two_ (i := 2) (j := 9) (Ni := some 20) (Nj := some 6) #[true, true, true, true, false, false, false, false, false, false, false, false] #[true, true, false, true, false, false, false, false, false, true, false, false] rfl rfl rfl rfl (two_of HT_.out (by kernel_rfl)) (by decide) (by decide) (fun K hK => ?_) (fun K hK => ?_)
  ·skip
   refine goes_ Try.func42 (by kernel_rfl) rfl #[.pointer (some ⟨g, 0, none⟩)] (by rfl) rfl rfl mp_ ?_
   with_reducible refine (spec_l12Draw.calls k1 g s0_0 t345 t346 t348 t351 t352 w0 _ ?side1 ?side2 A8.out).mono ?_
   (case side1 => exact qs77_1_ HI0.out NB0_347.out)
   (case side2 => exact qb2_ HB.out (IsS77.ge HI0.out) GE347.out)
   rintro e w23 ⟨v349, rfl, ho0, hi, hb, hk⟩
   refine ⟨_, rfl, ?_⟩
   have _ := Q_ (Kd.S_mono (Kd.S_told (Kd.S_oldK (IsS77.apartS (show IsS77 w0 _ g s0_0 t345 t346 from qs77_1_ HI0.out NB0_347.out) (ps_ HO_3.out) (by decide)) hk) (Kd.R_base ho0)) (fun _ h_ => h_.1))
   have _ := Q_ (Kd.R_mono (Kd.R_told (Kd.R_oldK (IsS77.apart (show IsS77 w0 _ g s0_0 t345 t346 from qs77_1_ HI0.out NB0_347.out) (pr_ HO341.out) (by decide)) hk) (Kd.R_base ho0)) (fun _ h_ => h_.1))
   have _ := Q_ (Kd.S_mono (Kd.S_told (Kd.S_oldK (IsS77.apartS (show IsS77 w0 _ g s0_0 t345 t346 from qs77_1_ HI0.out NB0_347.out) (ps_ HO344.out) (by decide)) hk) (Kd.R_base ho0)) (fun _ h_ => h_.1))
   have _ := Q_ (KeepBut.blk hk (g' := gb347) (o := .cells #[.slice Ao17 t339.length co17, .slice Ao20 t342.length co20] 71 (0, 0)) (pk_ BK347.out) NB347_0.out (by simp))
   have _ := Q_ (Kd.R_lower (Kd.R_new' ho0 (Kd.R_lt (pr_ HO341.out))) (keep_size (w := w) (g := g) (row := none) (qk1_ HK.out GW347.out)))
   have _ := Q_ (KeepBut.trans (qk1_ HK.out GW347.out) hk (.inl rfl))
   have _ := Q_ (hb)
   have _ := Q_ (hi)
   clear HO_3 HO341 HO344 BK347 HK HB HI0
   rename_i HO_3 HO341 HO344 BK347 HO350 HK HB HI0
   (try clear hb)
   (try clear hb2)
   (try clear hk)
   (try clear hi)
   (try clear ho0)
   refine hK.out _ _ (sb_ BK347.out) (fun hHeld => ?_)
   clear hK K
   refine no_ (some 20) ?_
   refine two_ (i := 4) (j := 9) (Ni := some 22) (Nj := some 6) #[true, true, true, true, true, false, false, false, false, false, false, false] #[true, true, true, true, false, false, false, false, false, true, false, false] rfl rfl rfl rfl (two_of HT_.out (by kernel_rfl)) (by decide) (by decide) (fun K hK => ?_) (fun K hK => ?_)
   ·skip
    refine goes_ Try.func26 (by kernel_rfl) rfl #[.pointer (some ⟨g, 0, none⟩)] (by rfl) rfl rfl mp_ ?_
    with_reducible refine (spec_l17Tags.calls k1 g s0_0 t351 t352 t353 t356 t357 w0 _ ?side1 ?side2 A9.out).mono ?_
    (case side1 => exact qs77_1_ HI0.out NB0_347.out)
    (case side2 => exact qb2_ HB.out (IsS77.ge HI0.out) GE347.out)
    rintro e w24 ⟨v354, rfl, ho0, hi, hb, hk⟩
    refine ⟨_, rfl, ?_⟩
    have _ := Q_ (Kd.S_mono (Kd.S_told (Kd.S_oldK (IsS77.apartS (show IsS77 w0 _ g s0_0 t351 t352 from qs77_1_ HI0.out NB0_347.out) (ps_ HO_3.out) (by decide)) hk) (Kd.R_base ho0)) (fun _ h_ => h_.1))
    have _ := Q_ (Kd.R_mono (Kd.R_told (Kd.R_oldK (IsS77.apart (show IsS77 w0 _ g s0_0 t351 t352 from qs77_1_ HI0.out NB0_347.out) (pr_ HO341.out) (by decide)) hk) (Kd.R_base ho0)) (fun _ h_ => h_.1))
    have _ := Q_ (Kd.S_mono (Kd.S_told (Kd.S_oldK (IsS77.apartS (show IsS77 w0 _ g s0_0 t351 t352 from qs77_1_ HI0.out NB0_347.out) (ps_ HO344.out) (by decide)) hk) (Kd.R_base ho0)) (fun _ h_ => h_.1))
    have _ := Q_ (KeepBut.blk hk (g' := gb347) (o := .cells #[.slice Ao17 t339.length co17, .slice Ao20 t342.length co20] 71 (0, 0)) (pk_ BK347.out) NB347_0.out (by simp))
    have _ := Q_ (Kd.R_mono (Kd.R_told (Kd.R_oldK (IsS77.apart (show IsS77 w0 _ g s0_0 t351 t352 from qs77_1_ HI0.out NB0_347.out) (pr_ HO350.out) (by decide)) hk) (Kd.R_base ho0)) (fun _ h_ => h_.1))
    have _ := Q_ (Kd.R_lower (Kd.R_new' (Kd.R_new' ho0 (Kd.R_lt (pr_ HO341.out))) (Kd.R_lt (pr_ HO350.out))) (keep_size (w := w) (g := g) (row := none) (qk1_ HK.out GW347.out)))
    have _ := Q_ (KeepBut.trans (qk1_ HK.out GW347.out) hk (.inl rfl))
    have _ := Q_ (hb)
    have _ := Q_ (hi)
    clear HO_3 HO341 HO344 BK347 HO350 HK HB HI0
    rename_i HO_3 HO341 HO344 BK347 HO350 HO355 HK HB HI0
    (try clear hb)
    (try clear hb2)
    (try clear hk)
    (try clear hi)
    (try clear ho0)
    obtain ⟨Ao25, co25, eo25⟩ := Kd.R_slice HO350.out
    (first | subst eo25 | (injection eo25 with f1_ f2_ f3_; have f4_ := f1_.symm; have f5_ := f3_.symm; clear f1_ f2_ f3_; subst f4_; subst f5_))
    obtain ⟨Ao26, co26, eo26⟩ := Kd.R_slice HO355.out
    (first | subst eo26 | (injection eo26 with f1_ f2_ f3_; have f4_ := f1_.symm; have f5_ := f3_.symm; clear f1_ f2_ f3_; subst f4_; subst f5_))
    refine hK.out _ _ (sb_ BK347.out) (fun hHeld => ?_)
    clear hK K
    refine no_ (some 22) ?_
    refine two_ (i := 5) (j := 9) (Ni := some 23) (Nj := some 6) #[true, true, true, true, true, true, false, false, false, false, false, false] #[true, true, true, true, true, false, false, false, false, true, false, false] rfl rfl rfl rfl (two_of HT_.out (by kernel_rfl)) (by decide) (by decide) (fun K hK => ?_) (fun K hK => ?_)
    ·skip
     refine goes_ Try.func56 (by kernel_rfl) rfl #[.agg #[.slice Ao17 t339.length co17, .slice Ao20 t342.length co20], .slice Ao25 t348.length co25, .slice Ao26 t353.length co26] (by rfl) rfl rfl mp_ ?_
     with_reducible refine (spec_PartHello.calls k1 _ _ t339 _ _ t342 _ _ t348 _ _ t353 t358 t361 t364 _ ?side1 ?side2 ?side3 ?side4 ?side5 ?side6 ?side7 ?side8 A10.out).mono ?_
     (case side1 => exact pc_ ((Kd.R_reads' HO341.out).2.2))
     (case side2 => exact (Kd.R_reads' HO341.out).2.1)
     (case side3 => exact pc_ ((Kd.S_reads' HO344.out).2.2))
     (case side4 => exact (Kd.S_reads' HO344.out).2.1)
     (case side5 => exact pc_ ((Kd.R_reads' HO350.out).2.2))
     (case side6 => exact (Kd.R_reads' HO350.out).2.1)
     (case side7 => exact pc_ ((Kd.R_reads' HO355.out).2.2))
     (case side8 => exact (Kd.R_reads' HO355.out).2.1)
     rintro e w27 ⟨v359, v362, rfl, ho0, ho1, hb⟩
     refine ⟨_, rfl, ?_⟩
     have _ := Q_ (Kd.S_elder' (ps_ HO_3.out) (Kd.R_base ho0) hb)
     have _ := Q_ (Kd.R_elder' (pr_ HO341.out) (Kd.R_base ho0) hb)
     have _ := Q_ (Kd.S_mono (Kd.S_told (Kd.S_told (Kd.S_old (ps_ HO344.out) hb) (Kd.R_base ho0)) (Kd.S_base ho1)) (fun _ h_ => h_.1))
     have _ := Q_ (Kd.R_elder' (pr_ HO350.out) (Kd.R_base ho0) hb)
     have _ := Q_ (Kd.R_elder' (pr_ HO355.out) (Kd.R_base ho0) hb)
     have _ := Q_ (Kd.R_lower (Kd.R_new' (Kd.R_new' (Kd.R_new' ho0 (Kd.R_lt (pr_ HO341.out))) (Kd.R_lt (pr_ HO350.out))) (Kd.R_lt (pr_ HO355.out))) (keep_size (w := w) (g := g) (row := none) (qk1_ HK.out GW347.out)))
     have _ := Q_ (Kd.S_lower (Kd.S_new' (Kd.S_new' (Kd.S_new' (Kd.S_new' ho1 (Kd.R_lt (pr_ HO341.out))) (Kd.S_lt (ps_ HO344.out))) (Kd.R_lt (pr_ HO350.out))) (Kd.R_lt (pr_ HO355.out))) (keep_size (w := w) (g := g) (row := none) (qk1_ HK.out GW347.out)))
     have _ := Q_ (IsS77.below (qs77_1_ HI0.out NB0_347.out) hb)
     have _ := Q_ (bb_ BK347.out hb)
     have _ := Q_ (KeepBut.trans (qk1_ HK.out GW347.out) (KeepBut.of_below hb g none) (.inl rfl))
     have _ := Q_ (below_step (qb2_ HB.out (IsS77.ge HI0.out) GE347.out) hb)
     clear HO_3 HO341 HO344 HO350 HO355 HI0 BK347 HK HB
     rename_i HO_3 HO341 HO344 HO350 HO355 HO360 HO363 HI0 BK347 HK HB
     (try clear hb)
     (try clear hb2)
     (try clear hk)
     (try clear hi)
     (try clear ho0)
     (try clear ho1)
     refine hK.out _ _ (sb_ BK347.out) (fun hHeld => ?_)
     clear hK K
     refine no_ (some 23) ?_
     refine pu_ 6 (some 17) (tf_ 7 12) HT_ ?_
     refine pu_ 7 (some 24) (tf_ 8 12) HT_ ?_
     refine pu_ 8 (some 25) (tf_ 9 12) HT_ ?_
     refine on_ 9 (some 6) (tf_ 10 12) HT_ (fun K hK => ?_)
     refine box_step ?hg (N := 6) ?hd (cs := #[.slice none 0 0, .slice none 0 0]) (t := 71) ?hr ?_; (case hd => rfl); (case hg => rfl); (case hr => first | (go_simp; done) | (go_simp; rfl))
     intro gb365 hg w28 hbox hb
     have _ := Q_ (Kd.S_below (ps_ HO_3.out) hb)
     have _ := Q_ (Kd.R_below (pr_ HO341.out) hb)
     have _ := Q_ (Kd.S_below (ps_ HO344.out) hb)
     have _ := Q_ (Kd.R_below (pr_ HO350.out) hb)
     have _ := Q_ (Kd.R_below (pr_ HO355.out) hb)
     have _ := Q_ (Kd.R_below (pr_ HO360.out) hb)
     have _ := Q_ (Kd.S_below (ps_ HO363.out) hb)
     have _ := Q_ (IsS77.below (qs77_1_ HI0.out NB0_347.out) hb)
     have _ := Q_ (bb_ BK347.out hb)
     have _ := Q_ (KeepBut.trans (qk1_ HK.out GW347.out) (KeepBut.of_below hb g none) (.inl rfl))
     have _ := Q_ (below_step (qb2_ HB.out (IsS77.ge HI0.out) GE347.out) hb)
     have _ := Q_ (hbox)
     have _ := Q_ ((by rw [hg]; exact (keep_size (w := w) (g := g) (row := none) (qk1_ HK.out GW347.out)) : w.heap.size ≤ gb365))
     have _ := Q_ ((Nat.le_trans HW0.out (by rw [hg]; exact (keep_size (w := w) (g := g) (row := none) (qk1_ HK.out GW347.out)) : w.heap.size ≤ gb365) : w0.heap.size ≤ gb365))
     have _ := Q_ ((by rw [hg]; exact Nat.ne_of_lt (blk_lt (pk_ BK347.out)) : gb347 ≠ gb365))
     have _ := Q_ ((by rw [hg]; exact Nat.ne_of_gt (blk_lt (pk_ BK347.out)) : gb365 ≠ gb347))
     have _ := Q_ ((by rw [hg]; exact Nat.ne_of_lt (IsS77.lt (show IsS77 w0 _ g s0_0 t356 t357 from qs77_1_ HI0.out NB0_347.out)) : g ≠ gb365))
     have _ := Q_ ((by rw [hg]; exact Nat.ne_of_gt (IsS77.lt (show IsS77 w0 _ g s0_0 t356 t357 from qs77_1_ HI0.out NB0_347.out)) : gb365 ≠ g))
     clear HO_3 HO341 HO344 HO350 HO355 HO360 HO363 HI0 BK347 HK HB
     rename_i HO_3 HO341 HO344 HO350 HO355 HO360 HO363 HI0 BK347 HK HB BK365 GW365 GE365 NB347_365 NB365_347 NB0_365 NB365_0
     clear hb hbox hg
     refine hK.out _ _ (sb_ BK347.out) (fun hHeld => ?_)
     clear hK K
     refine no_ (some 6) ?_
     exact norm_ (by simp only [putAll, Act.put, List.setIfInBounds_toArray, List.set_cons_zero, List.set_cons_succ]) (hCont (.slice Ao25 t348.length co25, .slice Ao26 t353.length co26, v359, v362, gb365) _ ⟨hHeld, (by (with_reducible repeat (first | apply Kd.R_alloc | apply Kd.R_drewN | apply Kd.R_drew)); exact Kd.R_mono HO341.out (fun _ hk => ⟨hk.1.1.2, ⟨hk.1.2, hk.2⟩⟩)), (by (with_reducible repeat (first | apply Kd.S_alloc | apply Kd.S_drewN | apply Kd.S_drew)); exact Kd.S_mono HO344.out (fun _ hk => ⟨hk.1.1.1.1, ⟨hk.1.1.1.2, ⟨hk.1.1.2, ⟨hk.1.2, hk.2⟩⟩⟩⟩)), (by (with_reducible repeat (first | apply Kd.R_alloc | apply Kd.R_drewN | apply Kd.R_drew)); exact Kd.R_mono HO350.out (fun _ hk => ⟨hk.1.1.2, ⟨hk.1.2, hk.2⟩⟩)), (by (with_reducible repeat (first | apply Kd.R_alloc | apply Kd.R_drewN | apply Kd.R_drew)); exact Kd.R_mono HO355.out (fun _ hk => ⟨hk.1.1.2, ⟨hk.1.2, hk.2⟩⟩)), (by (with_reducible repeat (first | apply Kd.R_alloc | apply Kd.R_drewN | apply Kd.R_drew)); exact Kd.R_mono HO360.out (fun _ hk => ⟨hk.1.1.2, ⟨hk.1.2, hk.2⟩⟩)), (by (with_reducible repeat (first | apply Kd.S_alloc | apply Kd.S_drewN | apply Kd.S_drew)); exact Kd.S_mono HO363.out (fun _ hk => ⟨hk.1.1.1.2, ⟨hk.1.1.2, ⟨hk.1.2, ⟨hk.2, hk.1.1.1.1⟩⟩⟩⟩)), (by (with_reducible repeat (first | apply Kd.S_alloc | apply Kd.S_drewN | apply Kd.S_drew)); exact Kd.S_mono HO_3.out (fun _ hk => ⟨hk.1.1.1, ⟨hk.1.1.2, ⟨hk.1.2, hk.2⟩⟩⟩)), (pk_ BK347.out), (pk_ BK365.out), GW365.out, GE365.out, NB0_365.out, NB365_0.out, NB347_365.out, NB365_347.out, (qs77_2_ HI0.out NB0_347.out NB0_365.out), (qk2_ HK.out GW347.out GW365.out), (qb3_ HB.out (IsS77.ge HI0.out) GE347.out GE365.out)⟩)
    ·skip
     refine box_step ?hg (N := 6) ?hd (cs := #[.slice none 0 0, .slice none 0 0]) (t := 71) ?hr ?_; (case hd => rfl); (case hg => rfl); (case hr => first | (go_simp; done) | (go_simp; rfl))
     intro gb365 hg w25 hbox hb
     have _ := Q_ (Kd.S_below (ps_ HO_3.out) hb)
     have _ := Q_ (Kd.R_below (pr_ HO341.out) hb)
     have _ := Q_ (Kd.S_below (ps_ HO344.out) hb)
     have _ := Q_ (Kd.R_below (pr_ HO350.out) hb)
     have _ := Q_ (Kd.R_below (pr_ HO355.out) hb)
     have _ := Q_ (IsS77.below (qs77_1_ HI0.out NB0_347.out) hb)
     have _ := Q_ (bb_ BK347.out hb)
     have _ := Q_ (KeepBut.trans (qk1_ HK.out GW347.out) (KeepBut.of_below hb g none) (.inl rfl))
     have _ := Q_ (below_step (qb2_ HB.out (IsS77.ge HI0.out) GE347.out) hb)
     have _ := Q_ (hbox)
     have _ := Q_ ((by rw [hg]; exact (keep_size (w := w) (g := g) (row := none) (qk1_ HK.out GW347.out)) : w.heap.size ≤ gb365))
     have _ := Q_ ((Nat.le_trans HW0.out (by rw [hg]; exact (keep_size (w := w) (g := g) (row := none) (qk1_ HK.out GW347.out)) : w.heap.size ≤ gb365) : w0.heap.size ≤ gb365))
     have _ := Q_ ((by rw [hg]; exact Nat.ne_of_lt (blk_lt (pk_ BK347.out)) : gb347 ≠ gb365))
     have _ := Q_ ((by rw [hg]; exact Nat.ne_of_gt (blk_lt (pk_ BK347.out)) : gb365 ≠ gb347))
     have _ := Q_ ((by rw [hg]; exact Nat.ne_of_lt (IsS77.lt (show IsS77 w0 _ g s0_0 t356 t357 from qs77_1_ HI0.out NB0_347.out)) : g ≠ gb365))
     have _ := Q_ ((by rw [hg]; exact Nat.ne_of_gt (IsS77.lt (show IsS77 w0 _ g s0_0 t356 t357 from qs77_1_ HI0.out NB0_347.out)) : gb365 ≠ g))
     clear HO_3 HO341 HO344 HO350 HO355 HI0 BK347 HK HB
     rename_i HO_3 HO341 HO344 HO350 HO355 HI0 BK347 HK HB BK365 GW365 GE365 NB347_365 NB365_347 NB0_365 NB365_0
     clear hb hbox hg
     obtain ⟨Ao26, co26, eo26⟩ := Kd.R_slice HO350.out
     (first | subst eo26 | (injection eo26 with f1_ f2_ f3_; have f4_ := f1_.symm; have f5_ := f3_.symm; clear f1_ f2_ f3_; subst f4_; subst f5_))
     obtain ⟨Ao27, co27, eo27⟩ := Kd.R_slice HO355.out
     (first | subst eo27 | (injection eo27 with f1_ f2_ f3_; have f4_ := f1_.symm; have f5_ := f3_.symm; clear f1_ f2_ f3_; subst f4_; subst f5_))
     refine hK.out _ _ (sb_ BK347.out) (fun hHeld => ?_)
     clear hK K
     refine no_ (some 6) ?_
     refine on_ 5 (some 23) (tm_ 12 575) HT_ (fun K hK => ?_)
     refine goes_ Try.func56 (by kernel_rfl) rfl #[.agg #[.slice Ao17 t339.length co17, .slice Ao20 t342.length co20], .slice Ao26 t348.length co26, .slice Ao27 t353.length co27] (by rfl) rfl rfl mp_ ?_
     with_reducible refine (spec_PartHello.calls k1 _ _ t339 _ _ t342 _ _ t348 _ _ t353 t358 t361 t364 _ ?side1 ?side2 ?side3 ?side4 ?side5 ?side6 ?side7 ?side8 A10.out).mono ?_
     (case side1 => exact pc_ ((Kd.R_reads' HO341.out).2.2))
     (case side2 => exact (Kd.R_reads' HO341.out).2.1)
     (case side3 => exact pc_ ((Kd.S_reads' HO344.out).2.2))
     (case side4 => exact (Kd.S_reads' HO344.out).2.1)
     (case side5 => exact pc_ ((Kd.R_reads' HO350.out).2.2))
     (case side6 => exact (Kd.R_reads' HO350.out).2.1)
     (case side7 => exact pc_ ((Kd.R_reads' HO355.out).2.2))
     (case side8 => exact (Kd.R_reads' HO355.out).2.1)
     rintro e w28 ⟨v359, v362, rfl, ho0, ho1, hb⟩
     refine ⟨_, rfl, ?_⟩
     have _ := Q_ (Kd.S_elder' (ps_ HO_3.out) (Kd.R_base ho0) hb)
     have _ := Q_ (Kd.R_elder' (pr_ HO341.out) (Kd.R_base ho0) hb)
     have _ := Q_ (Kd.S_mono (Kd.S_told (Kd.S_told (Kd.S_old (ps_ HO344.out) hb) (Kd.R_base ho0)) (Kd.S_base ho1)) (fun _ h_ => h_.1))
     have _ := Q_ (Kd.R_elder' (pr_ HO350.out) (Kd.R_base ho0) hb)
     have _ := Q_ (Kd.R_elder' (pr_ HO355.out) (Kd.R_base ho0) hb)
     have _ := Q_ (Kd.R_lower (Kd.R_new' (Kd.R_new' (Kd.R_new' ho0 (Kd.R_lt (pr_ HO341.out))) (Kd.R_lt (pr_ HO350.out))) (Kd.R_lt (pr_ HO355.out))) (keep_size (w := w) (g := g) (row := none) (qk2_ HK.out GW347.out GW365.out)))
     have _ := Q_ (Kd.S_lower (Kd.S_new' (Kd.S_new' (Kd.S_new' (Kd.S_new' ho1 (Kd.R_lt (pr_ HO341.out))) (Kd.S_lt (ps_ HO344.out))) (Kd.R_lt (pr_ HO350.out))) (Kd.R_lt (pr_ HO355.out))) (keep_size (w := w) (g := g) (row := none) (qk2_ HK.out GW347.out GW365.out)))
     have _ := Q_ (IsS77.below (qs77_2_ HI0.out NB0_347.out NB0_365.out) hb)
     have _ := Q_ (bb_ BK347.out hb)
     have _ := Q_ (bb_ BK365.out hb)
     have _ := Q_ (KeepBut.trans (qk2_ HK.out GW347.out GW365.out) (KeepBut.of_below hb g none) (.inl rfl))
     have _ := Q_ (below_step (qb3_ HB.out (IsS77.ge HI0.out) GE347.out GE365.out) hb)
     clear HO_3 HO341 HO344 HO350 HO355 HI0 BK347 BK365 HK HB
     rename_i HO_3 HO341 HO344 HO350 HO355 HO360 HO363 HI0 BK347 BK365 HK HB
     (try clear hb)
     (try clear hb2)
     (try clear hk)
     (try clear hi)
     (try clear ho0)
     (try clear ho1)
     refine hK.out _ _ (sb_ BK347.out) (fun hHeld => ?_)
     clear hK K
     refine no_ (some 23) ?_
     refine pu_ 6 (some 17) (tm_ 12 639) HT_ ?_
     refine pu_ 7 (some 24) (tm_ 12 767) HT_ ?_
     refine pu_ 8 (some 25) (tf_ 10 12) HT_ ?_
     exact norm_ (by simp only [putAll, Act.put, List.setIfInBounds_toArray, List.set_cons_zero, List.set_cons_succ]) (hCont (.slice Ao26 t348.length co26, .slice Ao27 t353.length co27, v359, v362, gb365) _ ⟨hHeld, (by (with_reducible repeat (first | apply Kd.R_alloc | apply Kd.R_drewN | apply Kd.R_drew)); exact Kd.R_mono HO341.out (fun _ hk => ⟨hk.1.1.2, ⟨hk.1.2, hk.2⟩⟩)), (by (with_reducible repeat (first | apply Kd.S_alloc | apply Kd.S_drewN | apply Kd.S_drew)); exact Kd.S_mono HO344.out (fun _ hk => ⟨hk.1.1.1.1, ⟨hk.1.1.1.2, ⟨hk.1.1.2, ⟨hk.1.2, hk.2⟩⟩⟩⟩)), (by (with_reducible repeat (first | apply Kd.R_alloc | apply Kd.R_drewN | apply Kd.R_drew)); exact Kd.R_mono HO350.out (fun _ hk => ⟨hk.1.1.2, ⟨hk.1.2, hk.2⟩⟩)), (by (with_reducible repeat (first | apply Kd.R_alloc | apply Kd.R_drewN | apply Kd.R_drew)); exact Kd.R_mono HO355.out (fun _ hk => ⟨hk.1.1.2, ⟨hk.1.2, hk.2⟩⟩)), (by (with_reducible repeat (first | apply Kd.R_alloc | apply Kd.R_drewN | apply Kd.R_drew)); exact Kd.R_mono HO360.out (fun _ hk => ⟨hk.1.1.2, ⟨hk.1.2, hk.2⟩⟩)), (by (with_reducible repeat (first | apply Kd.S_alloc | apply Kd.S_drewN | apply Kd.S_drew)); exact Kd.S_mono HO363.out (fun _ hk => ⟨hk.1.1.1.2, ⟨hk.1.1.2, ⟨hk.1.2, ⟨hk.2, hk.1.1.1.1⟩⟩⟩⟩)), (by (with_reducible repeat (first | apply Kd.S_alloc | apply Kd.S_drewN | apply Kd.S_drew)); exact Kd.S_mono HO_3.out (fun _ hk => ⟨hk.1.1.1, ⟨hk.1.1.2, ⟨hk.1.2, hk.2⟩⟩⟩)), (pk_ BK347.out), (pk_ BK365.out), GW365.out, GE365.out, NB0_365.out, NB365_0.out, NB347_365.out, NB365_347.out, (qs77_2_ HI0.out NB0_347.out NB0_365.out), (qk2_ HK.out GW347.out GW365.out), (qb3_ HB.out (IsS77.ge HI0.out) GE347.out GE365.out)⟩)
   ·skip
    refine box_step ?hg (N := 6) ?hd (cs := #[.slice none 0 0, .slice none 0 0]) (t := 71) ?hr ?_; (case hd => rfl); (case hg => rfl); (case hr => first | (go_simp; done) | (go_simp; rfl))
    intro gb365 hg w24 hbox hb
    have _ := Q_ (Kd.S_below (ps_ HO_3.out) hb)
    have _ := Q_ (Kd.R_below (pr_ HO341.out) hb)
    have _ := Q_ (Kd.S_below (ps_ HO344.out) hb)
    have _ := Q_ (Kd.R_below (pr_ HO350.out) hb)
    have _ := Q_ (IsS77.below (qs77_1_ HI0.out NB0_347.out) hb)
    have _ := Q_ (bb_ BK347.out hb)
    have _ := Q_ (KeepBut.trans (qk1_ HK.out GW347.out) (KeepBut.of_below hb g none) (.inl rfl))
    have _ := Q_ (below_step (qb2_ HB.out (IsS77.ge HI0.out) GE347.out) hb)
    have _ := Q_ (hbox)
    have _ := Q_ ((by rw [hg]; exact (keep_size (w := w) (g := g) (row := none) (qk1_ HK.out GW347.out)) : w.heap.size ≤ gb365))
    have _ := Q_ ((Nat.le_trans HW0.out (by rw [hg]; exact (keep_size (w := w) (g := g) (row := none) (qk1_ HK.out GW347.out)) : w.heap.size ≤ gb365) : w0.heap.size ≤ gb365))
    have _ := Q_ ((by rw [hg]; exact Nat.ne_of_lt (blk_lt (pk_ BK347.out)) : gb347 ≠ gb365))
    have _ := Q_ ((by rw [hg]; exact Nat.ne_of_gt (blk_lt (pk_ BK347.out)) : gb365 ≠ gb347))
    have _ := Q_ ((by rw [hg]; exact Nat.ne_of_lt (IsS77.lt (show IsS77 w0 _ g s0_0 t351 t352 from qs77_1_ HI0.out NB0_347.out)) : g ≠ gb365))
    have _ := Q_ ((by rw [hg]; exact Nat.ne_of_gt (IsS77.lt (show IsS77 w0 _ g s0_0 t351 t352 from qs77_1_ HI0.out NB0_347.out)) : gb365 ≠ g))
    clear HO_3 HO341 HO344 HO350 HI0 BK347 HK HB
    rename_i HO_3 HO341 HO344 HO350 HI0 BK347 HK HB BK365 GW365 GE365 NB347_365 NB365_347 NB0_365 NB365_0
    clear hb hbox hg
    refine hK.out _ _ (sb_ BK347.out) (fun hHeld => ?_)
    clear hK K
    refine no_ (some 6) ?_
    refine on_ 4 (some 22) (tm_ 12 543) HT_ (fun K hK => ?_)
    refine goes_ Try.func26 (by kernel_rfl) rfl #[.pointer (some ⟨g, 0, none⟩)] (by rfl) rfl rfl mp_ ?_
    with_reducible refine (spec_l17Tags.calls k1 g s0_0 t351 t352 t353 t356 t357 w0 _ ?side1 ?side2 A9.out).mono ?_
    (case side1 => exact qs77_2_ HI0.out NB0_347.out NB0_365.out)
    (case side2 => exact qb3_ HB.out (IsS77.ge HI0.out) GE347.out GE365.out)
    rintro e w25 ⟨v354, rfl, ho0, hi, hb, hk⟩
    refine ⟨_, rfl, ?_⟩
    have _ := Q_ (Kd.S_mono (Kd.S_told (Kd.S_oldK (IsS77.apartS (show IsS77 w0 _ g s0_0 t351 t352 from qs77_2_ HI0.out NB0_347.out NB0_365.out) (ps_ HO_3.out) (by decide)) hk) (Kd.R_base ho0)) (fun _ h_ => h_.1))
    have _ := Q_ (Kd.R_mono (Kd.R_told (Kd.R_oldK (IsS77.apart (show IsS77 w0 _ g s0_0 t351 t352 from qs77_2_ HI0.out NB0_347.out NB0_365.out) (pr_ HO341.out) (by decide)) hk) (Kd.R_base ho0)) (fun _ h_ => h_.1))
    have _ := Q_ (Kd.S_mono (Kd.S_told (Kd.S_oldK (IsS77.apartS (show IsS77 w0 _ g s0_0 t351 t352 from qs77_2_ HI0.out NB0_347.out NB0_365.out) (ps_ HO344.out) (by decide)) hk) (Kd.R_base ho0)) (fun _ h_ => h_.1))
    have _ := Q_ (KeepBut.blk hk (g' := gb347) (o := .cells #[.slice Ao17 t339.length co17, .slice Ao20 t342.length co20] 71 (0, 0)) (pk_ BK347.out) NB347_0.out (by simp))
    have _ := Q_ (Kd.R_mono (Kd.R_told (Kd.R_oldK (IsS77.apart (show IsS77 w0 _ g s0_0 t351 t352 from qs77_2_ HI0.out NB0_347.out NB0_365.out) (pr_ HO350.out) (by decide)) hk) (Kd.R_base ho0)) (fun _ h_ => h_.1))
    have _ := Q_ (KeepBut.blk hk (g' := gb365) (o := .cells #[.slice none 0 0, .slice none 0 0] 71 (0, 0)) (pk_ BK365.out) NB365_0.out (by simp))
    have _ := Q_ (Kd.R_lower (Kd.R_new' (Kd.R_new' ho0 (Kd.R_lt (pr_ HO341.out))) (Kd.R_lt (pr_ HO350.out))) (keep_size (w := w) (g := g) (row := none) (qk2_ HK.out GW347.out GW365.out)))
    have _ := Q_ (KeepBut.trans (qk2_ HK.out GW347.out GW365.out) hk (.inl rfl))
    have _ := Q_ (hb)
    have _ := Q_ (hi)
    clear HO_3 HO341 HO344 BK347 HO350 BK365 HK HB HI0
    rename_i HO_3 HO341 HO344 BK347 HO350 BK365 HO355 HK HB HI0
    (try clear hb)
    (try clear hb2)
    (try clear hk)
    (try clear hi)
    (try clear ho0)
    obtain ⟨Ao26, co26, eo26⟩ := Kd.R_slice HO350.out
    (first | subst eo26 | (injection eo26 with f1_ f2_ f3_; have f4_ := f1_.symm; have f5_ := f3_.symm; clear f1_ f2_ f3_; subst f4_; subst f5_))
    obtain ⟨Ao27, co27, eo27⟩ := Kd.R_slice HO355.out
    (first | subst eo27 | (injection eo27 with f1_ f2_ f3_; have f4_ := f1_.symm; have f5_ := f3_.symm; clear f1_ f2_ f3_; subst f4_; subst f5_))
    refine hK.out _ _ (sb_ BK347.out) (fun hHeld => ?_)
    clear hK K
    refine no_ (some 22) ?_
    refine on_ 5 (some 23) (tm_ 12 575) HT_ (fun K hK => ?_)
    refine goes_ Try.func56 (by kernel_rfl) rfl #[.agg #[.slice Ao17 t339.length co17, .slice Ao20 t342.length co20], .slice Ao26 t348.length co26, .slice Ao27 t353.length co27] (by rfl) rfl rfl mp_ ?_
    with_reducible refine (spec_PartHello.calls k1 _ _ t339 _ _ t342 _ _ t348 _ _ t353 t358 t361 t364 _ ?side1 ?side2 ?side3 ?side4 ?side5 ?side6 ?side7 ?side8 A10.out).mono ?_
    (case side1 => exact pc_ ((Kd.R_reads' HO341.out).2.2))
    (case side2 => exact (Kd.R_reads' HO341.out).2.1)
    (case side3 => exact pc_ ((Kd.S_reads' HO344.out).2.2))
    (case side4 => exact (Kd.S_reads' HO344.out).2.1)
    (case side5 => exact pc_ ((Kd.R_reads' HO350.out).2.2))
    (case side6 => exact (Kd.R_reads' HO350.out).2.1)
    (case side7 => exact pc_ ((Kd.R_reads' HO355.out).2.2))
    (case side8 => exact (Kd.R_reads' HO355.out).2.1)
    rintro e w28 ⟨v359, v362, rfl, ho0, ho1, hb⟩
    refine ⟨_, rfl, ?_⟩
    have _ := Q_ (Kd.S_elder' (ps_ HO_3.out) (Kd.R_base ho0) hb)
    have _ := Q_ (Kd.R_elder' (pr_ HO341.out) (Kd.R_base ho0) hb)
    have _ := Q_ (Kd.S_mono (Kd.S_told (Kd.S_told (Kd.S_old (ps_ HO344.out) hb) (Kd.R_base ho0)) (Kd.S_base ho1)) (fun _ h_ => h_.1))
    have _ := Q_ (Kd.R_elder' (pr_ HO350.out) (Kd.R_base ho0) hb)
    have _ := Q_ (Kd.R_elder' (pr_ HO355.out) (Kd.R_base ho0) hb)
    have _ := Q_ (Kd.R_lower (Kd.R_new' (Kd.R_new' (Kd.R_new' ho0 (Kd.R_lt (pr_ HO341.out))) (Kd.R_lt (pr_ HO350.out))) (Kd.R_lt (pr_ HO355.out))) (keep_size (w := w) (g := g) (row := none) (qk2_ HK.out GW347.out GW365.out)))
    have _ := Q_ (Kd.S_lower (Kd.S_new' (Kd.S_new' (Kd.S_new' (Kd.S_new' ho1 (Kd.R_lt (pr_ HO341.out))) (Kd.S_lt (ps_ HO344.out))) (Kd.R_lt (pr_ HO350.out))) (Kd.R_lt (pr_ HO355.out))) (keep_size (w := w) (g := g) (row := none) (qk2_ HK.out GW347.out GW365.out)))
    have _ := Q_ (IsS77.below (qs77_2_ HI0.out NB0_347.out NB0_365.out) hb)
    have _ := Q_ (bb_ BK347.out hb)
    have _ := Q_ (bb_ BK365.out hb)
    have _ := Q_ (KeepBut.trans (qk2_ HK.out GW347.out GW365.out) (KeepBut.of_below hb g none) (.inl rfl))
    have _ := Q_ (below_step (qb3_ HB.out (IsS77.ge HI0.out) GE347.out GE365.out) hb)
    clear HO_3 HO341 HO344 HO350 HO355 HI0 BK347 BK365 HK HB
    rename_i HO_3 HO341 HO344 HO350 HO355 HO360 HO363 HI0 BK347 BK365 HK HB
    (try clear hb)
    (try clear hb2)
    (try clear hk)
    (try clear hi)
    (try clear ho0)
    (try clear ho1)
    refine hK.out _ _ (sb_ BK347.out) (fun hHeld => ?_)
    clear hK K
    refine no_ (some 23) ?_
    refine pu_ 6 (some 17) (tm_ 12 639) HT_ ?_
    refine pu_ 7 (some 24) (tm_ 12 767) HT_ ?_
    refine pu_ 8 (some 25) (tf_ 10 12) HT_ ?_
    exact norm_ (by simp only [putAll, Act.put, List.setIfInBounds_toArray, List.set_cons_zero, List.set_cons_succ]) (hCont (.slice Ao26 t348.length co26, .slice Ao27 t353.length co27, v359, v362, gb365) _ ⟨hHeld, (by (with_reducible repeat (first | apply Kd.R_alloc | apply Kd.R_drewN | apply Kd.R_drew)); exact Kd.R_mono HO341.out (fun _ hk => ⟨hk.1.1.2, ⟨hk.1.2, hk.2⟩⟩)), (by (with_reducible repeat (first | apply Kd.S_alloc | apply Kd.S_drewN | apply Kd.S_drew)); exact Kd.S_mono HO344.out (fun _ hk => ⟨hk.1.1.1.1, ⟨hk.1.1.1.2, ⟨hk.1.1.2, ⟨hk.1.2, hk.2⟩⟩⟩⟩)), (by (with_reducible repeat (first | apply Kd.R_alloc | apply Kd.R_drewN | apply Kd.R_drew)); exact Kd.R_mono HO350.out (fun _ hk => ⟨hk.1.1.2, ⟨hk.1.2, hk.2⟩⟩)), (by (with_reducible repeat (first | apply Kd.R_alloc | apply Kd.R_drewN | apply Kd.R_drew)); exact Kd.R_mono HO355.out (fun _ hk => ⟨hk.1.1.2, ⟨hk.1.2, hk.2⟩⟩)), (by (with_reducible repeat (first | apply Kd.R_alloc | apply Kd.R_drewN | apply Kd.R_drew)); exact Kd.R_mono HO360.out (fun _ hk => ⟨hk.1.1.2, ⟨hk.1.2, hk.2⟩⟩)), (by (with_reducible repeat (first | apply Kd.S_alloc | apply Kd.S_drewN | apply Kd.S_drew)); exact Kd.S_mono HO363.out (fun _ hk => ⟨hk.1.1.1.2, ⟨hk.1.1.2, ⟨hk.1.2, ⟨hk.2, hk.1.1.1.1⟩⟩⟩⟩)), (by (with_reducible repeat (first | apply Kd.S_alloc | apply Kd.S_drewN | apply Kd.S_drew)); exact Kd.S_mono HO_3.out (fun _ hk => ⟨hk.1.1.1, ⟨hk.1.1.2, ⟨hk.1.2, hk.2⟩⟩⟩)), (pk_ BK347.out), (pk_ BK365.out), GW365.out, GE365.out, NB0_365.out, NB365_0.out, NB347_365.out, NB365_347.out, (qs77_2_ HI0.out NB0_347.out NB0_365.out), (qk2_ HK.out GW347.out GW365.out), (qb3_ HB.out (IsS77.ge HI0.out) GE347.out GE365.out)⟩)
  ·skip
   refine box_step ?hg (N := 6) ?hd (cs := #[.slice none 0 0, .slice none 0 0]) (t := 71) ?hr ?_; (case hd => rfl); (case hg => rfl); (case hr => first | (go_simp; done) | (go_simp; rfl))
   intro gb365 hg w23 hbox hb
   have _ := Q_ (Kd.S_below (ps_ HO_3.out) hb)
   have _ := Q_ (Kd.R_below (pr_ HO341.out) hb)
   have _ := Q_ (Kd.S_below (ps_ HO344.out) hb)
   have _ := Q_ (IsS77.below (qs77_1_ HI0.out NB0_347.out) hb)
   have _ := Q_ (bb_ BK347.out hb)
   have _ := Q_ (KeepBut.trans (qk1_ HK.out GW347.out) (KeepBut.of_below hb g none) (.inl rfl))
   have _ := Q_ (below_step (qb2_ HB.out (IsS77.ge HI0.out) GE347.out) hb)
   have _ := Q_ (hbox)
   have _ := Q_ ((by rw [hg]; exact (keep_size (w := w) (g := g) (row := none) (qk1_ HK.out GW347.out)) : w.heap.size ≤ gb365))
   have _ := Q_ ((Nat.le_trans HW0.out (by rw [hg]; exact (keep_size (w := w) (g := g) (row := none) (qk1_ HK.out GW347.out)) : w.heap.size ≤ gb365) : w0.heap.size ≤ gb365))
   have _ := Q_ ((by rw [hg]; exact Nat.ne_of_lt (blk_lt (pk_ BK347.out)) : gb347 ≠ gb365))
   have _ := Q_ ((by rw [hg]; exact Nat.ne_of_gt (blk_lt (pk_ BK347.out)) : gb365 ≠ gb347))
   have _ := Q_ ((by rw [hg]; exact Nat.ne_of_lt (IsS77.lt (show IsS77 w0 _ g s0_0 t345 t346 from qs77_1_ HI0.out NB0_347.out)) : g ≠ gb365))
   have _ := Q_ ((by rw [hg]; exact Nat.ne_of_gt (IsS77.lt (show IsS77 w0 _ g s0_0 t345 t346 from qs77_1_ HI0.out NB0_347.out)) : gb365 ≠ g))
   clear HO_3 HO341 HO344 HI0 BK347 HK HB
   rename_i HO_3 HO341 HO344 HI0 BK347 HK HB BK365 GW365 GE365 NB347_365 NB365_347 NB0_365 NB365_0
   clear hb hbox hg
   refine hK.out _ _ (sb_ BK347.out) (fun hHeld => ?_)
   clear hK K
   refine no_ (some 6) ?_
   refine on_ 2 (some 20) (tm_ 12 527) HT_ (fun K hK => ?_)
   refine goes_ Try.func42 (by kernel_rfl) rfl #[.pointer (some ⟨g, 0, none⟩)] (by rfl) rfl rfl mp_ ?_
   with_reducible refine (spec_l12Draw.calls k1 g s0_0 t345 t346 t348 t351 t352 w0 _ ?side1 ?side2 A8.out).mono ?_
   (case side1 => exact qs77_2_ HI0.out NB0_347.out NB0_365.out)
   (case side2 => exact qb3_ HB.out (IsS77.ge HI0.out) GE347.out GE365.out)
   rintro e w24 ⟨v349, rfl, ho0, hi, hb, hk⟩
   refine ⟨_, rfl, ?_⟩
   have _ := Q_ (Kd.S_mono (Kd.S_told (Kd.S_oldK (IsS77.apartS (show IsS77 w0 _ g s0_0 t345 t346 from qs77_2_ HI0.out NB0_347.out NB0_365.out) (ps_ HO_3.out) (by decide)) hk) (Kd.R_base ho0)) (fun _ h_ => h_.1))
   have _ := Q_ (Kd.R_mono (Kd.R_told (Kd.R_oldK (IsS77.apart (show IsS77 w0 _ g s0_0 t345 t346 from qs77_2_ HI0.out NB0_347.out NB0_365.out) (pr_ HO341.out) (by decide)) hk) (Kd.R_base ho0)) (fun _ h_ => h_.1))
   have _ := Q_ (Kd.S_mono (Kd.S_told (Kd.S_oldK (IsS77.apartS (show IsS77 w0 _ g s0_0 t345 t346 from qs77_2_ HI0.out NB0_347.out NB0_365.out) (ps_ HO344.out) (by decide)) hk) (Kd.R_base ho0)) (fun _ h_ => h_.1))
   have _ := Q_ (KeepBut.blk hk (g' := gb347) (o := .cells #[.slice Ao17 t339.length co17, .slice Ao20 t342.length co20] 71 (0, 0)) (pk_ BK347.out) NB347_0.out (by simp))
   have _ := Q_ (KeepBut.blk hk (g' := gb365) (o := .cells #[.slice none 0 0, .slice none 0 0] 71 (0, 0)) (pk_ BK365.out) NB365_0.out (by simp))
   have _ := Q_ (Kd.R_lower (Kd.R_new' ho0 (Kd.R_lt (pr_ HO341.out))) (keep_size (w := w) (g := g) (row := none) (qk2_ HK.out GW347.out GW365.out)))
   have _ := Q_ (KeepBut.trans (qk2_ HK.out GW347.out GW365.out) hk (.inl rfl))
   have _ := Q_ (hb)
   have _ := Q_ (hi)
   clear HO_3 HO341 HO344 BK347 BK365 HK HB HI0
   rename_i HO_3 HO341 HO344 BK347 BK365 HO350 HK HB HI0
   (try clear hb)
   (try clear hb2)
   (try clear hk)
   (try clear hi)
   (try clear ho0)
   refine hK.out _ _ (sb_ BK347.out) (fun hHeld => ?_)
   clear hK K
   refine no_ (some 20) ?_
   refine on_ 4 (some 22) (tm_ 12 543) HT_ (fun K hK => ?_)
   refine goes_ Try.func26 (by kernel_rfl) rfl #[.pointer (some ⟨g, 0, none⟩)] (by rfl) rfl rfl mp_ ?_
   with_reducible refine (spec_l17Tags.calls k1 g s0_0 t351 t352 t353 t356 t357 w0 _ ?side1 ?side2 A9.out).mono ?_
   (case side1 => exact qs77_2_ HI0.out NB0_347.out NB0_365.out)
   (case side2 => exact qb3_ HB.out (IsS77.ge HI0.out) GE347.out GE365.out)
   rintro e w25 ⟨v354, rfl, ho0, hi, hb, hk⟩
   refine ⟨_, rfl, ?_⟩
   have _ := Q_ (Kd.S_mono (Kd.S_told (Kd.S_oldK (IsS77.apartS (show IsS77 w0 _ g s0_0 t351 t352 from qs77_2_ HI0.out NB0_347.out NB0_365.out) (ps_ HO_3.out) (by decide)) hk) (Kd.R_base ho0)) (fun _ h_ => h_.1))
   have _ := Q_ (Kd.R_mono (Kd.R_told (Kd.R_oldK (IsS77.apart (show IsS77 w0 _ g s0_0 t351 t352 from qs77_2_ HI0.out NB0_347.out NB0_365.out) (pr_ HO341.out) (by decide)) hk) (Kd.R_base ho0)) (fun _ h_ => h_.1))
   have _ := Q_ (Kd.S_mono (Kd.S_told (Kd.S_oldK (IsS77.apartS (show IsS77 w0 _ g s0_0 t351 t352 from qs77_2_ HI0.out NB0_347.out NB0_365.out) (ps_ HO344.out) (by decide)) hk) (Kd.R_base ho0)) (fun _ h_ => h_.1))
   have _ := Q_ (KeepBut.blk hk (g' := gb347) (o := .cells #[.slice Ao17 t339.length co17, .slice Ao20 t342.length co20] 71 (0, 0)) (pk_ BK347.out) NB347_0.out (by simp))
   have _ := Q_ (KeepBut.blk hk (g' := gb365) (o := .cells #[.slice none 0 0, .slice none 0 0] 71 (0, 0)) (pk_ BK365.out) NB365_0.out (by simp))
   have _ := Q_ (Kd.R_mono (Kd.R_told (Kd.R_oldK (IsS77.apart (show IsS77 w0 _ g s0_0 t351 t352 from qs77_2_ HI0.out NB0_347.out NB0_365.out) (pr_ HO350.out) (by decide)) hk) (Kd.R_base ho0)) (fun _ h_ => h_.1))
   have _ := Q_ (Kd.R_lower (Kd.R_new' (Kd.R_new' ho0 (Kd.R_lt (pr_ HO341.out))) (Kd.R_lt (pr_ HO350.out))) (keep_size (w := w) (g := g) (row := none) (qk2_ HK.out GW347.out GW365.out)))
   have _ := Q_ (KeepBut.trans (qk2_ HK.out GW347.out GW365.out) hk (.inl rfl))
   have _ := Q_ (hb)
   have _ := Q_ (hi)
   clear HO_3 HO341 HO344 BK347 BK365 HO350 HK HB HI0
   rename_i HO_3 HO341 HO344 BK347 BK365 HO350 HO355 HK HB HI0
   (try clear hb)
   (try clear hb2)
   (try clear hk)
   (try clear hi)
   (try clear ho0)
   obtain ⟨Ao26, co26, eo26⟩ := Kd.R_slice HO350.out
   (first | subst eo26 | (injection eo26 with f1_ f2_ f3_; have f4_ := f1_.symm; have f5_ := f3_.symm; clear f1_ f2_ f3_; subst f4_; subst f5_))
   obtain ⟨Ao27, co27, eo27⟩ := Kd.R_slice HO355.out
   (first | subst eo27 | (injection eo27 with f1_ f2_ f3_; have f4_ := f1_.symm; have f5_ := f3_.symm; clear f1_ f2_ f3_; subst f4_; subst f5_))
   refine hK.out _ _ (sb_ BK347.out) (fun hHeld => ?_)
   clear hK K
   refine no_ (some 22) ?_
   refine on_ 5 (some 23) (tm_ 12 575) HT_ (fun K hK => ?_)
   refine goes_ Try.func56 (by kernel_rfl) rfl #[.agg #[.slice Ao17 t339.length co17, .slice Ao20 t342.length co20], .slice Ao26 t348.length co26, .slice Ao27 t353.length co27] (by rfl) rfl rfl mp_ ?_
   with_reducible refine (spec_PartHello.calls k1 _ _ t339 _ _ t342 _ _ t348 _ _ t353 t358 t361 t364 _ ?side1 ?side2 ?side3 ?side4 ?side5 ?side6 ?side7 ?side8 A10.out).mono ?_
   (case side1 => exact pc_ ((Kd.R_reads' HO341.out).2.2))
   (case side2 => exact (Kd.R_reads' HO341.out).2.1)
   (case side3 => exact pc_ ((Kd.S_reads' HO344.out).2.2))
   (case side4 => exact (Kd.S_reads' HO344.out).2.1)
   (case side5 => exact pc_ ((Kd.R_reads' HO350.out).2.2))
   (case side6 => exact (Kd.R_reads' HO350.out).2.1)
   (case side7 => exact pc_ ((Kd.R_reads' HO355.out).2.2))
   (case side8 => exact (Kd.R_reads' HO355.out).2.1)
   rintro e w28 ⟨v359, v362, rfl, ho0, ho1, hb⟩
   refine ⟨_, rfl, ?_⟩
   have _ := Q_ (Kd.S_elder' (ps_ HO_3.out) (Kd.R_base ho0) hb)
   have _ := Q_ (Kd.R_elder' (pr_ HO341.out) (Kd.R_base ho0) hb)
   have _ := Q_ (Kd.S_mono (Kd.S_told (Kd.S_told (Kd.S_old (ps_ HO344.out) hb) (Kd.R_base ho0)) (Kd.S_base ho1)) (fun _ h_ => h_.1))
   have _ := Q_ (Kd.R_elder' (pr_ HO350.out) (Kd.R_base ho0) hb)
   have _ := Q_ (Kd.R_elder' (pr_ HO355.out) (Kd.R_base ho0) hb)
   have _ := Q_ (Kd.R_lower (Kd.R_new' (Kd.R_new' (Kd.R_new' ho0 (Kd.R_lt (pr_ HO341.out))) (Kd.R_lt (pr_ HO350.out))) (Kd.R_lt (pr_ HO355.out))) (keep_size (w := w) (g := g) (row := none) (qk2_ HK.out GW347.out GW365.out)))
   have _ := Q_ (Kd.S_lower (Kd.S_new' (Kd.S_new' (Kd.S_new' (Kd.S_new' ho1 (Kd.R_lt (pr_ HO341.out))) (Kd.S_lt (ps_ HO344.out))) (Kd.R_lt (pr_ HO350.out))) (Kd.R_lt (pr_ HO355.out))) (keep_size (w := w) (g := g) (row := none) (qk2_ HK.out GW347.out GW365.out)))
   have _ := Q_ (IsS77.below (qs77_2_ HI0.out NB0_347.out NB0_365.out) hb)
   have _ := Q_ (bb_ BK347.out hb)
   have _ := Q_ (bb_ BK365.out hb)
   have _ := Q_ (KeepBut.trans (qk2_ HK.out GW347.out GW365.out) (KeepBut.of_below hb g none) (.inl rfl))
   have _ := Q_ (below_step (qb3_ HB.out (IsS77.ge HI0.out) GE347.out GE365.out) hb)
   clear HO_3 HO341 HO344 HO350 HO355 HI0 BK347 BK365 HK HB
   rename_i HO_3 HO341 HO344 HO350 HO355 HO360 HO363 HI0 BK347 BK365 HK HB
   (try clear hb)
   (try clear hb2)
   (try clear hk)
   (try clear hi)
   (try clear ho0)
   (try clear ho1)
   refine hK.out _ _ (sb_ BK347.out) (fun hHeld => ?_)
   clear hK K
   refine no_ (some 23) ?_
   refine pu_ 6 (some 17) (tm_ 12 639) HT_ ?_
   refine pu_ 7 (some 24) (tm_ 12 767) HT_ ?_
   refine pu_ 8 (some 25) (tf_ 10 12) HT_ ?_
   exact norm_ (by simp only [putAll, Act.put, List.setIfInBounds_toArray, List.set_cons_zero, List.set_cons_succ]) (hCont (.slice Ao26 t348.length co26, .slice Ao27 t353.length co27, v359, v362, gb365) _ ⟨hHeld, (by (with_reducible repeat (first | apply Kd.R_alloc | apply Kd.R_drewN | apply Kd.R_drew)); exact Kd.R_mono HO341.out (fun _ hk => ⟨hk.1.1.2, ⟨hk.1.2, hk.2⟩⟩)), (by (with_reducible repeat (first | apply Kd.S_alloc | apply Kd.S_drewN | apply Kd.S_drew)); exact Kd.S_mono HO344.out (fun _ hk => ⟨hk.1.1.1.1, ⟨hk.1.1.1.2, ⟨hk.1.1.2, ⟨hk.1.2, hk.2⟩⟩⟩⟩)), (by (with_reducible repeat (first | apply Kd.R_alloc | apply Kd.R_drewN | apply Kd.R_drew)); exact Kd.R_mono HO350.out (fun _ hk => ⟨hk.1.1.2, ⟨hk.1.2, hk.2⟩⟩)), (by (with_reducible repeat (first | apply Kd.R_alloc | apply Kd.R_drewN | apply Kd.R_drew)); exact Kd.R_mono HO355.out (fun _ hk => ⟨hk.1.1.2, ⟨hk.1.2, hk.2⟩⟩)), (by (with_reducible repeat (first | apply Kd.R_alloc | apply Kd.R_drewN | apply Kd.R_drew)); exact Kd.R_mono HO360.out (fun _ hk => ⟨hk.1.1.2, ⟨hk.1.2, hk.2⟩⟩)), (by (with_reducible repeat (first | apply Kd.S_alloc | apply Kd.S_drewN | apply Kd.S_drew)); exact Kd.S_mono HO363.out (fun _ hk => ⟨hk.1.1.1.2, ⟨hk.1.1.2, ⟨hk.1.2, ⟨hk.2, hk.1.1.1.1⟩⟩⟩⟩)), (by (with_reducible repeat (first | apply Kd.S_alloc | apply Kd.S_drewN | apply Kd.S_drew)); exact Kd.S_mono HO_3.out (fun _ hk => ⟨hk.1.1.1, ⟨hk.1.1.2, ⟨hk.1.2, hk.2⟩⟩⟩)), (pk_ BK347.out), (pk_ BK365.out), GW365.out, GE365.out, NB0_365.out, NB365_0.out, NB347_365.out, NB365_347.out, (qs77_2_ HI0.out NB0_347.out NB0_365.out), (qk2_ HK.out GW347.out GW365.out), (qb3_ HB.out (IsS77.ge HI0.out) GE347.out GE365.out)⟩)
 rintro ⟨v349, v354, v359, v362, gb365⟩ w29 ⟨hS_, h0_, h1_, h2_, h3_, h4_, h5_, h6_, h7_, h8_, h9_, h10_, h11_, h12_, h13_, h14_, h15_, h16_, h17_⟩
 have n0_ : Aside0 (Kd.R (Kd.int .i64) 3 w29 w.heap.size (fun k_ => some k_ ≠ (v349 : Value).ownBlock ∧ some k_ ≠ (v354 : Value).ownBlock ∧ some k_ ≠ (v359 : Value).ownBlock) (.slice Ao17 t339.length co17) t339) := ⟨h0_⟩
 have n1_ : Aside0 (Kd.S k113 113 w29 w.heap.size (fun k_ => some k_ ≠ (.slice Ao17 t339.length co17 : Value).ownBlock ∧ some k_ ≠ (v349 : Value).ownBlock ∧ some k_ ≠ (v354 : Value).ownBlock ∧ some k_ ≠ (v359 : Value).ownBlock ∧ some k_ ≠ (v362 : Value).ownBlock) (.slice Ao20 t342.length co20) t342) := ⟨h1_⟩
 have n2_ : Aside0 (Kd.R (Kd.int .i64) 3 w29 w.heap.size (fun k_ => some k_ ≠ (.slice Ao17 t339.length co17 : Value).ownBlock ∧ some k_ ≠ (v354 : Value).ownBlock ∧ some k_ ≠ (v359 : Value).ownBlock) v349 t348) := ⟨h2_⟩
 have n3_ : Aside0 (Kd.R (Kd.int .i64) 3 w29 w.heap.size (fun k_ => some k_ ≠ (.slice Ao17 t339.length co17 : Value).ownBlock ∧ some k_ ≠ (v349 : Value).ownBlock ∧ some k_ ≠ (v359 : Value).ownBlock) v354 t353) := ⟨h3_⟩
 have n4_ : Aside0 (Kd.R (Kd.int .i64) 3 w29 w.heap.size (fun k_ => some k_ ≠ (.slice Ao17 t339.length co17 : Value).ownBlock ∧ some k_ ≠ (v349 : Value).ownBlock ∧ some k_ ≠ (v354 : Value).ownBlock) v359 t358) := ⟨h4_⟩
 have n5_ : Aside0 (Kd.S k113 113 w29 w.heap.size (fun k_ => some k_ ≠ (.slice Ao17 t339.length co17 : Value).ownBlock ∧ some k_ ≠ (.slice Ao20 t342.length co20 : Value).ownBlock ∧ some k_ ≠ (v349 : Value).ownBlock ∧ some k_ ≠ (v354 : Value).ownBlock ∧ some k_ ≠ (v359 : Value).ownBlock) v362 t361) := ⟨h5_⟩
 have n6_ : Aside0 (Kd.S k61 61 w29 w.heap.size (fun k_ => some k_ ≠ (.slice Ao17 t339.length co17 : Value).ownBlock ∧ some k_ ≠ (v349 : Value).ownBlock ∧ some k_ ≠ (v354 : Value).ownBlock ∧ some k_ ≠ (v359 : Value).ownBlock) u3 x3_1) := ⟨h6_⟩
 have n7_ : Aside0 (w29.heap[gb347]? = some (.cells #[.slice Ao17 t339.length co17, .slice Ao20 t342.length co20] 71 (0, 0))) := ⟨h7_⟩
 have n8_ : Aside0 (w29.heap[gb365]? = some (.cells #[.slice none 0 0, .slice none 0 0] 71 (0, 0))) := ⟨h8_⟩
 have n9_ : Aside0 (w.heap.size ≤ gb365) := ⟨h9_⟩
 have n10_ : Aside0 (w0.heap.size ≤ gb365) := ⟨h10_⟩
 have n11_ : Aside0 (g ≠ gb365) := ⟨h11_⟩
 have n12_ : Aside0 (gb365 ≠ g) := ⟨h12_⟩
 have n13_ : Aside0 (gb347 ≠ gb365) := ⟨h13_⟩
 have n14_ : Aside0 (gb365 ≠ gb347) := ⟨h14_⟩
 have n15_ : Aside0 (IsS77 w0 w29 g s0_0 t356 t357) := ⟨h15_⟩
 have n16_ : Aside0 (KeepBut w w29 g none) := ⟨h16_⟩
 have n17_ : Aside0 (Below w0.heap.size w0 w29) := ⟨h17_⟩
 clear HO_3
 clear HO341
 clear HO344
 clear BK347
 clear HI0
 clear HK
 clear HB
 clear h0_ h1_ h2_ h3_ h4_ h5_ h6_ h7_ h8_ h9_ h10_ h11_ h12_ h13_ h14_ h15_ h16_ h17_
 have HO341 := n0_
 have HO344 := n1_
 have HO350 := n2_
 have HO355 := n3_
 have HO360 := n4_
 have HO363 := n5_
 have HO_3 := n6_
 have BK347 := n7_
 have BK365 := n8_
 have GW365 := n9_
 have GE365 := n10_
 have NB0_365 := n11_
 have NB365_0 := n12_
 have NB347_365 := n13_
 have NB365_347 := n14_
 have HI0 := n15_
 have HK := n16_
 have HB := n17_
 clear n0_ n1_ n2_ n3_ n4_ n5_ n6_ n7_ n8_ n9_ n10_ n11_ n12_ n13_ n14_ n15_ n16_ n17_
 have hHeld : w29.cell? ⟨gb347, 0, none⟩ = some (.slice Ao17 t339.length co17) ∧ w29.cell? ⟨gb347, 1, none⟩ = some (.slice Ao20 t342.length co20) := hS_
 obtain ⟨Ao30, co30, eo30⟩ := Kd.R_slice HO360.out
 (first | subst eo30 | (injection eo30 with f1_ f2_ f3_; have f4_ := f1_.symm; have f5_ := f3_.symm; clear f1_ f2_ f3_; subst f4_; subst f5_))
 obtain ⟨Ao32, co32, eo32⟩ := Kd.S_slice HO363.out
 (first | subst eo32 | (injection eo32 with f1_ f2_ f3_; have f4_ := f1_.symm; have f5_ := f3_.symm; clear f1_ f2_ f3_; subst f4_; subst f5_))
 refine norm_ (a' := ?_) ?_ ?_
 rotate_left
 ·simp only [putAll, Act.put, List.setIfInBounds_toArray, List.set_cons_zero, List.set_cons_succ]
  rfl
 refine on_ 10 (none) (tf_ 11 12) HT_ (fun K hK => ?_)
 have hs31 : w29.cell? ⟨gb365, 0, none⟩ = some (.slice none 0 0) := (blk_cell BK365.out 0).trans rfl
 have hfs31 := blk_frozen BK365.out 0
 have hns31_0 := NB347_365.out
 have hms31_0 := NB365_347.out
 have hs33 : w29.cell? ⟨gb365, 1, none⟩ = some (.slice none 0 0) := (blk_cell BK365.out 1).trans rfl
 have hfs33 := blk_frozen BK365.out 1
 have hns33_0 := NB347_365.out
 have hms33_0 := NB365_347.out
 refine skip_ (w1 := ?_) (by rfl) rfl ?_ ?_
 rotate_left
 ·go_simp
  rfl
 refine hK.out _ _ ⟨((cell_far (p := ⟨gb365, _, none⟩) NB347_365.out _).trans (((cell_far (p := ⟨gb365, _, none⟩) NB347_365.out _).trans (hHeld.1)))), ((cell_far (p := ⟨gb365, _, none⟩) NB347_365.out _).trans (((cell_far (p := ⟨gb365, _, none⟩) NB347_365.out _).trans (hHeld.2))))⟩ (fun hHeld => ?_)
 clear hK K
 refine pu_ 11 (some 7) (tf_ 12 12) HT_ ?_
 refine done_ (done_of HT_.out (by kernel_rfl)) ?_
 try go_wp2
 have n0_ : Aside0 (Kd.S k61 61 ((w29.setCell ⟨gb365, 0, none⟩ (.slice Ao30 t358.length co30)).setCell ⟨gb365, 1, none⟩ (.slice Ao32 t361.length co32)) w.heap.size (fun k_ => some k_ ≠ (.slice Ao17 t339.length co17 : Value).ownBlock ∧ some k_ ≠ (v349 : Value).ownBlock ∧ some k_ ≠ (v354 : Value).ownBlock ∧ some k_ ≠ (.slice Ao30 t358.length co30 : Value).ownBlock) u3 x3_1) := ⟨by (with_reducible repeat (first | apply Kd.S_alloc | apply Kd.S_drewN | apply Kd.S_drew)); exact Kd.S_mono (Kd.S_far (p := ⟨gb365, 1, none⟩) (Kd.S_far (p := ⟨gb365, 0, none⟩) (Kd.S_types HO_3.out BK365.out (by decide)) (fun _ hk => hk.2) (.slice Ao30 t358.length co30)) (fun _ hk => hk.2) (.slice Ao32 t361.length co32)) (fun _ hk => ⟨hk.1.1, ⟨hk.1.2.1, ⟨hk.1.2.2.1, hk.1.2.2.2⟩⟩⟩)⟩
 have n1_ : Aside0 (Kd.R (Kd.int .i64) 3 ((w29.setCell ⟨gb365, 0, none⟩ (.slice Ao30 t358.length co30)).setCell ⟨gb365, 1, none⟩ (.slice Ao32 t361.length co32)) w.heap.size (fun k_ => some k_ ≠ (v349 : Value).ownBlock ∧ some k_ ≠ (v354 : Value).ownBlock ∧ some k_ ≠ (.slice Ao30 t358.length co30 : Value).ownBlock) (.slice Ao17 t339.length co17) t339) := ⟨by (with_reducible repeat (first | apply Kd.R_alloc | apply Kd.R_drewN | apply Kd.R_drew)); exact Kd.R_mono (Kd.R_far (p := ⟨gb365, 1, none⟩) (Kd.R_far (p := ⟨gb365, 0, none⟩) (Kd.R_types HO341.out BK365.out (by decide)) (fun _ hk => hk.2) (.slice Ao30 t358.length co30)) (fun _ hk => hk.2) (.slice Ao32 t361.length co32)) (fun _ hk => ⟨hk.1.1, ⟨hk.1.2.1, hk.1.2.2⟩⟩)⟩
 have n2_ : Aside0 (Kd.S k113 113 ((w29.setCell ⟨gb365, 0, none⟩ (.slice Ao30 t358.length co30)).setCell ⟨gb365, 1, none⟩ (.slice Ao32 t361.length co32)) w.heap.size (fun k_ => some k_ ≠ (.slice Ao17 t339.length co17 : Value).ownBlock ∧ some k_ ≠ (v349 : Value).ownBlock ∧ some k_ ≠ (v354 : Value).ownBlock ∧ some k_ ≠ (.slice Ao30 t358.length co30 : Value).ownBlock ∧ some k_ ≠ (.slice Ao32 t361.length co32 : Value).ownBlock) (.slice Ao20 t342.length co20) t342) := ⟨by (with_reducible repeat (first | apply Kd.S_alloc | apply Kd.S_drewN | apply Kd.S_drew)); exact Kd.S_mono (Kd.S_far (p := ⟨gb365, 1, none⟩) (Kd.S_far (p := ⟨gb365, 0, none⟩) (Kd.S_types HO344.out BK365.out (by decide)) (fun _ hk => hk.2) (.slice Ao30 t358.length co30)) (fun _ hk => hk.2) (.slice Ao32 t361.length co32)) (fun _ hk => ⟨hk.1.1, ⟨hk.1.2.1, ⟨hk.1.2.2.1, ⟨hk.1.2.2.2.1, hk.1.2.2.2.2⟩⟩⟩⟩)⟩
 have n3_ : Aside0 (Kd.R (Kd.int .i64) 3 ((w29.setCell ⟨gb365, 0, none⟩ (.slice Ao30 t358.length co30)).setCell ⟨gb365, 1, none⟩ (.slice Ao32 t361.length co32)) w.heap.size (fun k_ => some k_ ≠ (.slice Ao17 t339.length co17 : Value).ownBlock ∧ some k_ ≠ (v354 : Value).ownBlock ∧ some k_ ≠ (.slice Ao30 t358.length co30 : Value).ownBlock) v349 t348) := ⟨by (with_reducible repeat (first | apply Kd.R_alloc | apply Kd.R_drewN | apply Kd.R_drew)); exact Kd.R_mono (Kd.R_far (p := ⟨gb365, 1, none⟩) (Kd.R_far (p := ⟨gb365, 0, none⟩) (Kd.R_types HO350.out BK365.out (by decide)) (fun _ hk => hk.2) (.slice Ao30 t358.length co30)) (fun _ hk => hk.2) (.slice Ao32 t361.length co32)) (fun _ hk => ⟨hk.1.1, ⟨hk.1.2.1, hk.1.2.2⟩⟩)⟩
 have n4_ : Aside0 (Kd.R (Kd.int .i64) 3 ((w29.setCell ⟨gb365, 0, none⟩ (.slice Ao30 t358.length co30)).setCell ⟨gb365, 1, none⟩ (.slice Ao32 t361.length co32)) w.heap.size (fun k_ => some k_ ≠ (.slice Ao17 t339.length co17 : Value).ownBlock ∧ some k_ ≠ (v349 : Value).ownBlock ∧ some k_ ≠ (.slice Ao30 t358.length co30 : Value).ownBlock) v354 t353) := ⟨by (with_reducible repeat (first | apply Kd.R_alloc | apply Kd.R_drewN | apply Kd.R_drew)); exact Kd.R_mono (Kd.R_far (p := ⟨gb365, 1, none⟩) (Kd.R_far (p := ⟨gb365, 0, none⟩) (Kd.R_types HO355.out BK365.out (by decide)) (fun _ hk => hk.2) (.slice Ao30 t358.length co30)) (fun _ hk => hk.2) (.slice Ao32 t361.length co32)) (fun _ hk => ⟨hk.1.1, ⟨hk.1.2.1, hk.1.2.2⟩⟩)⟩
 have n5_ : Aside0 (Kd.R (Kd.int .i64) 3 ((w29.setCell ⟨gb365, 0, none⟩ (.slice Ao30 t358.length co30)).setCell ⟨gb365, 1, none⟩ (.slice Ao32 t361.length co32)) w.heap.size (fun k_ => some k_ ≠ (.slice Ao17 t339.length co17 : Value).ownBlock ∧ some k_ ≠ (v349 : Value).ownBlock ∧ some k_ ≠ (v354 : Value).ownBlock) (.slice Ao30 t358.length co30) t358) := ⟨by (with_reducible repeat (first | apply Kd.R_alloc | apply Kd.R_drewN | apply Kd.R_drew)); exact Kd.R_mono (Kd.R_far (p := ⟨gb365, 1, none⟩) (Kd.R_far (p := ⟨gb365, 0, none⟩) (Kd.R_types HO360.out BK365.out (by decide)) (fun _ hk => hk.2) (.slice Ao30 t358.length co30)) (fun _ hk => hk.2) (.slice Ao32 t361.length co32)) (fun _ hk => ⟨hk.1.1, ⟨hk.1.2.1, hk.1.2.2⟩⟩)⟩
 have n6_ : Aside0 (Kd.S k113 113 ((w29.setCell ⟨gb365, 0, none⟩ (.slice Ao30 t358.length co30)).setCell ⟨gb365, 1, none⟩ (.slice Ao32 t361.length co32)) w.heap.size (fun k_ => some k_ ≠ (.slice Ao17 t339.length co17 : Value).ownBlock ∧ some k_ ≠ (.slice Ao20 t342.length co20 : Value).ownBlock ∧ some k_ ≠ (v349 : Value).ownBlock ∧ some k_ ≠ (v354 : Value).ownBlock ∧ some k_ ≠ (.slice Ao30 t358.length co30 : Value).ownBlock) (.slice Ao32 t361.length co32) t361) := ⟨by (with_reducible repeat (first | apply Kd.S_alloc | apply Kd.S_drewN | apply Kd.S_drew)); exact Kd.S_mono (Kd.S_far (p := ⟨gb365, 1, none⟩) (Kd.S_far (p := ⟨gb365, 0, none⟩) (Kd.S_types HO363.out BK365.out (by decide)) (fun _ hk => hk.2) (.slice Ao30 t358.length co30)) (fun _ hk => hk.2) (.slice Ao32 t361.length co32)) (fun _ hk => ⟨hk.1.1, ⟨hk.1.2.1, ⟨hk.1.2.2.1, ⟨hk.1.2.2.2.1, hk.1.2.2.2.2⟩⟩⟩⟩)⟩
 have n7_ : Aside0 (((w29.setCell ⟨gb365, 0, none⟩ (.slice Ao30 t358.length co30)).setCell ⟨gb365, 1, none⟩ (.slice Ao32 t361.length co32)).heap[gb347]? = some (.cells #[.slice Ao17 t339.length co17, .slice Ao20 t342.length co20] 71 (0, 0))) := ⟨pp_ BK347.out⟩
 have n8_ : Aside0 (((w29.setCell ⟨gb365, 0, none⟩ (.slice Ao30 t358.length co30)).setCell ⟨gb365, 1, none⟩ (.slice Ao32 t361.length co32)).heap[gb365]? = some (.cells #[.slice Ao30 t358.length co30, .slice Ao32 t361.length co32] 71 (0, 0))) := ⟨pp_ BK365.out⟩
 have n9_ : Aside0 (IsS77 w0 ((w29.setCell ⟨gb365, 0, none⟩ (.slice Ao30 t358.length co30)).setCell ⟨gb365, 1, none⟩ (.slice Ao32 t361.length co32)) g s0_0 t356 t357) := ⟨qs77_2_ HI0.out NB0_347.out NB0_365.out⟩
 have n10_ : Aside0 (KeepBut w ((w29.setCell ⟨gb365, 0, none⟩ (.slice Ao30 t358.length co30)).setCell ⟨gb365, 1, none⟩ (.slice Ao32 t361.length co32)) g none) := ⟨qk2_ HK.out GW347.out GW365.out⟩
 have n11_ : Aside0 (Below w0.heap.size w0 ((w29.setCell ⟨gb365, 0, none⟩ (.slice Ao30 t358.length co30)).setCell ⟨gb365, 1, none⟩ (.slice Ao32 t361.length co32))) := ⟨qb3_ HB.out (IsS77.ge HI0.out) GE347.out GE365.out⟩
 (try clear HO_3)
 (try clear HO341)
 (try clear HO344)
 (try clear HO350)
 (try clear HO355)
 (try clear HO360)
 (try clear HO363)
 (try clear BK347)
 (try clear BK365)
 (try clear HI0)
 (try clear HK)
 (try clear HB)
 generalize ((w29.setCell ⟨gb365, 0, none⟩ (.slice Ao30 t358.length co30)).setCell ⟨gb365, 1, none⟩ (.slice Ao32 t361.length co32)) = w34 at n0_ n1_ n2_ n3_ n4_ n5_ n6_ n7_ n8_ n9_ n10_ n11_ ⊢
 have HO_3 := n0_
 have HO341 := n1_
 have HO344 := n2_
 have HO350 := n3_
 have HO355 := n4_
 have HO360 := n5_
 have HO363 := n6_
 have BK347 := n7_
 have BK365 := n8_
 have HI0 := n9_
 have HK := n10_
 have HB := n11_
 clear n0_ n1_ n2_ n3_ n4_ n5_ n6_ n7_ n8_ n9_ n10_ n11_
 have _ := Q_ (Kd.S_drew HO_3.out)
 have _ := Q_ (Kd.R_drew HO341.out)
 have _ := Q_ (Kd.S_drew HO344.out)
 have _ := Q_ (Kd.R_drew HO350.out)
 have _ := Q_ (Kd.R_drew HO355.out)
 have _ := Q_ (Kd.R_drew HO360.out)
 have _ := Q_ (Kd.S_drew HO363.out)
 have _ := Q_ (blk_drew BK347.out)
 have _ := Q_ (blk_drew BK365.out)
 have _ := Q_ (IsS77.drew HI0.out)
 have _ := Q_ (keep_drew HK.out)
 have _ := Q_ (below_drew1 HB.out)
 clear HO_3 HO341 HO344 HO350 HO355 HO360 HO363 BK347 BK365 HI0 HK HB
 rename_i HO_3 HO341 HO344 HO350 HO355 HO360 HO363 BK347 BK365 HI0 HK HB
 refine start_ (n := 10) (S := fun w' => w'.cell? ⟨gb347, 0, none⟩ = some (.slice Ao17 t339.length co17) ∧ w'.cell? ⟨gb347, 1, none⟩ = some (.slice Ao20 t342.length co20) ∧ w'.cell? ⟨gb365, 0, none⟩ = some (.slice Ao30 t358.length co30) ∧ w'.cell? ⟨gb365, 1, none⟩ = some (.slice Ao32 t361.length co32)) (ds := []) (tf_ 0 10) (by kernel_rfl) rfl rfl ⟨(blk_cell BK347.out 0).trans rfl, (blk_cell BK347.out 1).trans rfl, (blk_cell BK365.out 0).trans rfl, (blk_cell BK365.out 1).trans rfl⟩ (fun hHeld => ?_); refine with_tabW spec_l23Draw.tab7 spec_l23Draw.bits7 (fun HT_ HW_ => ?_)
 generalize w34.drew = w35 at HO_3 HO341 HO344 HO350 HO355 HO360 HO363 BK347 BK365 HI0 HK HB hHeld ⊢
 refine pu_ 0 (some 26) (tf_ 1 10) HT_ ?_
 refine pu_ 1 (some 27) (tf_ 2 10) HT_ ?_
 refine pu_ 6 (some 32) (tm_ 10 67) HT_ ?_
 refine ta_ 3 (some 29) (tm_ 10 75) HT_ HW_ hHeld ?_
 refine ta_ 4 (some 30) (tm_ 10 91) HT_ HW_ hHeld ?_
 refine on_ 2 (some 28) (tm_ 10 95) HT_ (fun K hK => ?_)
 refine goes_ Try.func25 (by kernel_rfl) rfl #[.pointer (some ⟨g, 0, none⟩), .int .i64 6] (by rfl) rfl rfl mp_ ?_
 with_reducible refine (spec_l1Below.calls g s0_0 t356 t357 6 t366 t367 t368 w0 _ ?side1 ?side2 A11.out).mono ?_
 (case side1 => exact qs77_2_ HI0.out NB0_347.out NB0_365.out)
 (case side2 => exact qb3_ HB.out (IsS77.ge HI0.out) GE347.out GE365.out)
 rintro e w36 ⟨rfl, hi, hb, hk⟩
 refine ⟨_, rfl, ?_⟩
 have _ := Q_ (Kd.S_mono (Kd.S_keep (IsS77.apartS (show IsS77 w0 _ g s0_0 t356 t357 from qs77_2_ HI0.out NB0_347.out NB0_365.out) (ps_ HO_3.out) (by decide)) hk (fun _ h => h.2)) (fun _ h => h.1))
 have _ := Q_ (Kd.R_mono (Kd.R_keep (IsS77.apart (show IsS77 w0 _ g s0_0 t356 t357 from qs77_2_ HI0.out NB0_347.out NB0_365.out) (pr_ HO341.out) (by decide)) hk (fun _ h => h.2)) (fun _ h => h.1))
 have _ := Q_ (Kd.S_mono (Kd.S_keep (IsS77.apartS (show IsS77 w0 _ g s0_0 t356 t357 from qs77_2_ HI0.out NB0_347.out NB0_365.out) (ps_ HO344.out) (by decide)) hk (fun _ h => h.2)) (fun _ h => h.1))
 have _ := Q_ (KeepBut.blk hk (g' := gb347) (o := .cells #[.slice Ao17 t339.length co17, .slice Ao20 t342.length co20] 71 (0, 0)) (pk_ BK347.out) NB347_0.out (by simp))
 have _ := Q_ (Kd.R_mono (Kd.R_keep (IsS77.apart (show IsS77 w0 _ g s0_0 t356 t357 from qs77_2_ HI0.out NB0_347.out NB0_365.out) (pr_ HO350.out) (by decide)) hk (fun _ h => h.2)) (fun _ h => h.1))
 have _ := Q_ (Kd.R_mono (Kd.R_keep (IsS77.apart (show IsS77 w0 _ g s0_0 t356 t357 from qs77_2_ HI0.out NB0_347.out NB0_365.out) (pr_ HO355.out) (by decide)) hk (fun _ h => h.2)) (fun _ h => h.1))
 have _ := Q_ (Kd.R_mono (Kd.R_keep (IsS77.apart (show IsS77 w0 _ g s0_0 t356 t357 from qs77_2_ HI0.out NB0_347.out NB0_365.out) (pr_ HO360.out) (by decide)) hk (fun _ h => h.2)) (fun _ h => h.1))
 have _ := Q_ (Kd.S_mono (Kd.S_keep (IsS77.apartS (show IsS77 w0 _ g s0_0 t356 t357 from qs77_2_ HI0.out NB0_347.out NB0_365.out) (ps_ HO363.out) (by decide)) hk (fun _ h => h.2)) (fun _ h => h.1))
 have _ := Q_ (KeepBut.blk hk (g' := gb365) (o := .cells #[.slice Ao30 t358.length co30, .slice Ao32 t361.length co32] 71 (0, 0)) (pk_ BK365.out) NB365_0.out (by simp))
 have _ := Q_ (KeepBut.trans (qk2_ HK.out GW347.out GW365.out) hk (.inl rfl))
 have _ := Q_ (hb)
 have _ := Q_ (hi)
 clear HO_3 HO341 HO344 BK347 HO350 HO355 HO360 HO363 BK365 HK HB HI0
 rename_i HO_3 HO341 HO344 BK347 HO350 HO355 HO360 HO363 BK365 HK HB HI0
 (try clear hb)
 (try clear hb2)
 (try clear hk)
 (try clear hi)
 refine hK.out _ _ ⟨(blk_cell BK347.out 0).trans rfl, (blk_cell BK347.out 1).trans rfl, (blk_cell BK365.out 0).trans rfl, (blk_cell BK365.out 1).trans rfl⟩ (fun hHeld => ?_)
 clear hK K
 refine no_ (some 28) ?_
 refine on_ 5 (some 31) (tf_ 7 10) HT_ (fun K hK => ?_)
 refine goes_ Try.func52 (by kernel_rfl) rfl #[.agg #[.slice Ao17 t339.length co17, .slice Ao20 t342.length co20], .agg #[.slice Ao30 t358.length co30, .slice Ao32 t361.length co32]] (by rfl) rfl rfl mp_ ?_
 with_reducible refine (spec_GivenUp.calls k1 _ _ t339 _ _ t342 _ _ t358 _ _ t361 t369 _ ?side1 ?side2 ?side3 ?side4 ?side5 ?side6 ?side7 ?side8 A12.out).mono ?_
 (case side1 => exact pc_ ((Kd.R_reads' HO341.out).2.2))
 (case side2 => exact (Kd.R_reads' HO341.out).2.1)
 (case side3 => exact pc_ ((Kd.S_reads' HO344.out).2.2))
 (case side4 => exact (Kd.S_reads' HO344.out).2.1)
 (case side5 => exact pc_ ((Kd.R_reads' HO360.out).2.2))
 (case side6 => exact (Kd.R_reads' HO360.out).2.1)
 (case side7 => exact pc_ ((Kd.S_reads' HO363.out).2.2))
 (case side8 => exact (Kd.S_reads' HO363.out).2.1)
 rintro e w37 ⟨v370, rfl, ho0, hb⟩
 refine ⟨_, rfl, ?_⟩
 have _ := Q_ (Kd.S_elder' (ps_ HO_3.out) (Kd.R_base ho0) hb)
 have _ := Q_ (Kd.R_elder' (pr_ HO341.out) (Kd.R_base ho0) hb)
 have _ := Q_ (Kd.S_elder' (ps_ HO344.out) (Kd.R_base ho0) hb)
 have _ := Q_ (Kd.R_elder' (pr_ HO350.out) (Kd.R_base ho0) hb)
 have _ := Q_ (Kd.R_elder' (pr_ HO355.out) (Kd.R_base ho0) hb)
 have _ := Q_ (Kd.R_elder' (pr_ HO360.out) (Kd.R_base ho0) hb)
 have _ := Q_ (Kd.S_elder' (ps_ HO363.out) (Kd.R_base ho0) hb)
 have _ := Q_ (Kd.R_lower (Kd.R_new' (Kd.R_new' (Kd.R_new' (Kd.R_new' ho0 (Kd.R_lt (pr_ HO341.out))) (Kd.R_lt (pr_ HO350.out))) (Kd.R_lt (pr_ HO355.out))) (Kd.R_lt (pr_ HO360.out))) (keep_size (w := w) (g := g) (row := none) (qk2_ HK.out GW347.out GW365.out)))
 have _ := Q_ (IsS77.below (qs77_2_ HI0.out NB0_347.out NB0_365.out) hb)
 have _ := Q_ (bb_ BK347.out hb)
 have _ := Q_ (bb_ BK365.out hb)
 have _ := Q_ (KeepBut.trans (qk2_ HK.out GW347.out GW365.out) (KeepBut.of_below hb g none) (.inl rfl))
 have _ := Q_ (below_step (qb3_ HB.out (IsS77.ge HI0.out) GE347.out GE365.out) hb)
 clear HO_3 HO341 HO344 HO350 HO355 HO360 HO363 HI0 BK347 BK365 HK HB
 rename_i HO_3 HO341 HO344 HO350 HO355 HO360 HO363 HO371 HI0 BK347 BK365 HK HB
 (try clear hb)
 (try clear hb2)
 (try clear hk)
 (try clear hi)
 (try clear ho0)
 refine hK.out _ _ ⟨(blk_cell BK347.out 0).trans rfl, (blk_cell BK347.out 1).trans rfl, (blk_cell BK365.out 0).trans rfl, (blk_cell BK365.out 1).trans rfl⟩ (fun hHeld => ?_)
 clear hK K
 refine no_ (some 31) ?_
 refine on_ 7 (some 33) (tf_ 8 10) HT_ (fun K hK => ?_)
 refine goes_ Try.func25 (by kernel_rfl) rfl #[.pointer (some ⟨g, 0, none⟩), .int .i64 40] (by rfl) rfl rfl mp_ ?_
 with_reducible refine (spec_l1Below.calls g s0_0 t367 t368 40 t372 t373 t374 w0 _ ?side1 ?side2 A13.out).mono ?_
 (case side1 => exact qs77_2_ HI0.out NB0_347.out NB0_365.out)
 (case side2 => exact qb3_ HB.out (IsS77.ge HI0.out) GE347.out GE365.out)
 rintro e w38 ⟨rfl, hi, hb, hk⟩
 refine ⟨_, rfl, ?_⟩
 have _ := Q_ (Kd.S_mono (Kd.S_keep (IsS77.apartS (show IsS77 w0 _ g s0_0 t367 t368 from qs77_2_ HI0.out NB0_347.out NB0_365.out) (ps_ HO_3.out) (by decide)) hk (fun _ h => h.2)) (fun _ h => h.1))
 have _ := Q_ (Kd.R_mono (Kd.R_keep (IsS77.apart (show IsS77 w0 _ g s0_0 t367 t368 from qs77_2_ HI0.out NB0_347.out NB0_365.out) (pr_ HO341.out) (by decide)) hk (fun _ h => h.2)) (fun _ h => h.1))
 have _ := Q_ (Kd.S_mono (Kd.S_keep (IsS77.apartS (show IsS77 w0 _ g s0_0 t367 t368 from qs77_2_ HI0.out NB0_347.out NB0_365.out) (ps_ HO344.out) (by decide)) hk (fun _ h => h.2)) (fun _ h => h.1))
 have _ := Q_ (KeepBut.blk hk (g' := gb347) (o := .cells #[.slice Ao17 t339.length co17, .slice Ao20 t342.length co20] 71 (0, 0)) (pk_ BK347.out) NB347_0.out (by simp))
 have _ := Q_ (Kd.R_mono (Kd.R_keep (IsS77.apart (show IsS77 w0 _ g s0_0 t367 t368 from qs77_2_ HI0.out NB0_347.out NB0_365.out) (pr_ HO350.out) (by decide)) hk (fun _ h => h.2)) (fun _ h => h.1))
 have _ := Q_ (Kd.R_mono (Kd.R_keep (IsS77.apart (show IsS77 w0 _ g s0_0 t367 t368 from qs77_2_ HI0.out NB0_347.out NB0_365.out) (pr_ HO355.out) (by decide)) hk (fun _ h => h.2)) (fun _ h => h.1))
 have _ := Q_ (Kd.R_mono (Kd.R_keep (IsS77.apart (show IsS77 w0 _ g s0_0 t367 t368 from qs77_2_ HI0.out NB0_347.out NB0_365.out) (pr_ HO360.out) (by decide)) hk (fun _ h => h.2)) (fun _ h => h.1))
 have _ := Q_ (Kd.S_mono (Kd.S_keep (IsS77.apartS (show IsS77 w0 _ g s0_0 t367 t368 from qs77_2_ HI0.out NB0_347.out NB0_365.out) (ps_ HO363.out) (by decide)) hk (fun _ h => h.2)) (fun _ h => h.1))
 have _ := Q_ (KeepBut.blk hk (g' := gb365) (o := .cells #[.slice Ao30 t358.length co30, .slice Ao32 t361.length co32] 71 (0, 0)) (pk_ BK365.out) NB365_0.out (by simp))
 have _ := Q_ (Kd.R_mono (Kd.R_keep (IsS77.apart (show IsS77 w0 _ g s0_0 t367 t368 from qs77_2_ HI0.out NB0_347.out NB0_365.out) (pr_ HO371.out) (by decide)) hk (fun _ h => h.2)) (fun _ h => h.1))
 have _ := Q_ (KeepBut.trans (qk2_ HK.out GW347.out GW365.out) hk (.inl rfl))
 have _ := Q_ (hb)
 have _ := Q_ (hi)
 clear HO_3 HO341 HO344 BK347 HO350 HO355 HO360 HO363 BK365 HO371 HK HB HI0
 rename_i HO_3 HO341 HO344 BK347 HO350 HO355 HO360 HO363 BK365 HO371 HK HB HI0
 (try clear hb)
 (try clear hb2)
 (try clear hk)
 (try clear hi)
 obtain ⟨Ao39, co39, eo39⟩ := Kd.S_slice HO_3.out
 (first | subst eo39 | (injection eo39 with f1_ f2_ f3_; have f4_ := f1_.symm; have f5_ := f3_.symm; clear f1_ f2_ f3_; subst f4_; subst f5_))
 obtain ⟨Ao40, co40, eo40⟩ := Kd.R_slice HO371.out
 (first | subst eo40 | (injection eo40 with f1_ f2_ f3_; have f4_ := f1_.symm; have f5_ := f3_.symm; clear f1_ f2_ f3_; subst f4_; subst f5_))
 refine hK.out _ _ ⟨(blk_cell BK347.out 0).trans rfl, (blk_cell BK347.out 1).trans rfl, (blk_cell BK365.out 0).trans rfl, (blk_cell BK365.out 1).trans rfl⟩ (fun hHeld => ?_)
 clear hK K
 refine no_ (some 33) ?_
 refine on_ 8 (some 34) (tf_ 9 10) HT_ (fun K hK => ?_)
 refine goes_ Try.func57 (by kernel_rfl) rfl #[.slice Ao39 x3_1.length co39, .int .i64 t366, .slice Ao40 t369.length co40, .int .i64 t372] (by rfl) rfl rfl mp_ ?_
 with_reducible refine (spec_Remember.calls k1 _ _ x3_1 t366 _ _ t369 t372 t375 _ ?side1 ?side2 ?side3 ?side4 A14.out).mono ?_
 (case side1 => exact pc_ ((Kd.S_reads' HO_3.out).2.2))
 (case side2 => exact (Kd.S_reads' HO_3.out).2.1)
 (case side3 => exact pc_ ((Kd.R_reads' HO371.out).2.2))
 (case side4 => exact (Kd.R_reads' HO371.out).2.1)
 rintro e w41 ⟨v376, rfl, ho0, hb⟩
 refine ⟨_, rfl, ?_⟩
 have _ := Q_ (Kd.S_elder' (ps_ HO_3.out) (Kd.S_base ho0) hb)
 have _ := Q_ (Kd.R_below (pr_ HO341.out) hb)
 have _ := Q_ (Kd.S_below (ps_ HO344.out) hb)
 have _ := Q_ (Kd.R_below (pr_ HO350.out) hb)
 have _ := Q_ (Kd.R_below (pr_ HO355.out) hb)
 have _ := Q_ (Kd.R_below (pr_ HO360.out) hb)
 have _ := Q_ (Kd.S_below (ps_ HO363.out) hb)
 have _ := Q_ (Kd.R_below (pr_ HO371.out) hb)
 have _ := Q_ (Kd.S_lower (Kd.S_new' (Kd.S_new' (Kd.S_new' (Kd.S_new' (Kd.S_new' (Kd.S_new' ho0 (Kd.S_lt (ps_ HO_3.out))) (Kd.R_lt (pr_ HO341.out))) (Kd.R_lt (pr_ HO350.out))) (Kd.R_lt (pr_ HO355.out))) (Kd.R_lt (pr_ HO360.out))) (Kd.R_lt (pr_ HO371.out))) (keep_size (w := w) (g := g) (row := none) (qk2_ HK.out GW347.out GW365.out)))
 have _ := Q_ (IsS77.below (qs77_2_ HI0.out NB0_347.out NB0_365.out) hb)
 have _ := Q_ (bb_ BK347.out hb)
 have _ := Q_ (bb_ BK365.out hb)
 have _ := Q_ (KeepBut.trans (qk2_ HK.out GW347.out GW365.out) (KeepBut.of_below hb g none) (.inl rfl))
 have _ := Q_ (below_step (qb3_ HB.out (IsS77.ge HI0.out) GE347.out GE365.out) hb)
 clear HO_3 HO341 HO344 HO350 HO355 HO360 HO363 HO371 HI0 BK347 BK365 HK HB
 rename_i HO_3 HO341 HO344 HO350 HO355 HO360 HO363 HO371 HO377 HI0 BK347 BK365 HK HB
 (try clear hb)
 (try clear hb2)
 (try clear hk)
 (try clear hi)
 (try clear ho0)
 refine hK.out _ _ ⟨(blk_cell BK347.out 0).trans rfl, (blk_cell BK347.out 1).trans rfl, (blk_cell BK365.out 0).trans rfl, (blk_cell BK365.out 1).trans rfl⟩ (fun hHeld => ?_)
 clear hK K
 refine no_ (some 34) ?_
 refine pu_ 9 (some 3) (tf_ 10 10) HT_ ?_
 refine done_ (done_of HT_.out (by kernel_rfl)) ?_
 try go_wp2
 go_roundg k1
 case measure => have := HK1.out; omega
 case rel => exact ⟨(t375), (wrap64 (x4_1 - 1)), (t373), (t374), el_, H', ⟨by have := HK1.out; omega⟩, ⟨ps_ (Kd.S_mono HO377.out (fun _ hk => trivial))⟩, ⟨qs77_2_ HI0.out NB0_347.out NB0_365.out⟩, ⟨qk2_ HK.out GW347.out GW365.out⟩, ⟨qb3_ HB.out (IsS77.ge HI0.out) GE347.out GE365.out⟩⟩

end Go.Proofs.Ytlcpaebidnaolaa.Print
