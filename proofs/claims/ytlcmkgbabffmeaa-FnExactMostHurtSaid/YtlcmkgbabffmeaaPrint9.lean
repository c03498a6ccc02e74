-- Written by a program of this session (printx.py) out of the translation; Lean checks it.
import Derived.Test.YtlcmkgbabffmeaaPrint0
import Derived.Test.YtlcmkgbabffmeaaPrint1
import Derived.Test.YtlcmkgbabffmeaaPrint2
import Derived.Test.YtlcmkgbabffmeaaPrint3
import Derived.Test.YtlcmkgbabffmeaaPrint4
import Derived.Test.YtlcmkgbabffmeaaPrint5
import Derived.Test.YtlcmkgbabffmeaaPrint6
import Derived.Test.YtlcmkgbabffmeaaPrint8
namespace Go.Proofs.Ytlcmkgbabffmeaa.Print
open Go.RowKit Go.Proofs.YtlcmkgbabffmeaaW.PrintWords Go.Proofs.YtlcmkgbabffmeaaW.PrintLast Go.Proofs.YtlcmkgbabffmeaaW.PrintMore
attribute [local go_sem] max2_int min2_int max_two min_two max_three min_three max_four min_four   -- for this text's walks alone
set_option linter.unusedVariables false
set_option linter.unusedSimpArgs false

/-! ### spec_DrawCountIn: function 33 -/
def spec_DrawCountIn.f (k : Nat) (l0 : List Int) : Option (Int × List Int × Int × Bool × Int) := (spec_l1New.f k l0).bind fun bt582 => ((spec_l26Any.f k bt582.1 bt582.2.1 bt582.2.2).bind fun bt586 => ((spec_l1Int.f bt582.1 bt586.2.2.2.2.1 bt586.2.2.2.2.2 (([0, 1, 7, 10, 10000, 10001, (-1)] : List Int))).bind fun bt598 => (some (bt586.1, bt586.2.1, bt586.2.2.1, bt586.2.2.2.1, bt598.1))))
theorem spec_DrawCountIn.mono : ∀ a0 k, LeO (spec_DrawCountIn.f k a0) (spec_DrawCountIn.f (k + 1) a0) := by
  intro a0 k
  unfold spec_DrawCountIn.f
  repeat' first
      | (with_reducible exact spec_l1New.mono _ _)
      | (with_reducible exact spec_l26Any.mono _ _ _ _)
      | (with_reducible exact LeO.refl _)
      | (with_reducible exact LeO.none _)
      | (with_reducible refine LeO.ite ?_ ?_)
      | (with_reducible refine LeO.bind ?_ (fun _ => ?_))
      | exact spec_l1New.mono _ _
      | exact spec_l26Any.mono _ _ _ _
      | exact LeO.none _
      | refine LeO.ite ?_ ?_
      | refine LeO.bind ?_ (fun _ => ?_)
set_option maxHeartbeats 8000000 in
set_option maxRecDepth 100000 in
theorem spec_DrawCountIn.calls (k : Nat) (A0 : Option Addr) (c0 : Nat) (l0 : List Int) (r1 : Int) (r2 : List Int) (r3 : Int) (r4 : Bool) (r5 : Int) (w : World) (hr0 : Kd.C (Kd.int .u8) w A0 l0.length l0) (hc0 : l0.length ≤ c0) (h : spec_DrawCountIn.f k l0 = some (r1, r2, r3, r4, r5)) :
    Calls Try.prog 33 #[.slice A0 l0.length c0] w fun e w' => ∃ v1_ : Value, e = .returned (.tuple #[.agg #[.int .i64 r1, v1_, .int .i64 r3, .bool r4], .int .i64 r5]) ∧ Kd.R (Kd.int .i64) 3 w' w.heap.size (fun _ => True) v1_ r2 ∧ Below w.heap.size w w' := by
  have hu27 := Try.underlying27
  have HR0 := Aside0.mk hr0
  have HC0 := Aside0.mk hc0
  clear hr0 hc0
  have HB := Aside0.mk (Below.refl w.heap.size w)
  have H : ((spec_l1New.f k l0).bind fun bt582 => ((spec_l26Any.f k bt582.1 bt582.2.1 bt582.2.2).bind fun bt586 => ((spec_l1Int.f bt582.1 bt586.2.2.2.2.1 bt586.2.2.2.2.2 (([0, 1, 7, 10, 10000, 10001, (-1)] : List Int))).bind fun bt598 => (some (bt586.1, bt586.2.1, bt586.2.2.1, bt586.2.2.2.1, bt598.1))))) = some (r1, r2, r3, r4, r5) := h
  clear h
  replace H := Option.bind_eq_some_iff.mp H
  obtain ⟨⟨t582, t583, t584⟩, A20, H⟩ := H
  replace H : ((spec_l26Any.f k t582 t583 t584).bind fun bt586 => ((spec_l1Int.f t582 bt586.2.2.2.2.1 bt586.2.2.2.2.2 (([0, 1, 7, 10, 10000, 10001, (-1)] : List Int))).bind fun bt598 => (some (bt586.1, bt586.2.1, bt586.2.2.1, bt586.2.2.2.1, bt598.1)))) = some (r1, r2, r3, r4, r5) := H
  have A2 := Aside0.mk A20
  clear A20
  replace H := Option.bind_eq_some_iff.mp H
  obtain ⟨⟨t586, t587, t590, t591, t592, t593⟩, A30, H⟩ := H
  replace H : ((spec_l1Int.f t582 t592 t593 (([0, 1, 7, 10, 10000, 10001, (-1)] : List Int))).bind fun bt598 => (some (t586, t587, t590, t591, bt598.1))) = some (r1, r2, r3, r4, r5) := H
  have A3 := Aside0.mk A30
  clear A30
  obtain ⟨y595, hy595⟩ : ∃ y_ : List Int, y_ = (([0, 1, 7, 10, 10000, 10001, (-1)] : List Int)) := ⟨_, rfl⟩
  replace H : ((spec_l1Int.f t582 t592 t593 y595).bind fun bt598 => (some (t586, t587, t590, t591, bt598.1))) = some (r1, r2, r3, r4, r5) := by first | (rw [hy595]; with_reducible exact H) | (have H2_ := (Option.bind_some _ _).symm.trans H; rw [hy595]; with_reducible exact H2_) | (have H2_ := (Option.bind_some _ _).symm.trans H; with_reducible exact H2_) | with_reducible exact H | (rw [hy595]; exact H) | exact H
  have Ny595 := Aside0.mk hy595
  clear hy595
  replace H := Option.bind_eq_some_iff.mp H
  obtain ⟨⟨t598, t599, t600⟩, A40, H⟩ := H
  replace H : (some (t586, t587, t590, t591, t598)) = some (r1, r2, r3, r4, r5) := H
  have A4 := Aside0.mk A40
  clear A40
  simp only [Option.some.injEq, Prod.mk.injEq] at H
  obtain ⟨rfl, rfl, rfl, rfl, rfl⟩ := H
  go_enter Try.func33, Try.ntmps33
  try go_wp2_with (first | ((with_reducible refine gate_dst (N := 2) rfl ?_); refine box_event ?hg (N := 2) ?hd (cs := #[.int .i64 0, .slice none 0 0, .int .i64 0, .bool false]) (t := 27) ?hr ?_; (case hd => rfl); (case hg => rfl); (case hr => first | (go_simp; done) | (go_simp; rfl)); intro gb581 hg w5 hbox hb; have n0_ := Aside0.mk (below_step (by repeat (first | (with_reducible first | exact HB.out | apply below_alloc | apply pw_below_drewN | apply below_drew1) | exact HB.out)) hb); have n1_ := Aside0.mk (hbox); have n2_ := Aside0.mk ((by rw [hg]; exact (below_size (by repeat (first | (with_reducible first | exact HB.out | apply below_alloc | apply pw_below_drewN | apply below_drew1) | exact HB.out))) : w.heap.size ≤ gb581)); have n3_ := Aside0.mk ((by rw [hg]; exact (below_size (by repeat (first | (with_reducible first | exact HB.out | apply below_alloc | apply pw_below_drewN | apply below_drew1) | exact HB.out))) : w.heap.size ≤ gb581)); clear HB; have HB := n0_; have BK581 := n1_; have GW581 := n2_; have GE581 := n3_; clear n0_ n1_ n2_ n3_; clear hb hbox hg) | ((with_reducible refine gate_callee (f := 61) rfl ?_); refine goesL_ (some 7) rfl rfl Try.func61 (by kernel_rfl) rfl #[.slice A0 l0.length c0] rfl (by (try simp only [List.map_toArray, List.map_cons, List.map_nil]); first | done | rfl | (simp only [List.length_drop, List.length_take]; rfl)) ?_; (with_reducible refine (spec_l1New.calls k _ _ l0 t582 t583 t584 w _ ?side1 ?side2 ?side3 A2.out).mono ?_); (case side1 => repeat (first | (with_reducible first | exact HB.out | apply below_alloc | apply pw_below_drewN | apply below_drew1 | refine below_set ?_ GE581.out) | exact HB.out)); (case side2 => exact HR0.out); (case side3 => exact HC0.out); rintro e w6 ⟨g585, rfl, hi, hb, hb2⟩; refine ⟨_, rfl, ?_⟩; have n0_ := Aside0.mk (blk_below (g := gb581) (o := .cells #[.int .i64 0, .slice none 0 0, .int .i64 0, .bool false] 27 (0, 0)) (by (with_reducible repeat (first | refine blk_drewN ?_ _ | refine blk_drew ?_ | refine blk_alloc ?_ _)); exact BK581.out) hb2); have n1_ := Aside0.mk (hb); have n2_ := Aside0.mk (hi); have n3_ := Aside0.mk (IsS73.ne_blk hi (blk_below (g := gb581) (o := .cells #[.int .i64 0, .slice none 0 0, .int .i64 0, .bool false] 27 (0, 0)) (by (with_reducible repeat (first | refine blk_drewN ?_ _ | refine blk_drew ?_ | refine blk_alloc ?_ _)); exact BK581.out) hb2) (by decide)); have n4_ := Aside0.mk (Ne.symm (IsS73.ne_blk hi (blk_below (g := gb581) (o := .cells #[.int .i64 0, .slice none 0 0, .int .i64 0, .bool false] 27 (0, 0)) (by (with_reducible repeat (first | refine blk_drewN ?_ _ | refine blk_drew ?_ | refine blk_alloc ?_ _)); exact BK581.out) hb2) (by decide))); clear BK581; clear HB; have BK581 := n0_; have HB := n1_; have HI585 := n2_; have NB585_581 := n3_; have NB581_585 := n4_; clear n0_ n1_ n2_ n3_ n4_; (try clear hb); (try clear hb2); (try clear hk); (try clear hi)) | ((with_reducible refine gate_callee (f := 62) rfl ?_); refine goesL_ (some 9) rfl rfl Try.func62 (by kernel_rfl) rfl #[.pointer (some ⟨g585, 0, none⟩)] rfl (by (try simp only [List.map_toArray, List.map_cons, List.map_nil]); first | done | rfl | (simp only [List.length_drop, List.length_take]; rfl)) ?_; (with_reducible refine (spec_l26Any.calls k g585 t582 t583 t584 t586 t587 t590 t591 t592 t593 w _ ?side1 ?side2 A3.out).mono ?_); (case side1 => repeat (first | (with_reducible first | exact HI585.out | apply IsS73.alloc | apply IsS73.drewN | apply IsS73.drew | apply IsS73.set_1 | apply IsS73.set_2 | refine IsS73.far ?_ NB585_581.out _) | exact HI585.out)); (case side2 => repeat (first | (with_reducible first | exact HB.out | apply below_alloc | apply pw_below_drewN | apply below_drew1 | refine below_set ?_ (IsS73.ge HI585.out) | refine below_set ?_ GE581.out) | exact HB.out)); rintro e w7 ⟨v588, rfl, ho0, hi, hb, hk⟩; refine ⟨_, rfl, ?_⟩; have n0_ := Aside0.mk (KeepBut.blk hk (g' := gb581) (o := .cells #[.int .i64 0, .slice none 0 0, .int .i64 0, .bool false] 27 (0, 0)) (by (with_reducible repeat (first | refine blk_drewN ?_ _ | refine blk_drew ?_ | refine blk_alloc ?_ _)); exact BK581.out) NB581_585.out (by simp)); have n1_ := Aside0.mk (Kd.R_lower ho0 (below_size (by repeat (first | (with_reducible first | exact HB.out | apply below_alloc | apply pw_below_drewN | apply below_drew1 | refine below_set ?_ (IsS73.ge HI585.out) | refine below_set ?_ GE581.out) | exact HB.out)))); have n2_ := Aside0.mk (hb); have n3_ := Aside0.mk (hi); clear BK581; clear HB; clear HI585; have BK581 := n0_; have HO589 := n1_; have HB := n2_; have HI585 := n3_; clear n0_ n1_ n2_ n3_; (try clear hb); (try clear hb2); (try clear hk); (try clear hi); (try clear ho0)) | ((with_reducible refine gate_dst (N := 5) rfl ?_); refine box_event ?hg (N := 5) ?hd (cs := #[.int .i64 0, .slice none 0 0, .int .i64 0, .bool false]) (t := 27) ?hr ?_; (case hd => rfl); (case hg => rfl); (case hr => first | (go_simp; done) | (go_simp; rfl)); intro gb594 hg w8 hbox hb; have n0_ := Aside0.mk (Kd.R_below (by (with_reducible repeat (first | apply Kd.R_alloc | apply Kd.R_drewN | apply Kd.R_drew)); exact HO589.out) hb); have n1_ := Aside0.mk (blk_below (g := gb581) (o := .cells #[.int .i64 0, .slice none 0 0, .int .i64 0, .bool false] 27 (0, 0)) (by (with_reducible repeat (first | refine blk_drewN ?_ _ | refine blk_drew ?_ | refine blk_alloc ?_ _)); exact BK581.out) hb); have n2_ := Aside0.mk (IsS73.below (by repeat (first | (with_reducible first | exact HI585.out | apply IsS73.alloc | apply IsS73.drewN | apply IsS73.drew | apply IsS73.set_1 | apply IsS73.set_2 | refine IsS73.far ?_ NB585_581.out _) | exact HI585.out)) hb); have n3_ := Aside0.mk (below_step (by repeat (first | (with_reducible first | exact HB.out | apply below_alloc | apply pw_below_drewN | apply below_drew1 | refine below_set ?_ (IsS73.ge HI585.out) | refine below_set ?_ GE581.out) | exact HB.out)) hb); have n4_ := Aside0.mk (hbox); have n5_ := Aside0.mk ((by rw [hg]; exact (below_size (by repeat (first | (with_reducible first | exact HB.out | apply below_alloc | apply pw_below_drewN | apply below_drew1 | refine below_set ?_ (IsS73.ge HI585.out) | refine below_set ?_ GE581.out) | exact HB.out))) : w.heap.size ≤ gb594)); have n6_ := Aside0.mk ((by rw [hg]; exact (below_size (by repeat (first | (with_reducible first | exact HB.out | apply below_alloc | apply pw_below_drewN | apply below_drew1 | refine below_set ?_ (IsS73.ge HI585.out) | refine below_set ?_ GE581.out) | exact HB.out))) : w.heap.size ≤ gb594)); have n7_ := Aside0.mk ((by rw [hg]; exact Nat.ne_of_lt (blk_lt (g := gb581) (o := .cells #[.int .i64 0, .slice none 0 0, .int .i64 0, .bool false] 27 (0, 0)) (by (with_reducible repeat (first | refine blk_drewN ?_ _ | refine blk_drew ?_ | refine blk_alloc ?_ _)); exact BK581.out)) : gb581 ≠ gb594)); have n8_ := Aside0.mk ((by rw [hg]; exact Nat.ne_of_gt (blk_lt (g := gb581) (o := .cells #[.int .i64 0, .slice none 0 0, .int .i64 0, .bool false] 27 (0, 0)) (by (with_reducible repeat (first | refine blk_drewN ?_ _ | refine blk_drew ?_ | refine blk_alloc ?_ _)); exact BK581.out)) : gb594 ≠ gb581)); have n9_ := Aside0.mk ((by rw [hg]; exact Nat.ne_of_lt (IsS73.lt (show IsS73 w _ g585 t582 t592 t593 from by repeat (first | (with_reducible first | exact HI585.out | apply IsS73.alloc | apply IsS73.drewN | apply IsS73.drew | apply IsS73.set_1 | apply IsS73.set_2 | refine IsS73.far ?_ NB585_581.out _) | exact HI585.out))) : g585 ≠ gb594)); have n10_ := Aside0.mk ((by rw [hg]; exact Nat.ne_of_gt (IsS73.lt (show IsS73 w _ g585 t582 t592 t593 from by repeat (first | (with_reducible first | exact HI585.out | apply IsS73.alloc | apply IsS73.drewN | apply IsS73.drew | apply IsS73.set_1 | apply IsS73.set_2 | refine IsS73.far ?_ NB585_581.out _) | exact HI585.out))) : gb594 ≠ g585)); clear HO589; clear BK581; clear HI585; clear HB; have HO589 := n0_; have BK581 := n1_; have HI585 := n2_; have HB := n3_; have BK594 := n4_; have GW594 := n5_; have GE594 := n6_; have NB581_594 := n7_; have NB594_581 := n8_; have NB585_594 := n9_; have NB594_585 := n10_; clear n0_ n1_ n2_ n3_ n4_ n5_ n6_ n7_ n8_ n9_ n10_; clear hb hbox hg; have hnb9 := NB594_581.out; have hnc9 := NB581_594.out; have hnb10 := NB594_585.out; have hnc10 := NB585_594.out; have hcz11_0 : w8.cell? ⟨gb594, 0, none⟩ = some (.int .i64 0) := (blk_cell BK594.out 0).trans rfl; have hcz11_1 : w8.cell? ⟨gb594, 1, none⟩ = some (.slice none 0 0) := (blk_cell BK594.out 1).trans rfl; have hcz11_2 : w8.cell? ⟨gb594, 2, none⟩ = some (.int .i64 0) := (blk_cell BK594.out 2).trans rfl; have hcz11_3 : w8.cell? ⟨gb594, 3, none⟩ = some (.bool false) := (blk_cell BK594.out 3).trans rfl; have hfz11_0 := blk_frozen BK594.out 0; have hfz11_1 := blk_frozen BK594.out 1; have hfz11_2 := blk_frozen BK594.out 2; have hfz11_3 := blk_frozen BK594.out 3; obtain ⟨Ao12, co12, eo12⟩ := Kd.R_slice HO589.out; subst eo12))
  have n0_ : Aside0 (Kd.R (Kd.int .i64) 3 ((((w8.setCell ⟨gb594, 0, none⟩ (.int .i64 t586)).setCell ⟨gb594, 1, none⟩ (.slice Ao12 t587.length co12)).setCell ⟨gb594, 2, none⟩ (.int .i64 t590)).setCell ⟨gb594, 3, none⟩ (.bool t591)) w.heap.size (fun _ => True) (.slice Ao12 t587.length co12) t587) := ⟨by (with_reducible repeat (first | apply Kd.R_alloc | apply Kd.R_drewN | apply Kd.R_drew)); exact Kd.R_mono (Kd.R_far (p := ⟨gb594, 3, none⟩) (Kd.R_far (p := ⟨gb594, 2, none⟩) (Kd.R_far (p := ⟨gb594, 1, none⟩) (Kd.R_far (p := ⟨gb594, 0, none⟩) (Kd.R_types HO589.out BK594.out (by decide)) (fun _ hk => hk.2) (.int .i64 t586)) (fun _ hk => hk.2) (.slice Ao12 t587.length co12)) (fun _ hk => hk.2) (.int .i64 t590)) (fun _ hk => hk.2) (.bool t591)) (fun _ hk => trivial)⟩
  have n1_ : Aside0 (((((w8.setCell ⟨gb594, 0, none⟩ (.int .i64 t586)).setCell ⟨gb594, 1, none⟩ (.slice Ao12 t587.length co12)).setCell ⟨gb594, 2, none⟩ (.int .i64 t590)).setCell ⟨gb594, 3, none⟩ (.bool t591)).heap[gb581]? = some (.cells #[.int .i64 0, .slice none 0 0, .int .i64 0, .bool false] 27 (0, 0))) := ⟨by (with_reducible repeat (first | refine blk_drewN ?_ _ | refine blk_drew ?_ | refine blk_alloc ?_ _)); refine blk_far ?_ NB581_594.out _; (with_reducible repeat (first | refine blk_drewN ?_ _ | refine blk_drew ?_ | refine blk_alloc ?_ _)); refine blk_far ?_ NB581_594.out _; (with_reducible repeat (first | refine blk_drewN ?_ _ | refine blk_drew ?_ | refine blk_alloc ?_ _)); refine blk_far ?_ NB581_594.out _; (with_reducible repeat (first | refine blk_drewN ?_ _ | refine blk_drew ?_ | refine blk_alloc ?_ _)); refine blk_far ?_ NB581_594.out _; (with_reducible repeat (first | refine blk_drewN ?_ _ | refine blk_drew ?_ | refine blk_alloc ?_ _)); exact BK581.out⟩
  have n2_ : Aside0 (((((w8.setCell ⟨gb594, 0, none⟩ (.int .i64 t586)).setCell ⟨gb594, 1, none⟩ (.slice Ao12 t587.length co12)).setCell ⟨gb594, 2, none⟩ (.int .i64 t590)).setCell ⟨gb594, 3, none⟩ (.bool t591)).heap[gb594]? = some (.cells #[.int .i64 t586, .slice Ao12 t587.length co12, .int .i64 t590, .bool t591] 27 (0, 0))) := ⟨by (with_reducible repeat (first | refine blk_drewN ?_ _ | refine blk_drew ?_ | refine blk_alloc ?_ _)); refine blk_put (cs := #[.int .i64 t586, .slice Ao12 t587.length co12, .int .i64 t590, .bool false]) ?_ 3 _ rfl; (with_reducible repeat (first | refine blk_drewN ?_ _ | refine blk_drew ?_ | refine blk_alloc ?_ _)); refine blk_put (cs := #[.int .i64 t586, .slice Ao12 t587.length co12, .int .i64 0, .bool false]) ?_ 2 _ rfl; (with_reducible repeat (first | refine blk_drewN ?_ _ | refine blk_drew ?_ | refine blk_alloc ?_ _)); refine blk_put (cs := #[.int .i64 t586, .slice none 0 0, .int .i64 0, .bool false]) ?_ 1 _ rfl; (with_reducible repeat (first | refine blk_drewN ?_ _ | refine blk_drew ?_ | refine blk_alloc ?_ _)); refine blk_put (cs := #[.int .i64 0, .slice none 0 0, .int .i64 0, .bool false]) ?_ 0 _ rfl; (with_reducible repeat (first | refine blk_drewN ?_ _ | refine blk_drew ?_ | refine blk_alloc ?_ _)); exact BK594.out⟩
  have n3_ : Aside0 (IsS73 w ((((w8.setCell ⟨gb594, 0, none⟩ (.int .i64 t586)).setCell ⟨gb594, 1, none⟩ (.slice Ao12 t587.length co12)).setCell ⟨gb594, 2, none⟩ (.int .i64 t590)).setCell ⟨gb594, 3, none⟩ (.bool t591)) g585 t582 t592 t593) := ⟨by repeat (first | (with_reducible first | exact HI585.out | apply IsS73.alloc | apply IsS73.drewN | apply IsS73.drew | apply IsS73.set_1 | apply IsS73.set_2 | refine IsS73.far ?_ NB585_581.out _ | refine IsS73.far ?_ NB585_594.out _) | exact HI585.out)⟩
  have n4_ : Aside0 (Below w.heap.size w ((((w8.setCell ⟨gb594, 0, none⟩ (.int .i64 t586)).setCell ⟨gb594, 1, none⟩ (.slice Ao12 t587.length co12)).setCell ⟨gb594, 2, none⟩ (.int .i64 t590)).setCell ⟨gb594, 3, none⟩ (.bool t591))) := ⟨by repeat (first | (with_reducible first | exact HB.out | apply below_alloc | apply pw_below_drewN | apply below_drew1 | refine below_set ?_ (IsS73.ge HI585.out) | refine below_set ?_ GE581.out | refine below_set ?_ GE594.out) | exact HB.out)⟩
  (try clear HO589)
  (try clear BK581)
  (try clear BK594)
  (try clear HI585)
  (try clear HB)
  generalize ((((w8.setCell ⟨gb594, 0, none⟩ (.int .i64 t586)).setCell ⟨gb594, 1, none⟩ (.slice Ao12 t587.length co12)).setCell ⟨gb594, 2, none⟩ (.int .i64 t590)).setCell ⟨gb594, 3, none⟩ (.bool t591)) = w13 at n0_ n1_ n2_ n3_ n4_ ⊢
  have HO589 := n0_
  have BK581 := n1_
  have BK594 := n2_
  have HI585 := n3_
  have HB := n4_
  clear n0_ n1_ n2_ n3_ n4_
  have n0_ := Aside0.mk (Kd.R_drew HO589.out)
  have n1_ := Aside0.mk (blk_drew BK581.out)
  have n2_ := Aside0.mk (blk_drew BK594.out)
  have n3_ := Aside0.mk (IsS73.drew HI585.out)
  have n4_ := Aside0.mk (below_drew1 HB.out)
  clear HO589
  clear BK581
  clear BK594
  clear HI585
  clear HB
  have HO589 := n0_
  have BK581 := n1_
  have BK594 := n2_
  have HI585 := n3_
  have HB := n4_
  clear n0_ n1_ n2_ n3_ n4_
  refine start_ (n := 6) (S := fun w' => w'.cell? ⟨gb594, 0, none⟩ = some (.int .i64 t586) ∧ w'.cell? ⟨gb594, 1, none⟩ = some (.slice Ao12 t587.length co12) ∧ w'.cell? ⟨gb594, 2, none⟩ = some (.int .i64 t590) ∧ w'.cell? ⟨gb594, 3, none⟩ = some (.bool t591)) (ds := []) #[false, false, false, false, false, false] (by kernel_rfl) rfl rfl ⟨(blk_cell BK594.out 0).trans rfl, (blk_cell BK594.out 1).trans rfl, (blk_cell BK594.out 2).trans rfl, (blk_cell BK594.out 3).trans rfl⟩ (fun hHeld => ?_)
  generalize w13.drew = w14 at HO589 BK581 BK594 HI585 HB hHeld ⊢
  refine pure_ (i := 1) (N := some 11) (v := ?_) (a' := ?_) #[false, true, false, false, false, false] rfl rfl (by kernel_rfl) (fun _ _ _ h => h) (Or.inl ⟨by rfl, ?_⟩) ?_ ?_
  rotate_left
  · intro w'
    go_simp
    (try (simp only [Instr.field]; simp only [underlying, hu27]; go_simp; simp only [asAgg]; go_simp))
    with_reducible rfl
  rotate_left
  · simp only [Act.put, List.setIfInBounds_toArray, List.set_cons_zero, List.set_cons_succ, i64_w, i32_w]
    rfl
  refine take_ (i := 0) (N := some 10) (v := ?_) (a' := ?_) #[true, true, false, false, false, false] rfl rfl (by kernel_rfl) (fun _ _ _ h => h) (Or.inl ⟨by rfl, ?_⟩) hHeld ?_ ?_
  rotate_left
  · rintro w' ⟨s0, s1, s2, s3⟩
    go_simp
    (try (simp only [Instr.field]; simp only [underlying, hu27]; go_simp; simp only [asAgg]; go_simp))
    with_reducible rfl
  rotate_left
  · simp only [Act.put, List.setIfInBounds_toArray, List.set_cons_zero, List.set_cons_succ, i64_w, i32_w]
    rfl
  refine one_ (i := 2) (N := some 12) #[true, true, true, false, false, false] rfl rfl (by kernel_rfl) (by decide) (fun K hK => ?_)
  refine Kd.R_lit_step (Kd.int .i64) _ 3 ?hg (N := 12) ?hd (xs := ([0, 1, 7, 10, 10000, 10001, (-1)] : List Int)) (inner := [.int .i64 0, .int .i64 1, .int .i64 7, .int .i64 10, .int .i64 10000, .int .i64 10001, .int .i64 (-1)]) (ok := fun _ => True) (okp := fun _ => True) ?hr ?hp (fun _ hk => hk) trivial (Below.refl _ _) (Nat.le_refl _) (by simp) ?_; (case hd => rfl); (case hg => rfl); (case hr => first | (go_simp; done) | (go_simp; rfl)); (case hp => exact (Reps.one (show Kd.M (Kd.int .i64) _ _ _ 0 [.int .i64 0] from rfl) (Reps.one (show Kd.M (Kd.int .i64) _ _ _ 1 [.int .i64 1] from rfl) (Reps.one (show Kd.M (Kd.int .i64) _ _ _ 7 [.int .i64 7] from rfl) (Reps.one (show Kd.M (Kd.int .i64) _ _ _ 10 [.int .i64 10] from rfl) (Reps.one (show Kd.M (Kd.int .i64) _ _ _ 10000 [.int .i64 10000] from rfl) (Reps.one (show Kd.M (Kd.int .i64) _ _ _ 10001 [.int .i64 10001] from rfl) (Reps.one (show Kd.M (Kd.int .i64) _ _ _ (-1) [.int .i64 (-1)] from rfl) (Reps.none _ _)))))))))
  intro v596 w15 ho16 hb hg_ hnew_
  clear hg_ hnew_
  (first | rw [← Ny595.out] at ho16 | (simp only [Int.reduceToNat] at ho16; rw [← Ny595.out] at ho16))
  have n0_ := Aside0.mk (Kd.R_elder' (by (with_reducible repeat (first | apply Kd.R_alloc | apply Kd.R_drewN | apply Kd.R_drew)); exact HO589.out) (Kd.R_base ho16) hb)
  have n1_ := Aside0.mk (Kd.R_lower (Kd.R_new' ho16 (Kd.R_lt (by (with_reducible repeat (first | apply Kd.R_alloc | apply Kd.R_drewN | apply Kd.R_drew)); exact HO589.out))) (below_size (by repeat (first | (with_reducible first | exact HB.out | apply below_alloc | apply pw_below_drewN | apply below_drew1 | refine below_set ?_ (IsS73.ge HI585.out) | refine below_set ?_ GE581.out | refine below_set ?_ GE594.out) | exact HB.out))))
  have n2_ := Aside0.mk (blk_below (g := gb581) (o := .cells #[.int .i64 0, .slice none 0 0, .int .i64 0, .bool false] 27 (0, 0)) (by (with_reducible repeat (first | refine blk_drewN ?_ _ | refine blk_drew ?_ | refine blk_alloc ?_ _)); exact BK581.out) hb)
  have n3_ := Aside0.mk (IsS73.below (by repeat (first | (with_reducible first | exact HI585.out | apply IsS73.alloc | apply IsS73.drewN | apply IsS73.drew | apply IsS73.set_1 | apply IsS73.set_2 | refine IsS73.far ?_ NB585_581.out _ | refine IsS73.far ?_ NB585_594.out _) | exact HI585.out)) hb)
  have n4_ := Aside0.mk (blk_below (g := gb594) (o := .cells #[.int .i64 t586, .slice Ao12 t587.length co12, .int .i64 t590, .bool t591] 27 (0, 0)) (by (with_reducible repeat (first | refine blk_drewN ?_ _ | refine blk_drew ?_ | refine blk_alloc ?_ _)); exact BK594.out) hb)
  have n5_ := Aside0.mk (below_step (by repeat (first | (with_reducible first | exact HB.out | apply below_alloc | apply pw_below_drewN | apply below_drew1 | refine below_set ?_ (IsS73.ge HI585.out) | refine below_set ?_ GE581.out | refine below_set ?_ GE594.out) | exact HB.out)) hb)
  clear HO589
  clear BK581
  clear HI585
  clear BK594
  clear HB
  have HO589 := n0_
  have HO597 := n1_
  have BK581 := n2_
  have HI585 := n3_
  have BK594 := n4_
  have HB := n5_
  clear n0_ n1_ n2_ n3_ n4_ n5_
  clear hb ho16
  obtain ⟨Ao17, co17, eo17⟩ := Kd.R_slice HO597.out
  (first | subst eo17 | (injection eo17 with f1_ f2_ f3_; have f4_ := f1_.symm; have f5_ := f3_.symm; clear f1_ f2_ f3_; subst f4_; subst f5_))
  refine hK.out _ _ ⟨(blk_cell BK594.out 0).trans rfl, (blk_cell BK594.out 1).trans rfl, (blk_cell BK594.out 2).trans rfl, (blk_cell BK594.out 3).trans rfl⟩ (fun hHeld => ?_)
  clear hK K
  refine norm_ (a' := ?_) ?_ ?_
  rotate_left
  · show Act.put _ (some 12) _ = _
    simp only [Act.put, List.setIfInBounds_toArray, List.set_cons_zero, List.set_cons_succ, i64_w, i32_w]
    rfl
  refine one_ (i := 3) (N := some 13) #[true, true, true, true, false, false] rfl rfl (by kernel_rfl) (by decide) (fun K hK => ?_)
  refine goes_ Try.func63 (by kernel_rfl) rfl #[.pointer (some ⟨g585, 0, none⟩), .slice Ao17 y595.length co17] (by rfl) rfl rfl (by (try simp only [List.map_toArray, List.map_cons, List.map_nil]); first | done | rfl | (simp only [List.length_drop, List.length_take]; rfl)) ?_
  with_reducible refine (spec_l1Int.calls g585 t582 t592 t593 _ _ y595 t598 t599 t600 w _ ?side1 ?side2 ?side3 ?side4 ?side5 A4.out).mono ?_
  (case side1 => repeat (first | (with_reducible first | exact HI585.out | apply IsS73.alloc | apply IsS73.drewN | apply IsS73.drew | apply IsS73.set_1 | apply IsS73.set_2 | refine IsS73.far ?_ NB585_581.out _ | refine IsS73.far ?_ NB585_594.out _) | exact HI585.out))
  (case side2 => repeat (first | (with_reducible first | exact HB.out | apply below_alloc | apply pw_below_drewN | apply below_drew1 | refine below_set ?_ (IsS73.ge HI585.out) | refine below_set ?_ GE581.out | refine below_set ?_ GE594.out) | exact HB.out))
  (case side3 => repeat (first | exact (Kd.R_reads' HO597.out).2.2 | (with_reducible refine Kd.C_alloc ?_ _) | (with_reducible refine Kd.C_drewN ?_ _) | (with_reducible refine Kd.C_drew ?_)))
  (case side4 => exact (Kd.R_reads' HO597.out).2.1)
  (case side5 => exact far_slice (IsS73.own_ne HI585.out HO597.out (by decide)))
  rintro e w18 ⟨rfl, hi, hb, hk⟩
  refine ⟨_, rfl, ?_⟩
  have n0_ := Aside0.mk (KeepBut.blk hk (g' := gb581) (o := .cells #[.int .i64 0, .slice none 0 0, .int .i64 0, .bool false] 27 (0, 0)) (by (with_reducible repeat (first | refine blk_drewN ?_ _ | refine blk_drew ?_ | refine blk_alloc ?_ _)); exact BK581.out) NB581_585.out (by simp))
  have n1_ := Aside0.mk (Kd.R_mono (Kd.R_keep (IsS73.apart (show IsS73 w _ g585 t582 t592 t593 from by repeat (first | (with_reducible first | exact HI585.out | apply IsS73.alloc | apply IsS73.drewN | apply IsS73.drew | apply IsS73.set_1 | apply IsS73.set_2 | refine IsS73.far ?_ NB585_581.out _ | refine IsS73.far ?_ NB585_594.out _) | exact HI585.out)) (by (with_reducible repeat (first | apply Kd.R_alloc | apply Kd.R_drewN | apply Kd.R_drew)); exact HO589.out) (by decide)) hk (fun _ h => h.2)) (fun _ h => h.1))
  have n2_ := Aside0.mk (KeepBut.blk hk (g' := gb594) (o := .cells #[.int .i64 t586, .slice Ao12 t587.length co12, .int .i64 t590, .bool t591] 27 (0, 0)) (by (with_reducible repeat (first | refine blk_drewN ?_ _ | refine blk_drew ?_ | refine blk_alloc ?_ _)); exact BK594.out) NB594_585.out (by simp))
  have n3_ := Aside0.mk (Kd.R_mono (Kd.R_keep (IsS73.apart (show IsS73 w _ g585 t582 t592 t593 from by repeat (first | (with_reducible first | exact HI585.out | apply IsS73.alloc | apply IsS73.drewN | apply IsS73.drew | apply IsS73.set_1 | apply IsS73.set_2 | refine IsS73.far ?_ NB585_581.out _ | refine IsS73.far ?_ NB585_594.out _) | exact HI585.out)) (by (with_reducible repeat (first | apply Kd.R_alloc | apply Kd.R_drewN | apply Kd.R_drew)); exact HO597.out) (by decide)) hk (fun _ h => h.2)) (fun _ h => h.1))
  have n4_ := Aside0.mk (hb)
  have n5_ := Aside0.mk (hi)
  clear BK581
  clear HO589
  clear BK594
  clear HO597
  clear HB
  clear HI585
  have BK581 := n0_
  have HO589 := n1_
  have BK594 := n2_
  have HO597 := n3_
  have HB := n4_
  have HI585 := n5_
  clear n0_ n1_ n2_ n3_ n4_ n5_
  (try clear hb)
  (try clear hb2)
  (try clear hk)
  (try clear hi)
  refine hK.out _ _ ⟨(blk_cell BK594.out 0).trans rfl, (blk_cell BK594.out 1).trans rfl, (blk_cell BK594.out 2).trans rfl, (blk_cell BK594.out 3).trans rfl⟩ (fun hHeld => ?_)
  clear hK K
  refine norm_ (a' := ?_) ?_ ?_
  rotate_left
  · show Act.put _ (some 13) _ = _
    simp only [Act.put, List.setIfInBounds_toArray, List.set_cons_zero, List.set_cons_succ, i64_w, i32_w]
    rfl
  refine one_ (i := 4) (N := none) #[true, true, true, true, true, false] rfl rfl (by kernel_rfl) (by decide) (fun K hK => ?_)
  have hs19 : w18.cell? ⟨gb581, 0, none⟩ = some (.int .i64 0) := (blk_cell BK581.out 0).trans rfl
  have hfs19 := blk_frozen BK581.out 0
  have hns19_1 := NB594_581.out
  have hms19_1 := NB581_594.out
  have hs20 : w18.cell? ⟨gb581, 1, none⟩ = some (.slice none 0 0) := (blk_cell BK581.out 1).trans rfl
  have hfs20 := blk_frozen BK581.out 1
  have hns20_1 := NB594_581.out
  have hms20_1 := NB581_594.out
  have hs21 : w18.cell? ⟨gb581, 2, none⟩ = some (.int .i64 0) := (blk_cell BK581.out 2).trans rfl
  have hfs21 := blk_frozen BK581.out 2
  have hns21_1 := NB594_581.out
  have hms21_1 := NB581_594.out
  have hs22 : w18.cell? ⟨gb581, 3, none⟩ = some (.bool false) := (blk_cell BK581.out 3).trans rfl
  have hfs22 := blk_frozen BK581.out 3
  have hns22_1 := NB594_581.out
  have hms22_1 := NB581_594.out
  refine skip_ (w1 := ?_) (by rfl) rfl ?_ ?_
  rotate_left
  · go_simp
    rfl
  refine hK.out _ _ ⟨((cell_far (p := ⟨gb581, _, none⟩) NB594_581.out _).trans (((cell_far (p := ⟨gb581, _, none⟩) NB594_581.out _).trans (((cell_far (p := ⟨gb581, _, none⟩) NB594_581.out _).trans (((cell_far (p := ⟨gb581, _, none⟩) NB594_581.out _).trans (hHeld.1)))))))), ((cell_far (p := ⟨gb581, _, none⟩) NB594_581.out _).trans (((cell_far (p := ⟨gb581, _, none⟩) NB594_581.out _).trans (((cell_far (p := ⟨gb581, _, none⟩) NB594_581.out _).trans (((cell_far (p := ⟨gb581, _, none⟩) NB594_581.out _).trans (hHeld.2.1)))))))), ((cell_far (p := ⟨gb581, _, none⟩) NB594_581.out _).trans (((cell_far (p := ⟨gb581, _, none⟩) NB594_581.out _).trans (((cell_far (p := ⟨gb581, _, none⟩) NB594_581.out _).trans (((cell_far (p := ⟨gb581, _, none⟩) NB594_581.out _).trans (hHeld.2.2.1)))))))), ((cell_far (p := ⟨gb581, _, none⟩) NB594_581.out _).trans (((cell_far (p := ⟨gb581, _, none⟩) NB594_581.out _).trans (((cell_far (p := ⟨gb581, _, none⟩) NB594_581.out _).trans (((cell_far (p := ⟨gb581, _, none⟩) NB594_581.out _).trans (hHeld.2.2.2))))))))⟩ (fun hHeld => ?_)
  clear hK K
  refine pure_ (i := 5) (N := some 3) (v := ?_) (a' := ?_) #[true, true, true, true, true, true] rfl rfl (by kernel_rfl) (fun _ _ _ h => h) (Or.inl ⟨by rfl, ?_⟩) ?_ ?_
  rotate_left
  · intro w'
    go_simp
    (try (simp only [Instr.field]; simp only [underlying, hu27]; go_simp; simp only [asAgg]; go_simp))
    with_reducible rfl
  rotate_left
  · simp only [Act.put, List.setIfInBounds_toArray, List.set_cons_zero, List.set_cons_succ, i64_w, i32_w]
    rfl
  refine done_ (by kernel_rfl) ?_
  try go_wp2
  refine bodyPost_ret (results_ct rfl _ _ gb581 27 #[.int .i64 t586, .slice Ao12 t587.length co12, .int .i64 t590, .bool t591] (0, 0) _ rfl (by (with_reducible repeat (first | refine blk_drewN ?_ _ | refine blk_drew ?_ | refine blk_alloc ?_ _)); refine blk_put (cs := #[.int .i64 t586, .slice Ao12 t587.length co12, .int .i64 t590, .bool false]) ?_ 3 _ rfl; (with_reducible repeat (first | refine blk_drewN ?_ _ | refine blk_drew ?_ | refine blk_alloc ?_ _)); refine blk_put (cs := #[.int .i64 t586, .slice Ao12 t587.length co12, .int .i64 0, .bool false]) ?_ 2 _ rfl; (with_reducible repeat (first | refine blk_drewN ?_ _ | refine blk_drew ?_ | refine blk_alloc ?_ _)); refine blk_put (cs := #[.int .i64 t586, .slice none 0 0, .int .i64 0, .bool false]) ?_ 1 _ rfl; (with_reducible repeat (first | refine blk_drewN ?_ _ | refine blk_drew ?_ | refine blk_alloc ?_ _)); refine blk_put (cs := #[.int .i64 0, .slice none 0 0, .int .i64 0, .bool false]) ?_ 0 _ rfl; (with_reducible repeat (first | refine blk_drewN ?_ _ | refine blk_drew ?_ | refine blk_alloc ?_ _)); exact BK581.out) Try.underlying27 rfl (by kernel_rfl)) rfl ?_
  exact ⟨_, by first | rfl | (simp [errW_none, errW_some] <;> rfl) | (simp [*, errW_none, errW_some] <;> rfl), by (with_reducible repeat (first | apply Kd.R_alloc | apply Kd.R_drewN | apply Kd.R_drew)); exact Kd.R_mono (Kd.R_far (p := ⟨gb581, 3, none⟩) (Kd.R_far (p := ⟨gb581, 2, none⟩) (Kd.R_far (p := ⟨gb581, 1, none⟩) (Kd.R_far (p := ⟨gb581, 0, none⟩) (Kd.R_types HO589.out BK581.out (by decide)) (fun _ hk => hk.2) (.int .i64 t586)) (fun _ hk => hk.2) (.slice Ao12 t587.length co12)) (fun _ hk => hk.2) (.int .i64 t590)) (fun _ hk => hk.2) (.bool t591)) (fun _ hk => trivial), by repeat (first | (with_reducible first | exact HB.out | apply below_alloc | apply pw_below_drewN | apply below_drew1 | refine below_set ?_ (IsS73.ge HI585.out) | refine below_set ?_ GE581.out | refine below_set ?_ GE594.out) | exact HB.out)⟩

/-! ### spec_Max: function 64 -/
def spec_Max.f (a0 : Int) (a1 : Int) : Option (Int) := if a1 > a0 then (some a1) else (some a0)
set_option maxHeartbeats 8000000 in
set_option maxRecDepth 100000 in
theorem spec_Max.calls (a0 : Int) (a1 : Int) (r : Int) (w : World) (h : spec_Max.f a0 a1 = some r) :
    Calls Try.prog 64 #[.int .i64 a0, .int .i64 a1] w fun e w' => e = .returned (.int .i64 r) ∧ Drawn0 w w' := by
  have H : (if a1 > a0 then (some a1) else (some a0)) = some r := h
  clear h
  by_cases c3 : a1 > a0
  rotate_left
  · rw [if_neg c3] at H
    have c3b0 : decide (a0 < a1) = false := decide_eq_false c3
    clear c3
    obtain rfl := Option.some.inj H
    go_enter Try.func64, Try.ntmps64
    go_wp2
    go_ret
    exact ⟨by first | rfl | (simp; done) | (simp [*]; done), by repeat (first | exact Drawn0.refl _ | apply Drawn0.step)⟩
  rw [if_pos c3] at H
  have c3b0 : decide (a0 < a1) = true := decide_eq_true c3
  clear c3
  obtain rfl := Option.some.inj H
  go_enter Try.func64, Try.ntmps64
  go_wp2
  go_ret
  exact ⟨by first | rfl | (simp; done) | (simp [*]; done), by repeat (first | exact Drawn0.refl _ | apply Drawn0.step)⟩

/-! ### spec_MostHurt: function 34 -/
mutual
def spec_MostHurt.j0 : Nat → Int → Int → Int → Bool → Int → List Int → Int → Bool → Option (Int)
  | 0, _, _, _, _, _, _, _, _ => none
  | k + 1, x1, x2, x7, x20, x645000, x645001, x645002, x645003 => if x20 = true then (some x7) else ((spec_l26Copy.f x645000 x645001 x645002 x645003).bind fun bt647 => (spec_MostHurt.l0 k x1 x2 x7 0 bt647.1 bt647.2.1 bt647.2.2.1 bt647.2.2.2))
def spec_MostHurt.l0 : Nat → Int → Int → Int → Int → Int → List Int → Int → Bool → Option (Int)
  | 0, _, _, _, _, _, _, _, _ => none
  | k + 1, x1, x2, x7, x9, x654000, x654001, x654002, x654003 => if x9 < x2 then ((spec_CountIn.f k x654000 x654001 x9 x654003 x1).bind fun t654 => ((spec_Max.f x7 t654).bind fun t655 => (spec_MostHurt.l0 k x1 x2 t655 (wrap64 (x9 + 1)) x654000 x654001 x9 x654003))) else (some x7)
end
def spec_MostHurt.f (k : Nat) (a0_0 : Int) (l0_1 : List Int) (a0_2 : Int) (a0_3 : Bool) (a1 : Int) (a2 : Int) : Option (Int) := (spec_IsRollout.f k a0_0 l0_1 a0_2 a0_3).bind fun t645 => (if t645 = true then ((spec_l1In.f a2 1 (l0_1.length : Int)).bind fun t646 => (spec_MostHurt.j0 k a1 a2 0 (!t646) a0_0 l0_1 a0_2 a0_3)) else (spec_MostHurt.j0 k a1 a2 0 true a0_0 l0_1 a0_2 a0_3))
theorem spec_MostHurt.mono_l : ∀ k, (∀ y0 y1 y2 y3 y4 y5 y6 y7, LeO (spec_MostHurt.j0 k y0 y1 y2 y3 y4 y5 y6 y7) (spec_MostHurt.j0 (k + 1) y0 y1 y2 y3 y4 y5 y6 y7)) ∧ (∀ y0 y1 y2 y3 y4 y5 y6 y7, LeO (spec_MostHurt.l0 k y0 y1 y2 y3 y4 y5 y6 y7) (spec_MostHurt.l0 (k + 1) y0 y1 y2 y3 y4 y5 y6 y7))
  | 0 => ⟨fun _ _ _ _ _ _ _ _ r h => by simp [spec_MostHurt.j0] at h, fun _ _ _ _ _ _ _ _ r h => by simp [spec_MostHurt.l0] at h⟩
  | k + 1 => by
    obtain ⟨ih0, ih1⟩ := spec_MostHurt.mono_l k
    refine ⟨?_, ?_⟩
    · intro y0 y1 y2 y3 y4 y5 y6 y7
      unfold spec_MostHurt.j0
      repeat' first
      | (with_reducible exact ih0 _ _ _ _ _ _ _ _)
      | (with_reducible exact ih1 _ _ _ _ _ _ _ _)
      | (with_reducible exact spec_CountIn.mono _ _ _ _ _ _)
      | (with_reducible exact spec_IsRollout.mono _ _ _ _ _)
      | (with_reducible exact LeO.refl _)
      | (with_reducible exact LeO.none _)
      | (with_reducible refine LeO.ite ?_ ?_)
      | (with_reducible refine LeO.bind ?_ (fun _ => ?_))
      | exact ih0 _ _ _ _ _ _ _ _
      | exact ih1 _ _ _ _ _ _ _ _
      | exact spec_CountIn.mono _ _ _ _ _ _
      | exact spec_IsRollout.mono _ _ _ _ _
      | exact LeO.none _
      | refine LeO.ite ?_ ?_
      | refine LeO.bind ?_ (fun _ => ?_)
    · intro y0 y1 y2 y3 y4 y5 y6 y7
      unfold spec_MostHurt.l0
      repeat' first
      | (with_reducible exact ih0 _ _ _ _ _ _ _ _)
      | (with_reducible exact ih1 _ _ _ _ _ _ _ _)
      | (with_reducible exact spec_CountIn.mono _ _ _ _ _ _)
      | (with_reducible exact spec_IsRollout.mono _ _ _ _ _)
      | (with_reducible exact LeO.refl _)
      | (with_reducible exact LeO.none _)
      | (with_reducible refine LeO.ite ?_ ?_)
      | (with_reducible refine LeO.bind ?_ (fun _ => ?_))
      | exact ih0 _ _ _ _ _ _ _ _
      | exact ih1 _ _ _ _ _ _ _ _
      | exact spec_CountIn.mono _ _ _ _ _ _
      | exact spec_IsRollout.mono _ _ _ _ _
      | exact LeO.none _
      | refine LeO.ite ?_ ?_
      | refine LeO.bind ?_ (fun _ => ?_)
theorem spec_MostHurt.mono : ∀ a0 a1 a2 a3 a4 a5 k, LeO (spec_MostHurt.f k a0 a1 a2 a3 a4 a5) (spec_MostHurt.f (k + 1) a0 a1 a2 a3 a4 a5) := by
  intro a0 a1 a2 a3 a4 a5 k
  obtain ⟨ih0, ih1⟩ := spec_MostHurt.mono_l k
  unfold spec_MostHurt.f
  repeat' first
      | (with_reducible exact ih0 _ _ _ _ _ _ _ _)
      | (with_reducible exact ih1 _ _ _ _ _ _ _ _)
      | (with_reducible exact spec_CountIn.mono _ _ _ _ _ _)
      | (with_reducible exact spec_IsRollout.mono _ _ _ _ _)
      | (with_reducible exact LeO.refl _)
      | (with_reducible exact LeO.none _)
      | (with_reducible refine LeO.ite ?_ ?_)
      | (with_reducible refine LeO.bind ?_ (fun _ => ?_))
      | exact ih0 _ _ _ _ _ _ _ _
      | exact ih1 _ _ _ _ _ _ _ _
      | exact spec_CountIn.mono _ _ _ _ _ _
      | exact spec_IsRollout.mono _ _ _ _ _
      | exact LeO.none _
      | refine LeO.ite ?_ ?_
      | refine LeO.bind ?_ (fun _ => ?_)
set_option maxHeartbeats 8000000 in
set_option maxRecDepth 100000 in
theorem spec_MostHurt.calls (k : Nat) (a0_0 : Int) (A0_1 : Option Addr) (c0_1 : Nat) (l0_1 : List Int) (a0_2 : Int) (a0_3 : Bool) (a1 : Int) (a2 : Int) (r : Int) (w : World) (hr0_1 : Kd.C (Kd.int .i64) w A0_1 l0_1.length l0_1) (hc0_1 : l0_1.length ≤ c0_1) (h : spec_MostHurt.f k a0_0 l0_1 a0_2 a0_3 a1 a2 = some r) :
    Calls Try.prog 34 #[.agg #[.int .i64 a0_0, .slice A0_1 l0_1.length c0_1, .int .i64 a0_2, .bool a0_3], .int .i64 a1, .int .i64 a2] w fun e w' => e = .returned (.int .i64 r) ∧ Below w.heap.size w w' := by
  have hu27 := Try.underlying27
  have HR0_1 := Aside0.mk hr0_1
  have HC0_1 := Aside0.mk hc0_1
  clear hr0_1 hc0_1
  have HB := Aside0.mk (Below.refl w.heap.size w)
  have H : ((spec_IsRollout.f k a0_0 l0_1 a0_2 a0_3).bind fun t645 => (if t645 = true then ((spec_l1In.f a2 1 (l0_1.length : Int)).bind fun t646 => (spec_MostHurt.j0 k a1 a2 0 (!t646) a0_0 l0_1 a0_2 a0_3)) else (spec_MostHurt.j0 k a1 a2 0 true a0_0 l0_1 a0_2 a0_3))) = some r := h
  clear h
  have HC4 := Aside0.mk H
  clear H
  go_enter Try.func34, Try.ntmps34
  go_upto_region 2 with (first | ((with_reducible refine gate_dst (N := 3) rfl ?_); (try (refine gate_guard (by rfl) ?_; dsimp only)); refine box_event ?hg (N := 3) ?hd (cs := #[.int .i64 a0_0, .slice A0_1 l0_1.length c0_1, .int .i64 a0_2, .bool a0_3]) (t := 27) ?hr ?_; (case hd => rfl); (case hg => rfl); (case hr => first | (go_simp; done) | (go_simp; rfl)); intro gb644 hg w5 hbox hb; have n0_ := Aside0.mk (below_step (by repeat (first | (with_reducible first | exact HB.out | apply below_alloc | apply pw_below_drewN | apply below_drew1) | exact HB.out)) hb); have n1_ := Aside0.mk (hbox); have n2_ := Aside0.mk ((by rw [hg]; exact (below_size (by repeat (first | (with_reducible first | exact HB.out | apply below_alloc | apply pw_below_drewN | apply below_drew1) | exact HB.out))) : w.heap.size ≤ gb644)); have n3_ := Aside0.mk ((by rw [hg]; exact (below_size (by repeat (first | (with_reducible first | exact HB.out | apply below_alloc | apply pw_below_drewN | apply below_drew1) | exact HB.out))) : w.heap.size ≤ gb644)); clear HB; have HB := n0_; have BK644 := n1_; have GW644 := n2_; have GE644 := n3_; clear n0_ n1_ n2_ n3_; clear hb hbox hg))
  (try simp only [Act.put, List.setIfInBounds_toArray, List.set_cons_zero, List.set_cons_succ])
  go_cut [20] (fun v20 wc => ∃ (kq : Nat) (x20_3 : Bool), v20 = .bool x20_3 ∧ Aside0 (spec_MostHurt.j0 kq a1 a2 0 x20_3 a0_0 l0_1 a0_2 a0_3 = some r) ∧ Aside0 (kq ≤ k) ∧ Aside0 (wc.heap[gb644]? = some (.cells #[.int .i64 a0_0, (.slice A0_1 l0_1.length c0_1), .int .i64 a0_2, .bool a0_3] 27 (0, 0))) ∧ Aside0 (Below w.heap.size w wc))
  case first =>
    have H := HC4.out
    clear HC4
    replace H := Option.bind_eq_some_iff.mp H
    obtain ⟨t645, A60, H⟩ := H
    replace H : (if t645 = true then ((spec_l1In.f a2 1 (l0_1.length : Int)).bind fun t646 => (spec_MostHurt.j0 k a1 a2 0 (!t646) a0_0 l0_1 a0_2 a0_3)) else (spec_MostHurt.j0 k a1 a2 0 true a0_0 l0_1 a0_2 a0_3)) = some r := H
    have A6 := Aside0.mk A60
    clear A60
    by_cases c7 : t645 = true
    rotate_left
    · replace c7 := Bool.eq_false_iff.mpr c7
      subst c7
      have H1 : (spec_MostHurt.j0 k a1 a2 0 true a0_0 l0_1 a0_2 a0_3) = some r := by rw [if_neg (show ¬ (false = true) by decide)] at H; exact H
      clear H
      have H := H1
      clear H1
      have H' := Aside0.mk H
      clear H
      have hcz8_0 : w5.cell? ⟨gb644, 0, none⟩ = some (.int .i64 a0_0) := (blk_cell BK644.out 0).trans rfl
      have hcz8_1 : w5.cell? ⟨gb644, 1, none⟩ = some (.slice A0_1 l0_1.length c0_1) := (blk_cell BK644.out 1).trans rfl
      have hcz8_2 : w5.cell? ⟨gb644, 2, none⟩ = some (.int .i64 a0_2) := (blk_cell BK644.out 2).trans rfl
      have hcz8_3 : w5.cell? ⟨gb644, 3, none⟩ = some (.bool a0_3) := (blk_cell BK644.out 3).trans rfl
      have hfz8_0 := blk_frozen BK644.out 0
      have hfz8_1 := blk_frozen BK644.out 1
      have hfz8_2 := blk_frozen BK644.out 2
      have hfz8_3 := blk_frozen BK644.out 3
      go_wp2_with (first | ((with_reducible refine gate_callee (f := 16) rfl ?_); refine goesL_ (some 11) rfl rfl Try.func16 (by kernel_rfl) rfl #[.agg #[.int .i64 a0_0, .slice A0_1 l0_1.length c0_1, .int .i64 a0_2, .bool a0_3]] rfl (by (try simp only [List.map_toArray, List.map_cons, List.map_nil]); first | done | rfl | (simp only [List.length_drop, List.length_take]; rfl)) ?_; (with_reducible refine (spec_IsRollout.calls k a0_0 _ _ l0_1 a0_2 a0_3 false _ ?side1 ?side2 A6.out).mono ?_); (case side1 => repeat (first | exact (Kd.C_below HR0_1.out HB.out) | (with_reducible refine Kd.C_alloc ?_ _) | (with_reducible refine Kd.C_drewN ?_ _) | (with_reducible refine Kd.C_drew ?_))); (case side2 => exact HC0_1.out); rintro e w9 ⟨rfl, hb⟩; refine ⟨_, rfl, ?_⟩; have n0_ := Aside0.mk (blk_below (g := gb644) (o := .cells #[.int .i64 a0_0, .slice A0_1 l0_1.length c0_1, .int .i64 a0_2, .bool a0_3] 27 (0, 0)) (by (with_reducible repeat (first | refine blk_drewN ?_ _ | refine blk_drew ?_ | refine blk_alloc ?_ _)); exact BK644.out) hb); have n1_ := Aside0.mk (below_step (by repeat (first | (with_reducible first | exact HB.out | apply below_alloc | apply pw_below_drewN | apply below_drew1 | refine below_set ?_ GE644.out) | exact HB.out)) hb); clear BK644; clear HB; have BK644 := n0_; have HB := n1_; clear n0_ n1_; (try clear hb); (try clear hb2); (try clear hk); (try clear hi)))
      go_meet
      case rel => exact ⟨_, (true), (by first | rfl | (simp; done) | (simp [*]; done)), H', ⟨by first | omega | exact Nat.le_refl _⟩, ⟨by (with_reducible repeat (first | refine blk_drewN ?_ _ | refine blk_drew ?_ | refine blk_alloc ?_ _)); exact BK644.out⟩, ⟨by repeat (first | (with_reducible first | exact HB.out | apply below_alloc | apply pw_below_drewN | apply below_drew1 | refine below_set ?_ GE644.out) | exact HB.out)⟩⟩
    subst c7
    have H1 : ((spec_l1In.f a2 1 (l0_1.length : Int)).bind fun t646 => (spec_MostHurt.j0 k a1 a2 0 (!t646) a0_0 l0_1 a0_2 a0_3)) = some r := by rw [if_pos rfl] at H; exact H
    clear H
    have H := H1
    clear H1
    replace H := Option.bind_eq_some_iff.mp H
    obtain ⟨t646, A100, H⟩ := H
    replace H : (spec_MostHurt.j0 k a1 a2 0 (!t646) a0_0 l0_1 a0_2 a0_3) = some r := H
    have A10 := Aside0.mk A100
    clear A100
    have H' := Aside0.mk H
    clear H
    have hcz11_0 : w5.cell? ⟨gb644, 0, none⟩ = some (.int .i64 a0_0) := (blk_cell BK644.out 0).trans rfl
    have hcz11_1 : w5.cell? ⟨gb644, 1, none⟩ = some (.slice A0_1 l0_1.length c0_1) := (blk_cell BK644.out 1).trans rfl
    have hcz11_2 : w5.cell? ⟨gb644, 2, none⟩ = some (.int .i64 a0_2) := (blk_cell BK644.out 2).trans rfl
    have hcz11_3 : w5.cell? ⟨gb644, 3, none⟩ = some (.bool a0_3) := (blk_cell BK644.out 3).trans rfl
    have hfz11_0 := blk_frozen BK644.out 0
    have hfz11_1 := blk_frozen BK644.out 1
    have hfz11_2 := blk_frozen BK644.out 2
    have hfz11_3 := blk_frozen BK644.out 3
    go_wp2_with (first | ((with_reducible refine gate_callee (f := 16) rfl ?_); refine goesL_ (some 11) rfl rfl Try.func16 (by kernel_rfl) rfl #[.agg #[.int .i64 a0_0, .slice A0_1 l0_1.length c0_1, .int .i64 a0_2, .bool a0_3]] rfl (by (try simp only [List.map_toArray, List.map_cons, List.map_nil]); first | done | rfl | (simp only [List.length_drop, List.length_take]; rfl)) ?_; (with_reducible refine (spec_IsRollout.calls k a0_0 _ _ l0_1 a0_2 a0_3 true _ ?side1 ?side2 A6.out).mono ?_); (case side1 => repeat (first | exact (Kd.C_below HR0_1.out HB.out) | (with_reducible refine Kd.C_alloc ?_ _) | (with_reducible refine Kd.C_drewN ?_ _) | (with_reducible refine Kd.C_drew ?_))); (case side2 => exact HC0_1.out); rintro e w12 ⟨rfl, hb⟩; refine ⟨_, rfl, ?_⟩; have n0_ := Aside0.mk (blk_below (g := gb644) (o := .cells #[.int .i64 a0_0, .slice A0_1 l0_1.length c0_1, .int .i64 a0_2, .bool a0_3] 27 (0, 0)) (by (with_reducible repeat (first | refine blk_drewN ?_ _ | refine blk_drew ?_ | refine blk_alloc ?_ _)); exact BK644.out) hb); have n1_ := Aside0.mk (below_step (by repeat (first | (with_reducible first | exact HB.out | apply below_alloc | apply pw_below_drewN | apply below_drew1 | refine below_set ?_ GE644.out) | exact HB.out)) hb); clear BK644; clear HB; have BK644 := n0_; have HB := n1_; clear n0_ n1_; (try clear hb); (try clear hb2); (try clear hk); (try clear hi); have hcz13_0 : w12.cell? ⟨gb644, 0, none⟩ = some (.int .i64 a0_0) := (blk_cell BK644.out 0).trans rfl; have hcz13_1 : w12.cell? ⟨gb644, 1, none⟩ = some (.slice A0_1 l0_1.length c0_1) := (blk_cell BK644.out 1).trans rfl; have hcz13_2 : w12.cell? ⟨gb644, 2, none⟩ = some (.int .i64 a0_2) := (blk_cell BK644.out 2).trans rfl; have hcz13_3 : w12.cell? ⟨gb644, 3, none⟩ = some (.bool a0_3) := (blk_cell BK644.out 3).trans rfl; have hfz13_0 := blk_frozen BK644.out 0; have hfz13_1 := blk_frozen BK644.out 1; have hfz13_2 := blk_frozen BK644.out 2; have hfz13_3 := blk_frozen BK644.out 3) | (go_at_call 52; (with_reducible refine (spec_l1In.calls a2 1 (l0_1.length : Int) t646 _ A10.out).mono ?_); rintro e w' ⟨rfl, ⟨nd, rfl⟩⟩))
    go_meet
    case rel => exact ⟨_, (!t646), (by first | rfl | (simp; done) | (simp [*]; done)), H', ⟨by first | omega | exact Nat.le_refl _⟩, ⟨by (with_reducible repeat (first | refine blk_drewN ?_ _ | refine blk_drew ?_ | refine blk_alloc ?_ _)); exact BK644.out⟩, ⟨by repeat (first | (with_reducible first | exact HB.out | apply below_alloc | apply pw_below_drewN | apply below_drew1 | refine below_set ?_ GE644.out) | exact HB.out)⟩⟩
  clear HC4
  try clear c1
  try clear p2
  try clear c3
  try clear c7
  try clear hcz11_0
  try clear hcz11_1
  try clear hcz11_2
  try clear hcz11_3
  try clear hcz13_0
  try clear hcz13_1
  try clear hcz13_2
  try clear hcz13_3
  try clear hcz8_0
  try clear hcz8_1
  try clear hcz8_2
  try clear hcz8_3
  try clear hfz11_0
  try clear hfz11_1
  try clear hfz11_2
  try clear hfz11_3
  try clear hfz13_0
  try clear hfz13_1
  try clear hfz13_2
  try clear hfz13_3
  try clear hfz8_0
  try clear hfz8_1
  try clear hfz8_2
  try clear hfz8_3
  obtain ⟨kq, x20_3, rfl, HA, HJ3, BK644, HB⟩ := hcut
  rcases kq with _ | kj3
  · exact absurd HA.out (by simp [spec_MostHurt.j0])
  have H := HA.out
  clear HA
  simp only [spec_MostHurt.j0] at H
  by_cases c14 : x20_3 = true
  · subst c14
    have H1 : (some 0) = some r := by rw [if_pos rfl] at H; exact H
    clear H
    have H := H1
    clear H1
    obtain rfl := Option.some.inj H
    go_wp2
    go_ret
    exact ⟨by first | rfl | (simp [errW_none, errW_some] <;> rfl) | (simp [*, errW_none, errW_some] <;> rfl), by repeat (first | (with_reducible first | exact HB.out | apply below_alloc | apply pw_below_drewN | apply below_drew1 | refine below_set ?_ GE644.out) | exact HB.out)⟩
  replace c14 := Bool.eq_false_iff.mpr c14
  subst c14
  have H1 : ((spec_l26Copy.f a0_0 l0_1 a0_2 a0_3).bind fun bt647 => (spec_MostHurt.l0 kj3 a1 a2 0 0 bt647.1 bt647.2.1 bt647.2.2.1 bt647.2.2.2)) = some r := by rw [if_neg (show ¬ (false = true) by decide)] at H; exact H
  clear H
  have H := H1
  clear H1
  replace H := Option.bind_eq_some_iff.mp H
  obtain ⟨⟨t647, t648, t651, t652⟩, A150, H⟩ := H
  replace H : (spec_MostHurt.l0 kj3 a1 a2 0 0 t647 t648 t651 t652) = some r := H
  have A15 := Aside0.mk A150
  clear A150
  have H' := Aside0.mk H
  clear H
  have hcz16_0 : wc.cell? ⟨gb644, 0, none⟩ = some (.int .i64 a0_0) := (blk_cell BK644.out 0).trans rfl
  have hcz16_1 : wc.cell? ⟨gb644, 1, none⟩ = some (.slice A0_1 l0_1.length c0_1) := (blk_cell BK644.out 1).trans rfl
  have hcz16_2 : wc.cell? ⟨gb644, 2, none⟩ = some (.int .i64 a0_2) := (blk_cell BK644.out 2).trans rfl
  have hcz16_3 : wc.cell? ⟨gb644, 3, none⟩ = some (.bool a0_3) := (blk_cell BK644.out 3).trans rfl
  have hfz16_0 := blk_frozen BK644.out 0
  have hfz16_1 := blk_frozen BK644.out 1
  have hfz16_2 := blk_frozen BK644.out 2
  have hfz16_3 := blk_frozen BK644.out 3
  go_wp2_with (first | ((with_reducible refine gate_callee (f := 58) rfl ?_); refine goesL_ (some 23) rfl rfl Try.func58 (by kernel_rfl) rfl #[.agg #[.int .i64 a0_0, .slice A0_1 l0_1.length c0_1, .int .i64 a0_2, .bool a0_3]] rfl (by (try simp only [List.map_toArray, List.map_cons, List.map_nil]); first | done | rfl | (simp only [List.length_drop, List.length_take]; rfl)) ?_; (with_reducible refine (spec_l26Copy.calls a0_0 _ _ l0_1 a0_2 a0_3 t647 t648 t651 t652 _ ?side1 ?side2 A15.out).mono ?_); (case side1 => repeat (first | exact (Kd.C_below HR0_1.out HB.out) | (with_reducible refine Kd.C_alloc ?_ _) | (with_reducible refine Kd.C_drewN ?_ _) | (with_reducible refine Kd.C_drew ?_))); (case side2 => exact HC0_1.out); rintro e w17 ⟨v649, rfl, ho0, hb⟩; refine ⟨_, rfl, ?_⟩; have n0_ := Aside0.mk (Kd.R_lower ho0 (below_size (by repeat (first | (with_reducible first | exact HB.out | apply below_alloc | apply pw_below_drewN | apply below_drew1 | refine below_set ?_ GE644.out) | exact HB.out)))); have n1_ := Aside0.mk (blk_below (g := gb644) (o := .cells #[.int .i64 a0_0, .slice A0_1 l0_1.length c0_1, .int .i64 a0_2, .bool a0_3] 27 (0, 0)) (by (with_reducible repeat (first | refine blk_drewN ?_ _ | refine blk_drew ?_ | refine blk_alloc ?_ _)); exact BK644.out) hb); have n2_ := Aside0.mk (below_step (by repeat (first | (with_reducible first | exact HB.out | apply below_alloc | apply pw_below_drewN | apply below_drew1 | refine below_set ?_ GE644.out) | exact HB.out)) hb); clear BK644; clear HB; have HO650 := n0_; have BK644 := n1_; have HB := n2_; clear n0_ n1_ n2_; (try clear hb); (try clear hb2); (try clear hk); (try clear hi); (try clear ho0)) | ((with_reducible refine gate_dst (N := 8) rfl ?_); (try (refine gate_guard (by rfl) ?_; dsimp only)); refine box_event ?hg (N := 8) ?hd (cs := #[.int .i64 0, .slice none 0 0, .int .i64 0, .bool false]) (t := 27) ?hr ?_; (case hd => rfl); (case hg => rfl); (case hr => first | (go_simp; done) | (go_simp; rfl)); intro gb653 hg w18 hbox hb; have n0_ := Aside0.mk (Kd.R_below (by (with_reducible repeat (first | apply Kd.R_alloc | apply Kd.R_drewN | apply Kd.R_drew)); exact HO650.out) hb); have n1_ := Aside0.mk (blk_below (g := gb644) (o := .cells #[.int .i64 a0_0, .slice A0_1 l0_1.length c0_1, .int .i64 a0_2, .bool a0_3] 27 (0, 0)) (by (with_reducible repeat (first | refine blk_drewN ?_ _ | refine blk_drew ?_ | refine blk_alloc ?_ _)); exact BK644.out) hb); have n2_ := Aside0.mk (below_step (by repeat (first | (with_reducible first | exact HB.out | apply below_alloc | apply pw_below_drewN | apply below_drew1 | refine below_set ?_ GE644.out) | exact HB.out)) hb); have n3_ := Aside0.mk (hbox); have n4_ := Aside0.mk ((by rw [hg]; exact (below_size (by repeat (first | (with_reducible first | exact HB.out | apply below_alloc | apply pw_below_drewN | apply below_drew1 | refine below_set ?_ GE644.out) | exact HB.out))) : w.heap.size ≤ gb653)); have n5_ := Aside0.mk ((by rw [hg]; exact (below_size (by repeat (first | (with_reducible first | exact HB.out | apply below_alloc | apply pw_below_drewN | apply below_drew1 | refine below_set ?_ GE644.out) | exact HB.out))) : w.heap.size ≤ gb653)); have n6_ := Aside0.mk ((by rw [hg]; exact Nat.ne_of_lt (blk_lt (g := gb644) (o := .cells #[.int .i64 a0_0, .slice A0_1 l0_1.length c0_1, .int .i64 a0_2, .bool a0_3] 27 (0, 0)) (by (with_reducible repeat (first | refine blk_drewN ?_ _ | refine blk_drew ?_ | refine blk_alloc ?_ _)); exact BK644.out)) : gb644 ≠ gb653)); have n7_ := Aside0.mk ((by rw [hg]; exact Nat.ne_of_gt (blk_lt (g := gb644) (o := .cells #[.int .i64 a0_0, .slice A0_1 l0_1.length c0_1, .int .i64 a0_2, .bool a0_3] 27 (0, 0)) (by (with_reducible repeat (first | refine blk_drewN ?_ _ | refine blk_drew ?_ | refine blk_alloc ?_ _)); exact BK644.out)) : gb653 ≠ gb644)); clear HO650; clear BK644; clear HB; have HO650 := n0_; have BK644 := n1_; have HB := n2_; have BK653 := n3_; have GW653 := n4_; have GE653 := n5_; have NB644_653 := n6_; have NB653_644 := n7_; clear n0_ n1_ n2_ n3_ n4_ n5_ n6_ n7_; clear hb hbox hg; have hnb19 := NB653_644.out; have hnc19 := NB644_653.out; have hcz20_0 : w18.cell? ⟨gb653, 0, none⟩ = some (.int .i64 0) := (blk_cell BK653.out 0).trans rfl; have hcz20_1 : w18.cell? ⟨gb653, 1, none⟩ = some (.slice none 0 0) := (blk_cell BK653.out 1).trans rfl; have hcz20_2 : w18.cell? ⟨gb653, 2, none⟩ = some (.int .i64 0) := (blk_cell BK653.out 2).trans rfl; have hcz20_3 : w18.cell? ⟨gb653, 3, none⟩ = some (.bool false) := (blk_cell BK653.out 3).trans rfl; have hfz20_0 := blk_frozen BK653.out 0; have hfz20_1 := blk_frozen BK653.out 1; have hfz20_2 := blk_frozen BK653.out 2; have hfz20_3 := blk_frozen BK653.out 3; obtain ⟨Ao21, co21, eo21⟩ := Kd.R_slice HO650.out; subst eo21))
  (try simp only [Act.put, List.setIfInBounds_toArray, List.set_cons_zero, List.set_cons_succ])
  go_loopg [7, 9] kj3 (fun kq v7 v9 w' => ∃ (x7_2 : Int) (x9_2 : Int) (x654002_2 : Int), v7 = .int .i64 x7_2 ∧ v9 = .int .i64 x9_2 ∧ Aside0 (spec_MostHurt.l0 kq a1 a2 x7_2 x9_2 t647 t648 x654002_2 t652 = some r) ∧ Aside0 (kq ≤ kj3) ∧ Aside0 (Kd.R (Kd.int .i64) 3 w' w.heap.size (fun _ => True) (.slice Ao21 t648.length co21) t648) ∧ Aside0 (w'.heap[gb644]? = some (.cells #[.int .i64 a0_0, (.slice A0_1 l0_1.length c0_1), .int .i64 a0_2, .bool a0_3] 27 (0, 0))) ∧ Aside0 (w'.heap[gb653]? = some (.cells #[.int .i64 t647, (.slice Ao21 t648.length co21), .int .i64 x654002_2, .bool t652] 27 (0, 0))) ∧ Aside0 (Below w.heap.size w w'))
  case atStart => exact ⟨(0), (0), (t651), (by first | rfl | (simp; done) | (simp [*]; done)), (by first | rfl | (simp; done) | (simp [*]; done)), H', ⟨Nat.le_refl _⟩, ⟨by (with_reducible repeat (first | apply Kd.R_alloc | apply Kd.R_drewN | apply Kd.R_drew)); exact Kd.R_mono (Kd.R_far (p := ⟨gb653, 3, none⟩) (Kd.R_far (p := ⟨gb653, 2, none⟩) (Kd.R_far (p := ⟨gb653, 1, none⟩) (Kd.R_far (p := ⟨gb653, 0, none⟩) (Kd.R_types HO650.out BK653.out (by decide)) (fun _ hk => hk.2) (.int .i64 t647)) (fun _ hk => hk.2) (.slice Ao21 t648.length co21)) (fun _ hk => hk.2) (.int .i64 t651)) (fun _ hk => hk.2) (.bool t652)) (fun _ hk => trivial)⟩, ⟨by (with_reducible repeat (first | refine blk_drewN ?_ _ | refine blk_drew ?_ | refine blk_alloc ?_ _)); refine blk_far ?_ NB644_653.out _; (with_reducible repeat (first | refine blk_drewN ?_ _ | refine blk_drew ?_ | refine blk_alloc ?_ _)); refine blk_far ?_ NB644_653.out _; (with_reducible repeat (first | refine blk_drewN ?_ _ | refine blk_drew ?_ | refine blk_alloc ?_ _)); refine blk_far ?_ NB644_653.out _; (with_reducible repeat (first | refine blk_drewN ?_ _ | refine blk_drew ?_ | refine blk_alloc ?_ _)); refine blk_far ?_ NB644_653.out _; (with_reducible repeat (first | refine blk_drewN ?_ _ | refine blk_drew ?_ | refine blk_alloc ?_ _)); exact BK644.out⟩, ⟨by (with_reducible repeat (first | refine blk_drewN ?_ _ | refine blk_drew ?_ | refine blk_alloc ?_ _)); refine blk_put (cs := #[.int .i64 t647, .slice Ao21 t648.length co21, .int .i64 t651, .bool false]) ?_ 3 _ rfl; (with_reducible repeat (first | refine blk_drewN ?_ _ | refine blk_drew ?_ | refine blk_alloc ?_ _)); refine blk_put (cs := #[.int .i64 t647, .slice Ao21 t648.length co21, .int .i64 0, .bool false]) ?_ 2 _ rfl; (with_reducible repeat (first | refine blk_drewN ?_ _ | refine blk_drew ?_ | refine blk_alloc ?_ _)); refine blk_put (cs := #[.int .i64 t647, .slice none 0 0, .int .i64 0, .bool false]) ?_ 1 _ rfl; (with_reducible repeat (first | refine blk_drewN ?_ _ | refine blk_drew ?_ | refine blk_alloc ?_ _)); refine blk_put (cs := #[.int .i64 0, .slice none 0 0, .int .i64 0, .bool false]) ?_ 0 _ rfl; (with_reducible repeat (first | refine blk_drewN ?_ _ | refine blk_drew ?_ | refine blk_alloc ?_ _)); exact BK653.out⟩, ⟨by repeat (first | (with_reducible first | exact HB.out | apply below_alloc | apply pw_below_drewN | apply below_drew1 | refine below_set ?_ GE644.out | refine below_set ?_ GE653.out) | exact HB.out)⟩⟩
  clear H'
  try clear c1
  try clear p2
  try clear c3
  try clear c5
  try clear c7
  try clear c14
  try clear c16
  try clear c19
  try clear hcz11_0
  try clear hcz11_1
  try clear hcz11_2
  try clear hcz11_3
  try clear hcz13_0
  try clear hcz13_1
  try clear hcz13_2
  try clear hcz13_3
  try clear hcz16_0
  try clear hcz16_1
  try clear hcz16_2
  try clear hcz16_3
  try clear hcz20_0
  try clear hcz20_1
  try clear hcz20_2
  try clear hcz20_3
  try clear hcz8_0
  try clear hcz8_1
  try clear hcz8_2
  try clear hcz8_3
  try clear hfz11_0
  try clear hfz11_1
  try clear hfz11_2
  try clear hfz11_3
  try clear hfz13_0
  try clear hfz13_1
  try clear hfz13_2
  try clear hfz13_3
  try clear hfz16_0
  try clear hfz16_1
  try clear hfz16_2
  try clear hfz16_3
  try clear hfz20_0
  try clear hfz20_1
  try clear hfz20_2
  try clear hfz20_3
  try clear hfz8_0
  try clear hfz8_1
  try clear hfz8_2
  try clear hfz8_3
  try clear p2
  obtain ⟨x7_2, x9_2, x654002_2, rfl, rfl, HA, HK2, HO_654001, BK644, BK653, HB⟩ := hrel
  rcases gk with _ | k2
  · exact absurd HA.out (by simp [spec_MostHurt.l0])
  have H := HA.out
  clear HA
  simp only [spec_MostHurt.l0] at H
  by_cases c22 : x9_2 < a2
  rotate_left
  · rw [if_neg c22] at H
    have c22b0 : decide (x9_2 < a2) = false := decide_eq_false c22
    clear c22
    obtain rfl := Option.some.inj H
    go_wp2
    go_ret
    exact ⟨by first | rfl | (simp [errW_none, errW_some] <;> rfl) | (simp [*, errW_none, errW_some] <;> rfl), by repeat (first | (with_reducible first | exact HB.out | apply below_alloc | apply pw_below_drewN | apply below_drew1 | refine below_set ?_ GE644.out | refine below_set ?_ GE653.out) | exact HB.out)⟩
  rw [if_pos c22] at H
  have c22b0 : decide (x9_2 < a2) = true := decide_eq_true c22
  clear c22
  replace H := Option.bind_eq_some_iff.mp H
  obtain ⟨t654, A230, H⟩ := H
  replace H : ((spec_Max.f x7_2 t654).bind fun t655 => (spec_MostHurt.l0 k2 a1 a2 t655 (wrap64 (x9_2 + 1)) t647 t648 x9_2 t652)) = some r := H
  have A23 := Aside0.mk A230
  clear A230
  replace H := Option.bind_eq_some_iff.mp H
  obtain ⟨t655, A240, H⟩ := H
  replace H : (spec_MostHurt.l0 k2 a1 a2 t655 (wrap64 (x9_2 + 1)) t647 t648 x9_2 t652) = some r := H
  have A24 := Aside0.mk A240
  clear A240
  have H' := Aside0.mk H
  clear H
  have hnb25 := NB653_644.out
  have hnc25 := NB644_653.out
  have hcz26_0 : wr.cell? ⟨gb653, 0, none⟩ = some (.int .i64 t647) := (blk_cell BK653.out 0).trans rfl
  have hcz26_1 : wr.cell? ⟨gb653, 1, none⟩ = some (.slice Ao21 t648.length co21) := (blk_cell BK653.out 1).trans rfl
  have hcz26_2 : wr.cell? ⟨gb653, 2, none⟩ = some (.int .i64 x654002_2) := (blk_cell BK653.out 2).trans rfl
  have hcz26_3 : wr.cell? ⟨gb653, 3, none⟩ = some (.bool t652) := (blk_cell BK653.out 3).trans rfl
  have hfz26_0 := blk_frozen BK653.out 0
  have hfz26_1 := blk_frozen BK653.out 1
  have hfz26_2 := blk_frozen BK653.out 2
  have hfz26_3 := blk_frozen BK653.out 3
  go_wp2_with (first | ((with_reducible refine gate_callee (f := 22) rfl ?_); refine goesL_ (some 34) rfl rfl Try.func22 (by kernel_rfl) rfl #[.agg #[.int .i64 t647, .slice Ao21 t648.length co21, .int .i64 x9_2, .bool t652], .int .i64 a1] rfl (by (try simp only [List.map_toArray, List.map_cons, List.map_nil]); first | done | rfl | (simp only [List.length_drop, List.length_take]; rfl)) ?_; (with_reducible refine (spec_CountIn.calls k2 t647 _ _ t648 x9_2 t652 a1 t654 _ ?side1 ?side2 A23.out).mono ?_); (case side1 => refine (Kd.R_reads' (e := 3) (base := w.heap.size) (ok := fun k_ => True) (n := t648.length) (c := co21) ?_).2.2; exact (by (with_reducible repeat (first | apply Kd.R_alloc | apply Kd.R_drewN | apply Kd.R_drew)); exact (Kd.R_mono (Kd.R_far (p := ⟨gb653, 2, none⟩) (Kd.R_types HO_654001.out BK653.out (by decide)) (fun _ hk => hk.2) (.int .i64 x9_2)) (fun _ h_ => h_.1)))); (case side2 => exact (Kd.R_reads' HO_654001.out).2.1); rintro e w27 ⟨rfl, hb⟩; refine ⟨_, rfl, ?_⟩; have n0_ := Aside0.mk (Kd.R_below (by (with_reducible repeat (first | apply Kd.R_alloc | apply Kd.R_drewN | apply Kd.R_drew)); exact (Kd.R_mono (Kd.R_far (p := ⟨gb653, 2, none⟩) (Kd.R_types HO_654001.out BK653.out (by decide)) (fun _ hk => hk.2) (.int .i64 x9_2)) (fun _ h_ => h_.1))) hb); have n1_ := Aside0.mk (blk_below (g := gb644) (o := .cells #[.int .i64 a0_0, .slice A0_1 l0_1.length c0_1, .int .i64 a0_2, .bool a0_3] 27 (0, 0)) (by (with_reducible repeat (first | refine blk_drewN ?_ _ | refine blk_drew ?_ | refine blk_alloc ?_ _)); refine blk_far ?_ NB644_653.out _; (with_reducible repeat (first | refine blk_drewN ?_ _ | refine blk_drew ?_ | refine blk_alloc ?_ _)); exact BK644.out) hb); have n2_ := Aside0.mk (blk_below (g := gb653) (o := .cells #[.int .i64 t647, .slice Ao21 t648.length co21, .int .i64 x9_2, .bool t652] 27 (0, 0)) (by (with_reducible repeat (first | refine blk_drewN ?_ _ | refine blk_drew ?_ | refine blk_alloc ?_ _)); refine blk_put (cs := #[.int .i64 t647, .slice Ao21 t648.length co21, .int .i64 x654002_2, .bool t652]) ?_ 2 _ rfl; (with_reducible repeat (first | refine blk_drewN ?_ _ | refine blk_drew ?_ | refine blk_alloc ?_ _)); exact BK653.out) hb); have n3_ := Aside0.mk (below_step (by repeat (first | (with_reducible first | exact HB.out | apply below_alloc | apply pw_below_drewN | apply below_drew1 | refine below_set ?_ GE644.out | refine below_set ?_ GE653.out) | exact HB.out)) hb); clear HO_654001; clear BK644; clear BK653; clear HB; have HO_654001 := n0_; have BK644 := n1_; have BK653 := n2_; have HB := n3_; clear n0_ n1_ n2_ n3_; (try clear hb); (try clear hb2); (try clear hk); (try clear hi)) | ((with_reducible refine gate_callee (f := 64) rfl ?_); refine goesL_ (some 35) rfl rfl Try.func64 (by kernel_rfl) rfl #[.int .i64 x7_2, .int .i64 t654] rfl (by (try simp only [List.map_toArray, List.map_cons, List.map_nil]); first | done | rfl | (simp only [List.length_drop, List.length_take]; rfl)) ?_; (with_reducible refine (spec_Max.calls x7_2 t654 t655 _ A24.out).mono ?_); rintro e w' ⟨rfl, ⟨nd, rfl⟩⟩; refine ⟨_, rfl, ?_⟩))
  go_roundg k2
  case measure => have := HJ3.out; have := HK2.out; omega
  case rel => exact ⟨(t655), (wrap64 (x9_2 + 1)), (x9_2), (by first | rfl | (simp; done) | (simp [*]; done)), (by first | rfl | (simp; done) | (simp [*]; done)), H', ⟨by have := HJ3.out; have := HK2.out; omega⟩, ⟨by (with_reducible repeat (first | apply Kd.R_alloc | apply Kd.R_drewN | apply Kd.R_drew)); exact HO_654001.out⟩, ⟨by (with_reducible repeat (first | refine blk_drewN ?_ _ | refine blk_drew ?_ | refine blk_alloc ?_ _)); exact BK644.out⟩, ⟨by (with_reducible repeat (first | refine blk_drewN ?_ _ | refine blk_drew ?_ | refine blk_alloc ?_ _)); exact BK653.out⟩, ⟨by repeat (first | (with_reducible first | exact HB.out | apply below_alloc | apply pw_below_drewN | apply below_drew1 | refine below_set ?_ GE644.out | refine below_set ?_ GE653.out) | exact HB.out)⟩⟩

/-! ### impl_MostHurt: function 35 -/
mutual
def impl_MostHurt.j0 : Nat → Int → Int → Bool → Int → List Int → Int → Bool → Option (Int)
  | 0, _, _, _, _, _, _, _ => none
  | k + 1, x1, x2, x19, x657000, x657001, x657002, x657003 => if x19 = true then (some 0) else (impl_MostHurt.l0 k x1 0 x2 0 x657000 x657001 x657002 x657003)
def impl_MostHurt.l0 : Nat → Int → Int → Int → Int → Int → List Int → Int → Bool → Option (Int)
  | 0, _, _, _, _, _, _, _, _ => none
  | k + 1, x1, x7, x20, x21, x657000, x657001, x657002, x657003 => if x21 < x20 then ((impl_CountIn.f k x657000 x657001 x21 x657003 x1).bind fun t659 => (impl_MostHurt.l0 k x1 (mx x7 t659) x20 (wrap64 (x21 + 1)) x657000 x657001 x21 x657003)) else (some x7)
end
def impl_MostHurt.f (k : Nat) (a0_0 : Int) (l0_1 : List Int) (a0_2 : Int) (a0_3 : Bool) (a1 : Int) (a2 : Int) : Option (Int) := (impl_IsRollout.f k a0_0 l0_1 a0_2 a0_3).bind fun t657 => (if t657 = true then ((impl_InRange.f a2 1 (l0_1.length : Int)).bind fun t658 => (impl_MostHurt.j0 k a1 a2 (!t658) a0_0 l0_1 a0_2 a0_3)) else (impl_MostHurt.j0 k a1 a2 true a0_0 l0_1 a0_2 a0_3))
theorem impl_MostHurt.mono_l : ∀ k, (∀ y0 y1 y2 y3 y4 y5 y6, LeO (impl_MostHurt.j0 k y0 y1 y2 y3 y4 y5 y6) (impl_MostHurt.j0 (k + 1) y0 y1 y2 y3 y4 y5 y6)) ∧ (∀ y0 y1 y2 y3 y4 y5 y6 y7, LeO (impl_MostHurt.l0 k y0 y1 y2 y3 y4 y5 y6 y7) (impl_MostHurt.l0 (k + 1) y0 y1 y2 y3 y4 y5 y6 y7))
  | 0 => ⟨fun _ _ _ _ _ _ _ r h => by simp [impl_MostHurt.j0] at h, fun _ _ _ _ _ _ _ _ r h => by simp [impl_MostHurt.l0] at h⟩
  | k + 1 => by
    obtain ⟨ih0, ih1⟩ := impl_MostHurt.mono_l k
    refine ⟨?_, ?_⟩
    · intro y0 y1 y2 y3 y4 y5 y6
      unfold impl_MostHurt.j0
      repeat' first
      | (with_reducible exact ih0 _ _ _ _ _ _ _)
      | (with_reducible exact ih1 _ _ _ _ _ _ _ _)
      | (with_reducible exact impl_CountIn.mono _ _ _ _ _ _)
      | (with_reducible exact impl_IsRollout.mono _ _ _ _ _)
      | (with_reducible exact LeO.refl _)
      | (with_reducible exact LeO.none _)
      | (with_reducible refine LeO.ite ?_ ?_)
      | (with_reducible refine LeO.bind ?_ (fun _ => ?_))
      | exact ih0 _ _ _ _ _ _ _
      | exact ih1 _ _ _ _ _ _ _ _
      | exact impl_CountIn.mono _ _ _ _ _ _
      | exact impl_IsRollout.mono _ _ _ _ _
      | exact LeO.none _
      | refine LeO.ite ?_ ?_
      | refine LeO.bind ?_ (fun _ => ?_)
    · intro y0 y1 y2 y3 y4 y5 y6 y7
      unfold impl_MostHurt.l0
      repeat' first
      | (with_reducible exact ih0 _ _ _ _ _ _ _)
      | (with_reducible exact ih1 _ _ _ _ _ _ _ _)
      | (with_reducible exact impl_CountIn.mono _ _ _ _ _ _)
      | (with_reducible exact impl_IsRollout.mono _ _ _ _ _)
      | (with_reducible exact LeO.refl _)
      | (with_reducible exact LeO.none _)
      | (with_reducible refine LeO.ite ?_ ?_)
      | (with_reducible refine LeO.bind ?_ (fun _ => ?_))
      | exact ih0 _ _ _ _ _ _ _
      | exact ih1 _ _ _ _ _ _ _ _
      | exact impl_CountIn.mono _ _ _ _ _ _
      | exact impl_IsRollout.mono _ _ _ _ _
      | exact LeO.none _
      | refine LeO.ite ?_ ?_
      | refine LeO.bind ?_ (fun _ => ?_)
theorem impl_MostHurt.mono : ∀ a0 a1 a2 a3 a4 a5 k, LeO (impl_MostHurt.f k a0 a1 a2 a3 a4 a5) (impl_MostHurt.f (k + 1) a0 a1 a2 a3 a4 a5) := by
  intro a0 a1 a2 a3 a4 a5 k
  obtain ⟨ih0, ih1⟩ := impl_MostHurt.mono_l k
  unfold impl_MostHurt.f
  repeat' first
      | (with_reducible exact ih0 _ _ _ _ _ _ _)
      | (with_reducible exact ih1 _ _ _ _ _ _ _ _)
      | (with_reducible exact impl_CountIn.mono _ _ _ _ _ _)
      | (with_reducible exact impl_IsRollout.mono _ _ _ _ _)
      | (with_reducible exact LeO.refl _)
      | (with_reducible exact LeO.none _)
      | (with_reducible refine LeO.ite ?_ ?_)
      | (with_reducible refine LeO.bind ?_ (fun _ => ?_))
      | exact ih0 _ _ _ _ _ _ _
      | exact ih1 _ _ _ _ _ _ _ _
      | exact impl_CountIn.mono _ _ _ _ _ _
      | exact impl_IsRollout.mono _ _ _ _ _
      | exact LeO.none _
      | refine LeO.ite ?_ ?_
      | refine LeO.bind ?_ (fun _ => ?_)
set_option maxHeartbeats 8000000 in
set_option maxRecDepth 100000 in
theorem impl_MostHurt.calls (k : Nat) (a0_0 : Int) (A0_1 : Option Addr) (c0_1 : Nat) (l0_1 : List Int) (a0_2 : Int) (a0_3 : Bool) (a1 : Int) (a2 : Int) (r : Int) (w : World) (hr0_1 : Kd.C (Kd.int .i64) w A0_1 l0_1.length l0_1) (hc0_1 : l0_1.length ≤ c0_1) (h : impl_MostHurt.f k a0_0 l0_1 a0_2 a0_3 a1 a2 = some r) :
    Calls Try.prog 35 #[.agg #[.int .i64 a0_0, .slice A0_1 l0_1.length c0_1, .int .i64 a0_2, .bool a0_3], .int .i64 a1, .int .i64 a2] w fun e w' => e = .returned (.int .i64 r) ∧ Below w.heap.size w w' := by
  have hu27 := Try.underlying27
  have HR0_1 := Aside0.mk hr0_1
  have HC0_1 := Aside0.mk hc0_1
  clear hr0_1 hc0_1
  have HB := Aside0.mk (Below.refl w.heap.size w)
  have H : ((impl_IsRollout.f k a0_0 l0_1 a0_2 a0_3).bind fun t657 => (if t657 = true then ((impl_InRange.f a2 1 (l0_1.length : Int)).bind fun t658 => (impl_MostHurt.j0 k a1 a2 (!t658) a0_0 l0_1 a0_2 a0_3)) else (impl_MostHurt.j0 k a1 a2 true a0_0 l0_1 a0_2 a0_3))) = some r := h
  clear h
  have HC4 := Aside0.mk H
  clear H
  go_enter Try.func35, Try.ntmps35
  go_upto_region 1 with (first | ((with_reducible refine gate_dst (N := 3) rfl ?_); (try (refine gate_guard (by rfl) ?_; dsimp only)); refine box_event ?hg (N := 3) ?hd (cs := #[.int .i64 a0_0, .slice A0_1 l0_1.length c0_1, .int .i64 a0_2, .bool a0_3]) (t := 27) ?hr ?_; (case hd => rfl); (case hg => rfl); (case hr => first | (go_simp; done) | (go_simp; rfl)); intro gb656 hg w5 hbox hb; have n0_ := Aside0.mk (below_step (by repeat (first | (with_reducible first | exact HB.out | apply below_alloc | apply pw_below_drewN | apply below_drew1) | exact HB.out)) hb); have n1_ := Aside0.mk (hbox); have n2_ := Aside0.mk ((by rw [hg]; exact (below_size (by repeat (first | (with_reducible first | exact HB.out | apply below_alloc | apply pw_below_drewN | apply below_drew1) | exact HB.out))) : w.heap.size ≤ gb656)); have n3_ := Aside0.mk ((by rw [hg]; exact (below_size (by repeat (first | (with_reducible first | exact HB.out | apply below_alloc | apply pw_below_drewN | apply below_drew1) | exact HB.out))) : w.heap.size ≤ gb656)); clear HB; have HB := n0_; have BK656 := n1_; have GW656 := n2_; have GE656 := n3_; clear n0_ n1_ n2_ n3_; clear hb hbox hg))
  (try simp only [Act.put, List.setIfInBounds_toArray, List.set_cons_zero, List.set_cons_succ])
  go_cut [19] (fun v19 wc => ∃ (kq : Nat) (x19_3 : Bool), v19 = .bool x19_3 ∧ Aside0 (impl_MostHurt.j0 kq a1 a2 x19_3 a0_0 l0_1 a0_2 a0_3 = some r) ∧ Aside0 (kq ≤ k) ∧ Aside0 (wc.heap[gb656]? = some (.cells #[.int .i64 a0_0, (.slice A0_1 l0_1.length c0_1), .int .i64 a0_2, .bool a0_3] 27 (0, 0))) ∧ Aside0 (Below w.heap.size w wc))
  case first =>
    have H := HC4.out
    clear HC4
    replace H := Option.bind_eq_some_iff.mp H
    obtain ⟨t657, A60, H⟩ := H
    replace H : (if t657 = true then ((impl_InRange.f a2 1 (l0_1.length : Int)).bind fun t658 => (impl_MostHurt.j0 k a1 a2 (!t658) a0_0 l0_1 a0_2 a0_3)) else (impl_MostHurt.j0 k a1 a2 true a0_0 l0_1 a0_2 a0_3)) = some r := H
    have A6 := Aside0.mk A60
    clear A60
    by_cases c7 : t657 = true
    rotate_left
    · replace c7 := Bool.eq_false_iff.mpr c7
      subst c7
      have H1 : (impl_MostHurt.j0 k a1 a2 true a0_0 l0_1 a0_2 a0_3) = some r := by rw [if_neg (show ¬ (false = true) by decide)] at H; exact H
      clear H
      have H := H1
      clear H1
      have H' := Aside0.mk H
      clear H
      have hcz8_0 : w5.cell? ⟨gb656, 0, none⟩ = some (.int .i64 a0_0) := (blk_cell BK656.out 0).trans rfl
      have hcz8_1 : w5.cell? ⟨gb656, 1, none⟩ = some (.slice A0_1 l0_1.length c0_1) := (blk_cell BK656.out 1).trans rfl
      have hcz8_2 : w5.cell? ⟨gb656, 2, none⟩ = some (.int .i64 a0_2) := (blk_cell BK656.out 2).trans rfl
      have hcz8_3 : w5.cell? ⟨gb656, 3, none⟩ = some (.bool a0_3) := (blk_cell BK656.out 3).trans rfl
      have hfz8_0 := blk_frozen BK656.out 0
      have hfz8_1 := blk_frozen BK656.out 1
      have hfz8_2 := blk_frozen BK656.out 2
      have hfz8_3 := blk_frozen BK656.out 3
      go_wp2_with (first | ((with_reducible refine gate_callee (f := 18) rfl ?_); refine goesL_ (some 10) rfl rfl Try.func18 (by kernel_rfl) rfl #[.agg #[.int .i64 a0_0, .slice A0_1 l0_1.length c0_1, .int .i64 a0_2, .bool a0_3]] rfl (by (try simp only [List.map_toArray, List.map_cons, List.map_nil]); first | done | rfl | (simp only [List.length_drop, List.length_take]; rfl)) ?_; (with_reducible refine (impl_IsRollout.calls k a0_0 _ _ l0_1 a0_2 a0_3 false _ ?side1 ?side2 A6.out).mono ?_); (case side1 => repeat (first | exact (Kd.C_below HR0_1.out HB.out) | (with_reducible refine Kd.C_alloc ?_ _) | (with_reducible refine Kd.C_drewN ?_ _) | (with_reducible refine Kd.C_drew ?_))); (case side2 => exact HC0_1.out); rintro e w9 ⟨rfl, hb⟩; refine ⟨_, rfl, ?_⟩; have n0_ := Aside0.mk (blk_below (g := gb656) (o := .cells #[.int .i64 a0_0, .slice A0_1 l0_1.length c0_1, .int .i64 a0_2, .bool a0_3] 27 (0, 0)) (by (with_reducible repeat (first | refine blk_drewN ?_ _ | refine blk_drew ?_ | refine blk_alloc ?_ _)); exact BK656.out) hb); have n1_ := Aside0.mk (below_step (by repeat (first | (with_reducible first | exact HB.out | apply below_alloc | apply pw_below_drewN | apply below_drew1 | refine below_set ?_ GE656.out) | exact HB.out)) hb); clear BK656; clear HB; have BK656 := n0_; have HB := n1_; clear n0_ n1_; (try clear hb); (try clear hb2); (try clear hk); (try clear hi)))
      go_meet
      case rel => exact ⟨_, (true), (by first | rfl | (simp; done) | (simp [*]; done)), H', ⟨by first | omega | exact Nat.le_refl _⟩, ⟨by (with_reducible repeat (first | refine blk_drewN ?_ _ | refine blk_drew ?_ | refine blk_alloc ?_ _)); exact BK656.out⟩, ⟨by repeat (first | (with_reducible first | exact HB.out | apply below_alloc | apply pw_below_drewN | apply below_drew1 | refine below_set ?_ GE656.out) | exact HB.out)⟩⟩
    subst c7
    have H1 : ((impl_InRange.f a2 1 (l0_1.length : Int)).bind fun t658 => (impl_MostHurt.j0 k a1 a2 (!t658) a0_0 l0_1 a0_2 a0_3)) = some r := by rw [if_pos rfl] at H; exact H
    clear H
    have H := H1
    clear H1
    replace H := Option.bind_eq_some_iff.mp H
    obtain ⟨t658, A100, H⟩ := H
    replace H : (impl_MostHurt.j0 k a1 a2 (!t658) a0_0 l0_1 a0_2 a0_3) = some r := H
    have A10 := Aside0.mk A100
    clear A100
    have H' := Aside0.mk H
    clear H
    have hcz11_0 : w5.cell? ⟨gb656, 0, none⟩ = some (.int .i64 a0_0) := (blk_cell BK656.out 0).trans rfl
    have hcz11_1 : w5.cell? ⟨gb656, 1, none⟩ = some (.slice A0_1 l0_1.length c0_1) := (blk_cell BK656.out 1).trans rfl
    have hcz11_2 : w5.cell? ⟨gb656, 2, none⟩ = some (.int .i64 a0_2) := (blk_cell BK656.out 2).trans rfl
    have hcz11_3 : w5.cell? ⟨gb656, 3, none⟩ = some (.bool a0_3) := (blk_cell BK656.out 3).trans rfl
    have hfz11_0 := blk_frozen BK656.out 0
    have hfz11_1 := blk_frozen BK656.out 1
    have hfz11_2 := blk_frozen BK656.out 2
    have hfz11_3 := blk_frozen BK656.out 3
    go_wp2_with (first | ((with_reducible refine gate_callee (f := 18) rfl ?_); refine goesL_ (some 10) rfl rfl Try.func18 (by kernel_rfl) rfl #[.agg #[.int .i64 a0_0, .slice A0_1 l0_1.length c0_1, .int .i64 a0_2, .bool a0_3]] rfl (by (try simp only [List.map_toArray, List.map_cons, List.map_nil]); first | done | rfl | (simp only [List.length_drop, List.length_take]; rfl)) ?_; (with_reducible refine (impl_IsRollout.calls k a0_0 _ _ l0_1 a0_2 a0_3 true _ ?side1 ?side2 A6.out).mono ?_); (case side1 => repeat (first | exact (Kd.C_below HR0_1.out HB.out) | (with_reducible refine Kd.C_alloc ?_ _) | (with_reducible refine Kd.C_drewN ?_ _) | (with_reducible refine Kd.C_drew ?_))); (case side2 => exact HC0_1.out); rintro e w12 ⟨rfl, hb⟩; refine ⟨_, rfl, ?_⟩; have n0_ := Aside0.mk (blk_below (g := gb656) (o := .cells #[.int .i64 a0_0, .slice A0_1 l0_1.length c0_1, .int .i64 a0_2, .bool a0_3] 27 (0, 0)) (by (with_reducible repeat (first | refine blk_drewN ?_ _ | refine blk_drew ?_ | refine blk_alloc ?_ _)); exact BK656.out) hb); have n1_ := Aside0.mk (below_step (by repeat (first | (with_reducible first | exact HB.out | apply below_alloc | apply pw_below_drewN | apply below_drew1 | refine below_set ?_ GE656.out) | exact HB.out)) hb); clear BK656; clear HB; have BK656 := n0_; have HB := n1_; clear n0_ n1_; (try clear hb); (try clear hb2); (try clear hk); (try clear hi); have hcz13_0 : w12.cell? ⟨gb656, 0, none⟩ = some (.int .i64 a0_0) := (blk_cell BK656.out 0).trans rfl; have hcz13_1 : w12.cell? ⟨gb656, 1, none⟩ = some (.slice A0_1 l0_1.length c0_1) := (blk_cell BK656.out 1).trans rfl; have hcz13_2 : w12.cell? ⟨gb656, 2, none⟩ = some (.int .i64 a0_2) := (blk_cell BK656.out 2).trans rfl; have hcz13_3 : w12.cell? ⟨gb656, 3, none⟩ = some (.bool a0_3) := (blk_cell BK656.out 3).trans rfl; have hfz13_0 := blk_frozen BK656.out 0; have hfz13_1 := blk_frozen BK656.out 1; have hfz13_2 := blk_frozen BK656.out 2; have hfz13_3 := blk_frozen BK656.out 3) | (go_at_call 53; (with_reducible refine (impl_InRange.calls a2 1 (l0_1.length : Int) t658 _ A10.out).mono ?_); rintro e w' ⟨rfl, ⟨nd, rfl⟩⟩))
    go_meet
    case rel => exact ⟨_, (!t658), (by first | rfl | (simp; done) | (simp [*]; done)), H', ⟨by first | omega | exact Nat.le_refl _⟩, ⟨by (with_reducible repeat (first | refine blk_drewN ?_ _ | refine blk_drew ?_ | refine blk_alloc ?_ _)); exact BK656.out⟩, ⟨by repeat (first | (with_reducible first | exact HB.out | apply below_alloc | apply pw_below_drewN | apply below_drew1 | refine below_set ?_ GE656.out) | exact HB.out)⟩⟩
  clear HC4
  try clear c1
  try clear p2
  try clear c3
  try clear c7
  try clear hcz11_0
  try clear hcz11_1
  try clear hcz11_2
  try clear hcz11_3
  try clear hcz13_0
  try clear hcz13_1
  try clear hcz13_2
  try clear hcz13_3
  try clear hcz8_0
  try clear hcz8_1
  try clear hcz8_2
  try clear hcz8_3
  try clear hfz11_0
  try clear hfz11_1
  try clear hfz11_2
  try clear hfz11_3
  try clear hfz13_0
  try clear hfz13_1
  try clear hfz13_2
  try clear hfz13_3
  try clear hfz8_0
  try clear hfz8_1
  try clear hfz8_2
  try clear hfz8_3
  obtain ⟨kq, x19_3, rfl, HA, HJ3, BK656, HB⟩ := hcut
  rcases kq with _ | kj3
  · exact absurd HA.out (by simp [impl_MostHurt.j0])
  have H := HA.out
  clear HA
  simp only [impl_MostHurt.j0] at H
  by_cases c14 : x19_3 = true
  rotate_left
  · replace c14 := Bool.eq_false_iff.mpr c14
    subst c14
    have H1 : (impl_MostHurt.l0 kj3 a1 0 a2 0 a0_0 l0_1 a0_2 a0_3) = some r := by rw [if_neg (show ¬ (false = true) by decide)] at H; exact H
    clear H
    have H := H1
    clear H1
    have H' := Aside0.mk H
    clear H
    go_wp2
    go_loopg [7, 21] kj3 (fun kq v7 v21 w' => ∃ (x7_2 : Int) (x21_2 : Int) (x657002_2 : Int), v7 = .int .i64 x7_2 ∧ v21 = .int .i64 x21_2 ∧ Aside0 (impl_MostHurt.l0 kq a1 x7_2 a2 x21_2 a0_0 l0_1 x657002_2 a0_3 = some r) ∧ Aside0 (kq ≤ kj3) ∧ Aside0 (w'.heap[gb656]? = some (.cells #[.int .i64 a0_0, (.slice A0_1 l0_1.length c0_1), .int .i64 x657002_2, .bool a0_3] 27 (0, 0))) ∧ Aside0 (Below w.heap.size w w'))
    case atStart => exact ⟨(0), (0), (a0_2), (by first | rfl | (simp; done) | (simp [*]; done)), (by first | rfl | (simp; done) | (simp [*]; done)), H', ⟨Nat.le_refl _⟩, ⟨by (with_reducible repeat (first | refine blk_drewN ?_ _ | refine blk_drew ?_ | refine blk_alloc ?_ _)); exact BK656.out⟩, ⟨by repeat (first | (with_reducible first | exact HB.out | apply below_alloc | apply pw_below_drewN | apply below_drew1 | refine below_set ?_ GE656.out) | exact HB.out)⟩⟩
    clear H'
    try clear c1
    try clear p2
    try clear c3
    try clear c7
    try clear c14
    try clear hcz11_0
    try clear hcz11_1
    try clear hcz11_2
    try clear hcz11_3
    try clear hcz13_0
    try clear hcz13_1
    try clear hcz13_2
    try clear hcz13_3
    try clear hcz8_0
    try clear hcz8_1
    try clear hcz8_2
    try clear hcz8_3
    try clear hfz11_0
    try clear hfz11_1
    try clear hfz11_2
    try clear hfz11_3
    try clear hfz13_0
    try clear hfz13_1
    try clear hfz13_2
    try clear hfz13_3
    try clear hfz8_0
    try clear hfz8_1
    try clear hfz8_2
    try clear hfz8_3
    try clear p2
    obtain ⟨x7_2, x21_2, x657002_2, rfl, rfl, HA, HK2, BK656, HB⟩ := hrel
    rcases gk with _ | k2
    · exact absurd HA.out (by simp [impl_MostHurt.l0])
    have H := HA.out
    clear HA
    simp only [impl_MostHurt.l0] at H
    by_cases c15 : x21_2 < a2
    rotate_left
    · rw [if_neg c15] at H
      have c15b0 : decide (x21_2 < a2) = false := decide_eq_false c15
      clear c15
      obtain rfl := Option.some.inj H
      go_wp2
      go_ret
      exact ⟨by first | rfl | (simp [errW_none, errW_some] <;> rfl) | (simp [*, errW_none, errW_some] <;> rfl), by repeat (first | (with_reducible first | exact HB.out | apply below_alloc | apply pw_below_drewN | apply below_drew1 | refine below_set ?_ GE656.out) | exact HB.out)⟩
    rw [if_pos c15] at H
    have c15b0 : decide (x21_2 < a2) = true := decide_eq_true c15
    clear c15
    replace H := Option.bind_eq_some_iff.mp H
    obtain ⟨t659, A160, H⟩ := H
    replace H : (impl_MostHurt.l0 k2 a1 (mx x7_2 t659) a2 (wrap64 (x21_2 + 1)) a0_0 l0_1 x21_2 a0_3) = some r := H
    have A16 := Aside0.mk A160
    clear A160
    obtain ⟨ji17, hji17⟩ : ∃ j_ : Int, (mx x7_2 t659) = j_ := ⟨_, rfl⟩
    replace H : (impl_MostHurt.l0 k2 a1 ji17 a2 (wrap64 (x21_2 + 1)) a0_0 l0_1 x21_2 a0_3) = some r := by first | (rw [hji17] at H; exact H) | (simp only [hji17] at H ⊢; exact H)
    (try rw [hji17] at A16)
    have hji17_ : (if x7_2 < t659 then t659 else x7_2) = ji17 := hji17
    have H' := Aside0.mk H
    clear H
    have hcz18_0 : wr.cell? ⟨gb656, 0, none⟩ = some (.int .i64 a0_0) := (blk_cell BK656.out 0).trans rfl
    have hcz18_1 : wr.cell? ⟨gb656, 1, none⟩ = some (.slice A0_1 l0_1.length c0_1) := (blk_cell BK656.out 1).trans rfl
    have hcz18_2 : wr.cell? ⟨gb656, 2, none⟩ = some (.int .i64 x657002_2) := (blk_cell BK656.out 2).trans rfl
    have hcz18_3 : wr.cell? ⟨gb656, 3, none⟩ = some (.bool a0_3) := (blk_cell BK656.out 3).trans rfl
    have hfz18_0 := blk_frozen BK656.out 0
    have hfz18_1 := blk_frozen BK656.out 1
    have hfz18_2 := blk_frozen BK656.out 2
    have hfz18_3 := blk_frozen BK656.out 3
    go_wp2_with (first | ((with_reducible refine gate_callee (f := 23) rfl ?_); refine goesL_ (some 29) rfl rfl Try.func23 (by kernel_rfl) rfl #[.agg #[.int .i64 a0_0, .slice A0_1 l0_1.length c0_1, .int .i64 x21_2, .bool a0_3], .int .i64 a1] rfl (by (try simp only [List.map_toArray, List.map_cons, List.map_nil]); first | done | rfl | (simp only [List.length_drop, List.length_take]; rfl)) ?_; (with_reducible refine (impl_CountIn.calls k2 a0_0 _ _ l0_1 x21_2 a0_3 a1 t659 _ ?side1 ?side2 A16.out).mono ?_); (case side1 => exact Kd.C_below HR0_1.out (by repeat (first | (with_reducible first | exact HB.out | apply below_alloc | apply pw_below_drewN | apply below_drew1 | refine below_set ?_ GE656.out) | exact HB.out))); (case side2 => exact HC0_1.out); rintro e w19 ⟨rfl, hb⟩; refine ⟨_, rfl, ?_⟩; have n0_ := Aside0.mk (blk_below (g := gb656) (o := .cells #[.int .i64 a0_0, .slice A0_1 l0_1.length c0_1, .int .i64 x21_2, .bool a0_3] 27 (0, 0)) (by (with_reducible repeat (first | refine blk_drewN ?_ _ | refine blk_drew ?_ | refine blk_alloc ?_ _)); refine blk_put (cs := #[.int .i64 a0_0, .slice A0_1 l0_1.length c0_1, .int .i64 x657002_2, .bool a0_3]) ?_ 2 _ rfl; (with_reducible repeat (first | refine blk_drewN ?_ _ | refine blk_drew ?_ | refine blk_alloc ?_ _)); exact BK656.out) hb); have n1_ := Aside0.mk (below_step (by repeat (first | (with_reducible first | exact HB.out | apply below_alloc | apply pw_below_drewN | apply below_drew1 | refine below_set ?_ GE656.out) | exact HB.out)) hb); clear BK656; clear HB; have BK656 := n0_; have HB := n1_; clear n0_ n1_; (try clear hb); (try clear hb2); (try clear hk); (try clear hi)))
    go_roundg k2
    case measure => have := HJ3.out; have := HK2.out; omega
    case rel => exact ⟨(ji17), (wrap64 (x21_2 + 1)), (x21_2), (by first | rfl | (simp; done) | (simp only [← hji17] <;> (first | rfl | simp)) | (simp [*]; done)), (by first | rfl | (simp; done) | (simp [*]; done)), H', ⟨by have := HJ3.out; have := HK2.out; omega⟩, ⟨by (with_reducible repeat (first | refine blk_drewN ?_ _ | refine blk_drew ?_ | refine blk_alloc ?_ _)); exact BK656.out⟩, ⟨by repeat (first | (with_reducible first | exact HB.out | apply below_alloc | apply pw_below_drewN | apply below_drew1 | refine below_set ?_ GE656.out) | exact HB.out)⟩⟩
  subst c14
  have H1 : (some 0) = some r := by rw [if_pos rfl] at H; exact H
  clear H
  have H := H1
  clear H1
  obtain rfl := Option.some.inj H
  go_wp2
  go_ret
  exact ⟨by first | rfl | (simp [errW_none, errW_some] <;> rfl) | (simp [*, errW_none, errW_some] <;> rfl), by repeat (first | (with_reducible first | exact HB.out | apply below_alloc | apply pw_below_drewN | apply below_drew1 | refine below_set ?_ GE656.out) | exact HB.out)⟩

end Go.Proofs.Ytlcmkgbabffmeaa.Print
