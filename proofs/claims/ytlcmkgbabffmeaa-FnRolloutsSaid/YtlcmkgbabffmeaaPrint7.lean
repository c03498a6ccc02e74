-- Written by a program of this session (printx.py) out of the translation; Lean checks it.
import Derived.Test.YtlcmkgbabffmeaaPrint0
import Derived.Test.YtlcmkgbabffmeaaPrint1
import Derived.Test.YtlcmkgbabffmeaaPrint2
import Derived.Test.YtlcmkgbabffmeaaPrint3
import Derived.Test.YtlcmkgbabffmeaaPrint4
import Derived.Test.YtlcmkgbabffmeaaPrint6
namespace Go.Proofs.Ytlcmkgbabffmeaa.Print
open Go.RowKit Go.Proofs.YtlcmkgbabffmeaaW.PrintWords Go.Proofs.YtlcmkgbabffmeaaW.PrintLast Go.Proofs.YtlcmkgbabffmeaaW.PrintMore Go.Proofs.Ytlcmkgbabffmeaa.Short
attribute [local go_sem] max2_int min2_int max_two min_two max_three min_three max_four min_four   -- for this text's walks alone
set_option linter.unusedVariables false
set_option linter.unusedSimpArgs false

/-! ### spec_DrawCountIn: function 33 -/
def spec_DrawCountIn.f (k : Nat) (l0 : List Int) : Option (Int × List Int × Int × Bool × Int) := (spec_l1New.f k l0).bind fun bt457 => ((spec_l26Any.f k bt457.1 bt457.2.1 bt457.2.2).bind fun bt461 => ((spec_l1Int.f bt457.1 bt461.2.2.2.2.1 bt461.2.2.2.2.2 (([0, 1, 7, 10, 10000, 10001, (-1)] : List Int))).bind fun bt473 => (some (bt461.1, bt461.2.1, bt461.2.2.1, bt461.2.2.2.1, bt473.1))))
theorem spec_DrawCountIn.mono : ∀ a0 k, LeO (spec_DrawCountIn.f k a0) (spec_DrawCountIn.f (k + 1) a0) := by
  intro a0 k
  unfold spec_DrawCountIn.f
  repeat' first
      | (with_reducible exact spec_l1New.mono _ _)
      | (with_reducible exact spec_l26Any.mono _ _ _ _)
      | (with_reducible exact LeO.refl _)
      | (with_reducible exact LeO.none _)
      | (with_reducible refine LeO.ite ?_ ?_)
      | (with_reducible refine LeO.bind ?_ (fun _ => ?_))
      | exact spec_l1New.mono _ _
      | exact spec_l26Any.mono _ _ _ _
      | exact LeO.none _
      | refine LeO.ite ?_ ?_
      | refine LeO.bind ?_ (fun _ => ?_)
set_option maxHeartbeats 8000000 in
set_option maxRecDepth 100000 in
theorem spec_DrawCountIn.calls (k : Nat) (A0 : Option Addr) (c0 : Nat) (l0 : List Int) (r1 : Int) (r2 : List Int) (r3 : Int) (r4 : Bool) (r5 : Int) (w : World) (hr0 : Kd.C (Kd.int .u8) w A0 l0.length l0) (hc0 : l0.length ≤ c0) (h : spec_DrawCountIn.f k l0 = some (r1, r2, r3, r4, r5)) :
    Calls Try.prog 33 #[.slice A0 l0.length c0] w fun e w' => ∃ v1_ : Value, e = .returned (.tuple #[.agg #[.int .i64 r1, v1_, .int .i64 r3, .bool r4], .int .i64 r5]) ∧ Kd.R (Kd.int .i64) 3 w' w.heap.size (fun _ => True) v1_ r2 ∧ Below w.heap.size w w' := by
  have hu27 := Try.underlying27
  have HR0 := Aside0.mk hr0
  have HC0 := Aside0.mk hc0
  clear hr0 hc0
  have HB := Aside0.mk (Below.refl w.heap.size w)
  have H : ((spec_l1New.f k l0).bind fun bt457 => ((spec_l26Any.f k bt457.1 bt457.2.1 bt457.2.2).bind fun bt461 => ((spec_l1Int.f bt457.1 bt461.2.2.2.2.1 bt461.2.2.2.2.2 (([0, 1, 7, 10, 10000, 10001, (-1)] : List Int))).bind fun bt473 => (some (bt461.1, bt461.2.1, bt461.2.2.1, bt461.2.2.2.1, bt473.1))))) = some (r1, r2, r3, r4, r5) := h
  clear h
  replace H := Option.bind_eq_some_iff.mp H
  obtain ⟨⟨t457, t458, t459⟩, A20, H⟩ := H
  (try dsimp only at H)
  have A2 := Aside0.mk A20
  clear A20
  replace H := Option.bind_eq_some_iff.mp H
  obtain ⟨⟨t461, t462, t465, t466, t467, t468⟩, A30, H⟩ := H
  (try dsimp only at H)
  have A3 := Aside0.mk A30
  clear A30
  obtain ⟨y470, hy470⟩ : ∃ y_ : List Int, y_ = (([0, 1, 7, 10, 10000, 10001, (-1)] : List Int)) := ⟨_, rfl⟩
  replace H : ((spec_l1Int.f t457 t467 t468 y470).bind fun bt473 => (some (t461, t462, t465, t466, bt473.1))) = some (r1, r2, r3, r4, r5) := by first | (rw [hy470]; with_reducible exact H) | (have H2_ := (Option.bind_some _ _).symm.trans H; rw [hy470]; with_reducible exact H2_) | (have H2_ := (Option.bind_some _ _).symm.trans H; with_reducible exact H2_) | with_reducible exact H | (rw [hy470]; exact H) | exact H
  have Ny470 := Aside0.mk hy470
  clear hy470
  replace H := Option.bind_eq_some_iff.mp H
  obtain ⟨⟨t473, t474, t475⟩, A40, H⟩ := H
  replace H : (some (t461, t462, t465, t466, t473)) = some (r1, r2, r3, r4, r5) := H
  have A4 := Aside0.mk A40
  clear A40
  simp only [Option.some.injEq, Prod.mk.injEq] at H
  obtain ⟨rfl, rfl, rfl, rfl, rfl⟩ := H
  go_enter Try.func33, Try.ntmps33
  try go_wp2_with (first | ((with_reducible refine gate_dst (N := 2) rfl ?_); refine box_event ?hg (N := 2) ?hd (cs := #[.int .i64 0, .slice none 0 0, .int .i64 0, .bool false]) (t := 27) ?hr ?_; (case hd => rfl); (case hg => rfl); (case hr => first | (go_simp; done) | (go_simp; rfl)); intro gb456 hg w5 hbox hb; have n0_ := Aside0.mk (below_step (pb_ HB.out) hb); have n1_ := Aside0.mk (hbox); have n2_ := Aside0.mk ((by rw [hg]; exact (below_size (pb_ HB.out)) : w.heap.size ≤ gb456)); have n3_ := Aside0.mk ((by rw [hg]; exact (below_size (pb_ HB.out)) : w.heap.size ≤ gb456)); clear HB; have HB := n0_; have BK456 := n1_; have GW456 := n2_; have GE456 := n3_; clear n0_ n1_ n2_ n3_; clear hb hbox hg) | ((with_reducible refine gate_callee (f := 61) rfl ?_); refine goesL_ (some 7) rfl rfl Try.func61 (by kernel_rfl) rfl #[.slice A0 l0.length c0] rfl mp_ ?_; (with_reducible refine (spec_l1New.calls k _ _ l0 t457 t458 t459 w _ ?side1 ?side2 ?side3 A2.out).mono ?_); (case side1 => repeat (first | (with_reducible first | exact HB.out | apply below_alloc | apply pw_below_drewN | apply below_drew1 | refine below_set ?_ GE456.out) | exact HB.out)); (case side2 => exact HR0.out); (case side3 => exact HC0.out); rintro e w6 ⟨g460, rfl, hi, hb, hb2⟩; refine ⟨_, rfl, ?_⟩; have n0_ := Aside0.mk (bb_ BK456.out hb2); have n1_ := Aside0.mk (hb); have n2_ := Aside0.mk (hi); have n3_ := Aside0.mk (IsS73.ne_blk hi (bb_ BK456.out hb2) (by decide)); have n4_ := Aside0.mk (Ne.symm (IsS73.ne_blk hi (bb_ BK456.out hb2) (by decide))); clear BK456; clear HB; have BK456 := n0_; have HB := n1_; have HI460 := n2_; have NB460_456 := n3_; have NB456_460 := n4_; clear n0_ n1_ n2_ n3_ n4_; (try clear hb); (try clear hb2); (try clear hk); (try clear hi)) | ((with_reducible refine gate_callee (f := 62) rfl ?_); refine goesL_ (some 9) rfl rfl Try.func62 (by kernel_rfl) rfl #[.pointer (some ⟨g460, 0, none⟩)] rfl mp_ ?_; (with_reducible refine (spec_l26Any.calls k g460 t457 t458 t459 t461 t462 t465 t466 t467 t468 w _ ?side1 ?side2 A3.out).mono ?_); (case side1 => repeat (first | (with_reducible first | exact HI460.out | apply IsS73.alloc | apply IsS73.drewN | apply IsS73.drew | apply IsS73.set_1 | apply IsS73.set_2 | refine IsS73.far ?_ NB460_456.out _) | exact HI460.out)); (case side2 => repeat (first | (with_reducible first | exact HB.out | apply below_alloc | apply pw_below_drewN | apply below_drew1 | refine below_set ?_ (IsS73.ge HI460.out) | refine below_set ?_ GE456.out) | exact HB.out)); rintro e w7 ⟨v463, rfl, ho0, hi, hb, hk⟩; refine ⟨_, rfl, ?_⟩; have n0_ := Aside0.mk (KeepBut.blk hk (g' := gb456) (o := .cells #[.int .i64 0, .slice none 0 0, .int .i64 0, .bool false] 27 (0, 0)) (pk_ BK456.out) NB456_460.out (by simp)); have n1_ := Aside0.mk (Kd.R_lower ho0 (below_size (by repeat (first | (with_reducible first | exact HB.out | apply below_alloc | apply pw_below_drewN | apply below_drew1 | refine below_set ?_ (IsS73.ge HI460.out) | refine below_set ?_ GE456.out) | exact HB.out)))); have n2_ := Aside0.mk (hb); have n3_ := Aside0.mk (hi); clear BK456; clear HB; clear HI460; have BK456 := n0_; have HO464 := n1_; have HB := n2_; have HI460 := n3_; clear n0_ n1_ n2_ n3_; (try clear hb); (try clear hb2); (try clear hk); (try clear hi); (try clear ho0)) | ((with_reducible refine gate_dst (N := 5) rfl ?_); refine box_event ?hg (N := 5) ?hd (cs := #[.int .i64 0, .slice none 0 0, .int .i64 0, .bool false]) (t := 27) ?hr ?_; (case hd => rfl); (case hg => rfl); (case hr => first | (go_simp; done) | (go_simp; rfl)); intro gb469 hg w8 hbox hb; have n0_ := Aside0.mk (Kd.R_below (pr_ HO464.out) hb); have n1_ := Aside0.mk (bb_ BK456.out hb); have n2_ := Aside0.mk (IsS73.below (by repeat (first | (with_reducible first | exact HI460.out | apply IsS73.alloc | apply IsS73.drewN | apply IsS73.drew | apply IsS73.set_1 | apply IsS73.set_2 | refine IsS73.far ?_ NB460_456.out _) | exact HI460.out)) hb); have n3_ := Aside0.mk (below_step (by repeat (first | (with_reducible first | exact HB.out | apply below_alloc | apply pw_below_drewN | apply below_drew1 | refine below_set ?_ (IsS73.ge HI460.out) | refine below_set ?_ GE456.out) | exact HB.out)) hb); have n4_ := Aside0.mk (hbox); have n5_ := Aside0.mk ((by rw [hg]; exact (below_size (by repeat (first | (with_reducible first | exact HB.out | apply below_alloc | apply pw_below_drewN | apply below_drew1 | refine below_set ?_ (IsS73.ge HI460.out) | refine below_set ?_ GE456.out) | exact HB.out))) : w.heap.size ≤ gb469)); have n6_ := Aside0.mk ((by rw [hg]; exact (below_size (by repeat (first | (with_reducible first | exact HB.out | apply below_alloc | apply pw_below_drewN | apply below_drew1 | refine below_set ?_ (IsS73.ge HI460.out) | refine below_set ?_ GE456.out) | exact HB.out))) : w.heap.size ≤ gb469)); have n7_ := Aside0.mk ((by rw [hg]; exact Nat.ne_of_lt (blk_lt (pk_ BK456.out)) : gb456 ≠ gb469)); have n8_ := Aside0.mk ((by rw [hg]; exact Nat.ne_of_gt (blk_lt (pk_ BK456.out)) : gb469 ≠ gb456)); have n9_ := Aside0.mk ((by rw [hg]; exact Nat.ne_of_lt (IsS73.lt (show IsS73 w _ g460 t457 t467 t468 from by repeat (first | (with_reducible first | exact HI460.out | apply IsS73.alloc | apply IsS73.drewN | apply IsS73.drew | apply IsS73.set_1 | apply IsS73.set_2 | refine IsS73.far ?_ NB460_456.out _) | exact HI460.out))) : g460 ≠ gb469)); have n10_ := Aside0.mk ((by rw [hg]; exact Nat.ne_of_gt (IsS73.lt (show IsS73 w _ g460 t457 t467 t468 from by repeat (first | (with_reducible first | exact HI460.out | apply IsS73.alloc | apply IsS73.drewN | apply IsS73.drew | apply IsS73.set_1 | apply IsS73.set_2 | refine IsS73.far ?_ NB460_456.out _) | exact HI460.out))) : gb469 ≠ g460)); clear HO464; clear BK456; clear HI460; clear HB; have HO464 := n0_; have BK456 := n1_; have HI460 := n2_; have HB := n3_; have BK469 := n4_; have GW469 := n5_; have GE469 := n6_; have NB456_469 := n7_; have NB469_456 := n8_; have NB460_469 := n9_; have NB469_460 := n10_; clear n0_ n1_ n2_ n3_ n4_ n5_ n6_ n7_ n8_ n9_ n10_; clear hb hbox hg; have hnb9 := NB469_456.out; have hnc9 := NB456_469.out; have hnb10 := NB469_460.out; have hnc10 := NB460_469.out; have hcz11_0 : w8.cell? ⟨gb469, 0, none⟩ = some (.int .i64 0) := (blk_cell BK469.out 0).trans rfl; have hcz11_1 : w8.cell? ⟨gb469, 1, none⟩ = some (.slice none 0 0) := (blk_cell BK469.out 1).trans rfl; have hcz11_2 : w8.cell? ⟨gb469, 2, none⟩ = some (.int .i64 0) := (blk_cell BK469.out 2).trans rfl; have hcz11_3 : w8.cell? ⟨gb469, 3, none⟩ = some (.bool false) := (blk_cell BK469.out 3).trans rfl; have hfz11_0 := blk_frozen BK469.out 0; have hfz11_1 := blk_frozen BK469.out 1; have hfz11_2 := blk_frozen BK469.out 2; have hfz11_3 := blk_frozen BK469.out 3; obtain ⟨Ao12, co12, eo12⟩ := Kd.R_slice HO464.out; subst eo12))
  have n0_ : Aside0 (Kd.R (Kd.int .i64) 3 ((((w8.setCell ⟨gb469, 0, none⟩ (.int .i64 t461)).setCell ⟨gb469, 1, none⟩ (.slice Ao12 t462.length co12)).setCell ⟨gb469, 2, none⟩ (.int .i64 t465)).setCell ⟨gb469, 3, none⟩ (.bool t466)) w.heap.size (fun _ => True) (.slice Ao12 t462.length co12) t462) := ⟨pr_ (Kd.R_mono (rf4_ HO464.out BK469.out) (fun _ hk => trivial))⟩
  have n1_ : Aside0 (((((w8.setCell ⟨gb469, 0, none⟩ (.int .i64 t461)).setCell ⟨gb469, 1, none⟩ (.slice Ao12 t462.length co12)).setCell ⟨gb469, 2, none⟩ (.int .i64 t465)).setCell ⟨gb469, 3, none⟩ (.bool t466)).heap[gb456]? = some (.cells #[.int .i64 0, .slice none 0 0, .int .i64 0, .bool false] 27 (0, 0))) := ⟨pp_ BK456.out⟩
  have n2_ : Aside0 (((((w8.setCell ⟨gb469, 0, none⟩ (.int .i64 t461)).setCell ⟨gb469, 1, none⟩ (.slice Ao12 t462.length co12)).setCell ⟨gb469, 2, none⟩ (.int .i64 t465)).setCell ⟨gb469, 3, none⟩ (.bool t466)).heap[gb469]? = some (.cells #[.int .i64 t461, .slice Ao12 t462.length co12, .int .i64 t465, .bool t466] 27 (0, 0))) := ⟨pp_ BK469.out⟩
  have n3_ : Aside0 (IsS73 w ((((w8.setCell ⟨gb469, 0, none⟩ (.int .i64 t461)).setCell ⟨gb469, 1, none⟩ (.slice Ao12 t462.length co12)).setCell ⟨gb469, 2, none⟩ (.int .i64 t465)).setCell ⟨gb469, 3, none⟩ (.bool t466)) g460 t457 t467 t468) := ⟨by repeat (first | (with_reducible first | exact HI460.out | apply IsS73.alloc | apply IsS73.drewN | apply IsS73.drew | apply IsS73.set_1 | apply IsS73.set_2 | refine IsS73.far ?_ NB460_456.out _ | refine IsS73.far ?_ NB460_469.out _) | exact HI460.out)⟩
  have n4_ : Aside0 (Below w.heap.size w ((((w8.setCell ⟨gb469, 0, none⟩ (.int .i64 t461)).setCell ⟨gb469, 1, none⟩ (.slice Ao12 t462.length co12)).setCell ⟨gb469, 2, none⟩ (.int .i64 t465)).setCell ⟨gb469, 3, none⟩ (.bool t466))) := ⟨by repeat (first | (with_reducible first | exact HB.out | apply below_alloc | apply pw_below_drewN | apply below_drew1 | refine below_set ?_ (IsS73.ge HI460.out) | refine below_set ?_ GE456.out | refine below_set ?_ GE469.out) | exact HB.out)⟩
  (try clear HO464)
  (try clear BK456)
  (try clear BK469)
  (try clear HI460)
  (try clear HB)
  generalize ((((w8.setCell ⟨gb469, 0, none⟩ (.int .i64 t461)).setCell ⟨gb469, 1, none⟩ (.slice Ao12 t462.length co12)).setCell ⟨gb469, 2, none⟩ (.int .i64 t465)).setCell ⟨gb469, 3, none⟩ (.bool t466)) = w13 at n0_ n1_ n2_ n3_ n4_ ⊢
  have HO464 := n0_
  have BK456 := n1_
  have BK469 := n2_
  have HI460 := n3_
  have HB := n4_
  clear n0_ n1_ n2_ n3_ n4_
  have n0_ := Aside0.mk (Kd.R_drew HO464.out)
  have n1_ := Aside0.mk (blk_drew BK456.out)
  have n2_ := Aside0.mk (blk_drew BK469.out)
  have n3_ := Aside0.mk (IsS73.drew HI460.out)
  have n4_ := Aside0.mk (below_drew1 HB.out)
  clear HO464
  clear BK456
  clear BK469
  clear HI460
  clear HB
  have HO464 := n0_
  have BK456 := n1_
  have BK469 := n2_
  have HI460 := n3_
  have HB := n4_
  clear n0_ n1_ n2_ n3_ n4_
  refine start_ (n := 6) (S := fun w' => w'.cell? ⟨gb469, 0, none⟩ = some (.int .i64 t461) ∧ w'.cell? ⟨gb469, 1, none⟩ = some (.slice Ao12 t462.length co12) ∧ w'.cell? ⟨gb469, 2, none⟩ = some (.int .i64 t465) ∧ w'.cell? ⟨gb469, 3, none⟩ = some (.bool t466)) (ds := []) #[false, false, false, false, false, false] (by kernel_rfl) rfl rfl ⟨(blk_cell BK469.out 0).trans rfl, (blk_cell BK469.out 1).trans rfl, (blk_cell BK469.out 2).trans rfl, (blk_cell BK469.out 3).trans rfl⟩ (fun hHeld => ?_)
  generalize w13.drew = w14 at HO464 BK456 BK469 HI460 HB hHeld ⊢
  refine pure_ (i := 1) (N := some 11) (v := ?_) (a' := ?_) #[false, true, false, false, false, false] rfl rfl (by kernel_rfl) (fun _ _ _ h => h) (Or.inl ⟨by rfl, ?_⟩) ?_ ?_
  rotate_left
  · intro w'
    go_simp
    (try (simp only [Instr.field]; simp only [underlying, hu27]; go_simp; simp only [asAgg]; go_simp))
    with_reducible rfl
  rotate_left
  · simp only [Act.put, List.setIfInBounds_toArray, List.set_cons_zero, List.set_cons_succ, i64_w, i32_w]
    rfl
  refine take_ (i := 0) (N := some 10) (v := ?_) (a' := ?_) #[true, true, false, false, false, false] rfl rfl (by kernel_rfl) (fun _ _ _ h => h) (Or.inl ⟨by rfl, ?_⟩) hHeld ?_ ?_
  rotate_left
  · rintro w' ⟨s0, s1, s2, s3⟩
    go_simp
    (try (simp only [Instr.field]; simp only [underlying, hu27]; go_simp; simp only [asAgg]; go_simp))
    with_reducible rfl
  rotate_left
  · simp only [Act.put, List.setIfInBounds_toArray, List.set_cons_zero, List.set_cons_succ, i64_w, i32_w]
    rfl
  refine one_ (i := 2) (N := some 12) #[true, true, true, false, false, false] rfl rfl (by kernel_rfl) (by decide) (fun K hK => ?_)
  refine Kd.R_lit_step (Kd.int .i64) _ 3 ?hg (N := 12) ?hd (xs := ([0, 1, 7, 10, 10000, 10001, (-1)] : List Int)) (inner := [.int .i64 0, .int .i64 1, .int .i64 7, .int .i64 10, .int .i64 10000, .int .i64 10001, .int .i64 (-1)]) (ok := fun _ => True) (okp := fun _ => True) ?hr ?hp (fun _ hk => hk) trivial (Below.refl _ _) (Nat.le_refl _) (by simp) ?_; (case hd => rfl); (case hg => rfl); (case hr => first | (go_simp; done) | (go_simp; rfl)); (case hp => exact (Reps.one (show Kd.M (Kd.int .i64) _ _ _ 0 [.int .i64 0] from rfl) (Reps.one (show Kd.M (Kd.int .i64) _ _ _ 1 [.int .i64 1] from rfl) (Reps.one (show Kd.M (Kd.int .i64) _ _ _ 7 [.int .i64 7] from rfl) (Reps.one (show Kd.M (Kd.int .i64) _ _ _ 10 [.int .i64 10] from rfl) (Reps.one (show Kd.M (Kd.int .i64) _ _ _ 10000 [.int .i64 10000] from rfl) (Reps.one (show Kd.M (Kd.int .i64) _ _ _ 10001 [.int .i64 10001] from rfl) (Reps.one (show Kd.M (Kd.int .i64) _ _ _ (-1) [.int .i64 (-1)] from rfl) (Reps.none _ _)))))))))
  intro v471 w15 ho16 hb hg_ hnew_
  clear hg_ hnew_
  (first | rw [← Ny470.out] at ho16 | (simp only [Int.reduceToNat] at ho16; rw [← Ny470.out] at ho16))
  have n0_ := Aside0.mk (Kd.R_elder' (pr_ HO464.out) (Kd.R_base ho16) hb)
  have n1_ := Aside0.mk (Kd.R_lower (Kd.R_new' ho16 (Kd.R_lt (pr_ HO464.out))) (below_size (by repeat (first | (with_reducible first | exact HB.out | apply below_alloc | apply pw_below_drewN | apply below_drew1 | refine below_set ?_ (IsS73.ge HI460.out) | refine below_set ?_ GE456.out | refine below_set ?_ GE469.out) | exact HB.out))))
  have n2_ := Aside0.mk (bb_ BK456.out hb)
  have n3_ := Aside0.mk (IsS73.below (by repeat (first | (with_reducible first | exact HI460.out | apply IsS73.alloc | apply IsS73.drewN | apply IsS73.drew | apply IsS73.set_1 | apply IsS73.set_2 | refine IsS73.far ?_ NB460_456.out _ | refine IsS73.far ?_ NB460_469.out _) | exact HI460.out)) hb)
  have n4_ := Aside0.mk (bb_ BK469.out hb)
  have n5_ := Aside0.mk (below_step (by repeat (first | (with_reducible first | exact HB.out | apply below_alloc | apply pw_below_drewN | apply below_drew1 | refine below_set ?_ (IsS73.ge HI460.out) | refine below_set ?_ GE456.out | refine below_set ?_ GE469.out) | exact HB.out)) hb)
  clear HO464
  clear BK456
  clear HI460
  clear BK469
  clear HB
  have HO464 := n0_
  have HO472 := n1_
  have BK456 := n2_
  have HI460 := n3_
  have BK469 := n4_
  have HB := n5_
  clear n0_ n1_ n2_ n3_ n4_ n5_
  clear hb ho16
  obtain ⟨Ao17, co17, eo17⟩ := Kd.R_slice HO472.out
  (first | subst eo17 | (injection eo17 with f1_ f2_ f3_; have f4_ := f1_.symm; have f5_ := f3_.symm; clear f1_ f2_ f3_; subst f4_; subst f5_))
  refine hK.out _ _ ⟨(blk_cell BK469.out 0).trans rfl, (blk_cell BK469.out 1).trans rfl, (blk_cell BK469.out 2).trans rfl, (blk_cell BK469.out 3).trans rfl⟩ (fun hHeld => ?_)
  clear hK K
  refine norm_ (a' := ?_) ?_ ?_
  rotate_left
  · show Act.put _ (some 12) _ = _
    simp only [Act.put, List.setIfInBounds_toArray, List.set_cons_zero, List.set_cons_succ, i64_w, i32_w]
    rfl
  refine one_ (i := 3) (N := some 13) #[true, true, true, true, false, false] rfl rfl (by kernel_rfl) (by decide) (fun K hK => ?_)
  refine goes_ Try.func63 (by kernel_rfl) rfl #[.pointer (some ⟨g460, 0, none⟩), .slice Ao17 y470.length co17] (by rfl) rfl rfl mp_ ?_
  with_reducible refine (spec_l1Int.calls g460 t457 t467 t468 _ _ y470 t473 t474 t475 w _ ?side1 ?side2 ?side3 ?side4 ?side5 A4.out).mono ?_
  (case side1 => repeat (first | (with_reducible first | exact HI460.out | apply IsS73.alloc | apply IsS73.drewN | apply IsS73.drew | apply IsS73.set_1 | apply IsS73.set_2 | refine IsS73.far ?_ NB460_456.out _ | refine IsS73.far ?_ NB460_469.out _) | exact HI460.out))
  (case side2 => repeat (first | (with_reducible first | exact HB.out | apply below_alloc | apply pw_below_drewN | apply below_drew1 | refine below_set ?_ (IsS73.ge HI460.out) | refine below_set ?_ GE456.out | refine below_set ?_ GE469.out) | exact HB.out))
  (case side3 => exact pc_ ((Kd.R_reads' HO472.out).2.2))
  (case side4 => exact (Kd.R_reads' HO472.out).2.1)
  (case side5 => exact far_slice (IsS73.own_ne HI460.out HO472.out (by decide)))
  rintro e w18 ⟨rfl, hi, hb, hk⟩
  refine ⟨_, rfl, ?_⟩
  have n0_ := Aside0.mk (KeepBut.blk hk (g' := gb456) (o := .cells #[.int .i64 0, .slice none 0 0, .int .i64 0, .bool false] 27 (0, 0)) (pk_ BK456.out) NB456_460.out (by simp))
  have n1_ := Aside0.mk (Kd.R_mono (Kd.R_keep (IsS73.apart (show IsS73 w _ g460 t457 t467 t468 from by repeat (first | (with_reducible first | exact HI460.out | apply IsS73.alloc | apply IsS73.drewN | apply IsS73.drew | apply IsS73.set_1 | apply IsS73.set_2 | refine IsS73.far ?_ NB460_456.out _ | refine IsS73.far ?_ NB460_469.out _) | exact HI460.out)) (pr_ HO464.out) (by decide)) hk (fun _ h => h.2)) (fun _ h => h.1))
  have n2_ := Aside0.mk (KeepBut.blk hk (g' := gb469) (o := .cells #[.int .i64 t461, .slice Ao12 t462.length co12, .int .i64 t465, .bool t466] 27 (0, 0)) (pk_ BK469.out) NB469_460.out (by simp))
  have n3_ := Aside0.mk (Kd.R_mono (Kd.R_keep (IsS73.apart (show IsS73 w _ g460 t457 t467 t468 from by repeat (first | (with_reducible first | exact HI460.out | apply IsS73.alloc | apply IsS73.drewN | apply IsS73.drew | apply IsS73.set_1 | apply IsS73.set_2 | refine IsS73.far ?_ NB460_456.out _ | refine IsS73.far ?_ NB460_469.out _) | exact HI460.out)) (pr_ HO472.out) (by decide)) hk (fun _ h => h.2)) (fun _ h => h.1))
  have n4_ := Aside0.mk (hb)
  have n5_ := Aside0.mk (hi)
  clear BK456
  clear HO464
  clear BK469
  clear HO472
  clear HB
  clear HI460
  have BK456 := n0_
  have HO464 := n1_
  have BK469 := n2_
  have HO472 := n3_
  have HB := n4_
  have HI460 := n5_
  clear n0_ n1_ n2_ n3_ n4_ n5_
  (try clear hb)
  (try clear hb2)
  (try clear hk)
  (try clear hi)
  refine hK.out _ _ ⟨(blk_cell BK469.out 0).trans rfl, (blk_cell BK469.out 1).trans rfl, (blk_cell BK469.out 2).trans rfl, (blk_cell BK469.out 3).trans rfl⟩ (fun hHeld => ?_)
  clear hK K
  refine norm_ (a' := ?_) ?_ ?_
  rotate_left
  · show Act.put _ (some 13) _ = _
    simp only [Act.put, List.setIfInBounds_toArray, List.set_cons_zero, List.set_cons_succ, i64_w, i32_w]
    rfl
  refine one_ (i := 4) (N := none) #[true, true, true, true, true, false] rfl rfl (by kernel_rfl) (by decide) (fun K hK => ?_)
  have hs19 : w18.cell? ⟨gb456, 0, none⟩ = some (.int .i64 0) := (blk_cell BK456.out 0).trans rfl
  have hfs19 := blk_frozen BK456.out 0
  have hns19_1 := NB469_456.out
  have hms19_1 := NB456_469.out
  have hs20 : w18.cell? ⟨gb456, 1, none⟩ = some (.slice none 0 0) := (blk_cell BK456.out 1).trans rfl
  have hfs20 := blk_frozen BK456.out 1
  have hns20_1 := NB469_456.out
  have hms20_1 := NB456_469.out
  have hs21 : w18.cell? ⟨gb456, 2, none⟩ = some (.int .i64 0) := (blk_cell BK456.out 2).trans rfl
  have hfs21 := blk_frozen BK456.out 2
  have hns21_1 := NB469_456.out
  have hms21_1 := NB456_469.out
  have hs22 : w18.cell? ⟨gb456, 3, none⟩ = some (.bool false) := (blk_cell BK456.out 3).trans rfl
  have hfs22 := blk_frozen BK456.out 3
  have hns22_1 := NB469_456.out
  have hms22_1 := NB456_469.out
  refine skip_ (w1 := ?_) (by rfl) rfl ?_ ?_
  rotate_left
  · go_simp
    rfl
  refine hK.out _ _ ⟨((cell_far (p := ⟨gb456, _, none⟩) NB469_456.out _).trans (((cell_far (p := ⟨gb456, _, none⟩) NB469_456.out _).trans (((cell_far (p := ⟨gb456, _, none⟩) NB469_456.out _).trans (((cell_far (p := ⟨gb456, _, none⟩) NB469_456.out _).trans (hHeld.1)))))))), ((cell_far (p := ⟨gb456, _, none⟩) NB469_456.out _).trans (((cell_far (p := ⟨gb456, _, none⟩) NB469_456.out _).trans (((cell_far (p := ⟨gb456, _, none⟩) NB469_456.out _).trans (((cell_far (p := ⟨gb456, _, none⟩) NB469_456.out _).trans (hHeld.2.1)))))))), ((cell_far (p := ⟨gb456, _, none⟩) NB469_456.out _).trans (((cell_far (p := ⟨gb456, _, none⟩) NB469_456.out _).trans (((cell_far (p := ⟨gb456, _, none⟩) NB469_456.out _).trans (((cell_far (p := ⟨gb456, _, none⟩) NB469_456.out _).trans (hHeld.2.2.1)))))))), ((cell_far (p := ⟨gb456, _, none⟩) NB469_456.out _).trans (((cell_far (p := ⟨gb456, _, none⟩) NB469_456.out _).trans (((cell_far (p := ⟨gb456, _, none⟩) NB469_456.out _).trans (((cell_far (p := ⟨gb456, _, none⟩) NB469_456.out _).trans (hHeld.2.2.2))))))))⟩ (fun hHeld => ?_)
  clear hK K
  refine pure_ (i := 5) (N := some 3) (v := ?_) (a' := ?_) #[true, true, true, true, true, true] rfl rfl (by kernel_rfl) (fun _ _ _ h => h) (Or.inl ⟨by rfl, ?_⟩) ?_ ?_
  rotate_left
  · intro w'
    go_simp
    (try (simp only [Instr.field]; simp only [underlying, hu27]; go_simp; simp only [asAgg]; go_simp))
    with_reducible rfl
  rotate_left
  · simp only [Act.put, List.setIfInBounds_toArray, List.set_cons_zero, List.set_cons_succ, i64_w, i32_w]
    rfl
  refine done_ (by kernel_rfl) ?_
  try go_wp2
  refine bodyPost_ret (results_ct rfl _ _ gb456 27 #[.int .i64 t461, .slice Ao12 t462.length co12, .int .i64 t465, .bool t466] (0, 0) _ rfl (pp_ BK456.out) Try.underlying27 rfl (by kernel_rfl)) rfl ?_
  exact ⟨_, er_, pr_ (Kd.R_mono (rf4_ HO464.out BK456.out) (fun _ hk => trivial)), by repeat (first | (with_reducible first | exact HB.out | apply below_alloc | apply pw_below_drewN | apply below_drew1 | refine below_set ?_ (IsS73.ge HI460.out) | refine below_set ?_ GE456.out | refine below_set ?_ GE469.out) | exact HB.out)⟩

/-! ### spec_CeilDiv: function 56 -/
def spec_CeilDiv.f (a0 : Int) (a1 : Int) : Option (Int) := (spec_l1In.f a0 0 1000000000000).bind fun t519 => (if t519 = true then ((spec_l1In.f a1 1 1000000000000).bind fun t520 => (if t520 = true then (if a1 = 0 then (none) else (some (wrap64 (Int.tdiv (wrap64 ((wrap64 (a0 + a1)) - 1)) a1)))) else (some 0))) else (some 0))
set_option maxHeartbeats 8000000 in
set_option maxRecDepth 100000 in
theorem spec_CeilDiv.calls (a0 : Int) (a1 : Int) (r : Int) (w : World) (h : spec_CeilDiv.f a0 a1 = some r) :
    Calls Try.prog 56 #[.int .i64 a0, .int .i64 a1] w fun e w' => e = .returned (.int .i64 r) ∧ Drawn0 w w' := by
  have H : ((spec_l1In.f a0 0 1000000000000).bind fun t519 => (if t519 = true then ((spec_l1In.f a1 1 1000000000000).bind fun t520 => (if t520 = true then (if a1 = 0 then (none) else (some (wrap64 (Int.tdiv (wrap64 ((wrap64 (a0 + a1)) - 1)) a1)))) else (some 0))) else (some 0))) = some r := h
  clear h
  replace H := Option.bind_eq_some_iff.mp H
  obtain ⟨t519, A30, H⟩ := H
  (try dsimp only at H)
  have A3 := Aside0.mk A30
  clear A30
  by_cases c4 : t519 = true
  rotate_left
  · replace c4 := Bool.eq_false_iff.mpr c4
    subst c4
    rw [if_neg (show ¬ (false = true) by decide)] at H
    obtain rfl := Option.some.inj H
    go_enter Try.func56, Try.ntmps56
    go_wp2_with (first | ((with_reducible refine gate_callee (f := 52) rfl ?_); refine goesL_ (some 6) rfl rfl Try.func52 (by kernel_rfl) rfl #[.int .i64 a0, .int .i64 0, .int .i64 1000000000000] rfl mp_ ?_; (with_reducible refine (spec_l1In.calls a0 0 1000000000000 false _ A3.out).mono ?_); rintro e w' ⟨rfl, ⟨nd, rfl⟩⟩; refine ⟨_, rfl, ?_⟩))
    go_ret
    exact ⟨by first | rfl | (simp; done) | (simp [*]; done), by repeat (first | exact Drawn0.refl _ | apply Drawn0.step)⟩
  subst c4
  rw [if_pos rfl] at H
  replace H := Option.bind_eq_some_iff.mp H
  obtain ⟨t520, A50, H⟩ := H
  (try dsimp only at H)
  have A5 := Aside0.mk A50
  clear A50
  have HS_ := Aside0.mk H
  clear H
  go_enter Try.func56, Try.ntmps56
  go_upto_if 12 with (first | ((with_reducible refine gate_callee (f := 52) rfl ?_); refine goesL_ (some 6) rfl rfl Try.func52 (by kernel_rfl) rfl #[.int .i64 a0, .int .i64 0, .int .i64 1000000000000] rfl mp_ ?_; (with_reducible refine (spec_l1In.calls a0 0 1000000000000 true _ A3.out).mono ?_); rintro e w' ⟨rfl, ⟨nd, rfl⟩⟩; refine ⟨_, rfl, ?_⟩) | (go_at_call 52; (with_reducible refine (spec_l1In.calls a1 1 1000000000000 t520 _ A5.out).mono ?_); rintro e w' ⟨rfl, ⟨nd, rfl⟩⟩))
  (try simp only [Act.put, List.setIfInBounds_toArray, List.set_cons_zero, List.set_cons_succ])
  have H := HS_.out
  clear HS_
  by_cases c6 : t520 = true
  rotate_left
  · replace c6 := Bool.eq_false_iff.mpr c6
    subst c6
    rw [if_neg (show ¬ (false = true) by decide)] at H
    obtain rfl := Option.some.inj H
    go_wp2
    go_ret
    exact ⟨by first | rfl | (simp; done) | (simp [*]; done), by repeat (first | exact Drawn0.refl _ | apply Drawn0.step)⟩
  subst c6
  rw [if_pos rfl] at H
  by_cases c7 : a1 = 0
  rotate_left
  · rw [if_neg c7] at H
    have c7b0 : (a1 == 0) = false := beq_eq_false_iff_ne.mpr c7
    have c7b1 : (a1 != 0) = true := bne_iff_ne.mpr c7
    (first | rw [c7b0] | (simp only [i64_w, i32_w]; rw [c7b0]) | rw [c7b1] | (have c_ := c7b1; rw [bne] at c_; rw [c_]; clear c_) | skip)
    obtain rfl := Option.some.inj H
    go_wp2
    go_ret
    exact ⟨by first | rfl | (simp; done) | (simp [*]; done), by repeat (first | exact Drawn0.refl _ | apply Drawn0.step)⟩
  rw [if_pos c7] at H
  exact absurd H (by simp)

/-! ### spec_CountIn: function 22 -/
def spec_CountIn.f (k : Nat) (a0_0 : Int) (l0_1 : List Int) (a0_2 : Int) (a0_3 : Bool) (a1 : Int) : Option (Int) := (spec_IsRollout.f k a0_0 l0_1 a0_2 a0_3).bind fun t522 => (if t522 = true then (if a0_3 = true then (some 0) else ((spec_l1In.f a1 0 10000).bind fun t523 => (if t523 = true then (if 0 ≤ a0_2 then (if a0_2 < (l0_1.length : Int) then ((spec_CeilDiv.f (wrap64 (a1 * (rd l0_1 a0_2))) 100).bind fun t525 => (some t525)) else (none)) else (none)) else (some 0)))) else (some 0))
theorem spec_CountIn.mono : ∀ a0 a1 a2 a3 a4 k, LeO (spec_CountIn.f k a0 a1 a2 a3 a4) (spec_CountIn.f (k + 1) a0 a1 a2 a3 a4) := by
  intro a0 a1 a2 a3 a4 k
  unfold spec_CountIn.f
  repeat' first
      | (with_reducible exact spec_IsRollout.mono _ _ _ _ _)
      | (with_reducible exact LeO.refl _)
      | (with_reducible exact LeO.none _)
      | (with_reducible refine LeO.ite ?_ ?_)
      | (with_reducible refine LeO.bind ?_ (fun _ => ?_))
      | exact spec_IsRollout.mono _ _ _ _ _
      | exact LeO.none _
      | refine LeO.ite ?_ ?_
      | refine LeO.bind ?_ (fun _ => ?_)
set_option maxHeartbeats 8000000 in
set_option maxRecDepth 100000 in
theorem spec_CountIn.calls (k : Nat) (a0_0 : Int) (A0_1 : Option Addr) (c0_1 : Nat) (l0_1 : List Int) (a0_2 : Int) (a0_3 : Bool) (a1 : Int) (r : Int) (w : World) (hr0_1 : Kd.C (Kd.int .i64) w A0_1 l0_1.length l0_1) (hc0_1 : l0_1.length ≤ c0_1) (h : spec_CountIn.f k a0_0 l0_1 a0_2 a0_3 a1 = some r) :
    Calls Try.prog 22 #[.agg #[.int .i64 a0_0, .slice A0_1 l0_1.length c0_1, .int .i64 a0_2, .bool a0_3], .int .i64 a1] w fun e w' => e = .returned (.int .i64 r) ∧ Below w.heap.size w w' := by
  have hu27 := Try.underlying27
  have HR0_1 := Aside0.mk hr0_1
  have HC0_1 := Aside0.mk hc0_1
  clear hr0_1 hc0_1
  have HB := Aside0.mk (Below.refl w.heap.size w)
  have H : ((spec_IsRollout.f k a0_0 l0_1 a0_2 a0_3).bind fun t522 => (if t522 = true then (if a0_3 = true then (some 0) else ((spec_l1In.f a1 0 10000).bind fun t523 => (if t523 = true then (if 0 ≤ a0_2 then (if a0_2 < (l0_1.length : Int) then ((spec_CeilDiv.f (wrap64 (a1 * (rd l0_1 a0_2))) 100).bind fun t525 => (some t525)) else (none)) else (none)) else (some 0)))) else (some 0))) = some r := h
  clear h
  have HS_ := Aside0.mk H
  clear H
  go_enter Try.func22, Try.ntmps22
  go_upto_region 1 with (first | ((with_reducible refine gate_dst (N := 2) rfl ?_); refine box_event ?hg (N := 2) ?hd (cs := #[.int .i64 a0_0, .slice A0_1 l0_1.length c0_1, .int .i64 a0_2, .bool a0_3]) (t := 27) ?hr ?_; (case hd => rfl); (case hg => rfl); (case hr => first | (go_simp; done) | (go_simp; rfl)); intro gb521 hg w3 hbox hb; have n0_ := Aside0.mk (below_step (pb_ HB.out) hb); have n1_ := Aside0.mk (hbox); have n2_ := Aside0.mk ((by rw [hg]; exact (below_size (pb_ HB.out)) : w.heap.size ≤ gb521)); have n3_ := Aside0.mk ((by rw [hg]; exact (below_size (pb_ HB.out)) : w.heap.size ≤ gb521)); clear HB; have HB := n0_; have BK521 := n1_; have GW521 := n2_; have GE521 := n3_; clear n0_ n1_ n2_ n3_; clear hb hbox hg))
  (try simp only [Act.put, List.setIfInBounds_toArray, List.set_cons_zero, List.set_cons_succ])
  have H := HS_.out
  clear HS_
  replace H := Option.bind_eq_some_iff.mp H
  obtain ⟨t522, A40, H⟩ := H
  (try dsimp only at H)
  have A4 := Aside0.mk A40
  clear A40
  by_cases c5 : t522 = true
  rotate_left
  · replace c5 := Bool.eq_false_iff.mpr c5
    subst c5
    rw [if_neg (show ¬ (false = true) by decide)] at H
    obtain rfl := Option.some.inj H
    obtain ⟨hcz6_0, hcz6_1, hcz6_2, hcz6_3, hfz6_0, hfz6_1, hfz6_2, hfz6_3⟩ := bc4_ BK521.out
    go_wp2_with (first | ((with_reducible refine gate_callee (f := 16) rfl ?_); refine goesL_ (some 6) rfl rfl Try.func16 (by kernel_rfl) rfl #[.agg #[.int .i64 a0_0, .slice A0_1 l0_1.length c0_1, .int .i64 a0_2, .bool a0_3]] rfl mp_ ?_; (with_reducible refine (spec_IsRollout.calls k a0_0 _ _ l0_1 a0_2 a0_3 false _ ?side1 ?side2 A4.out).mono ?_); (case side1 => exact pc_ (Kd.C_below HR0_1.out HB.out)); (case side2 => exact HC0_1.out); rintro e w7 ⟨rfl, hb⟩; refine ⟨_, rfl, ?_⟩; have n0_ := Aside0.mk (bb_ BK521.out hb); have n1_ := Aside0.mk (below_step (pb1_ HB.out GE521.out) hb); clear BK521; clear HB; have BK521 := n0_; have HB := n1_; clear n0_ n1_; (try clear hb); (try clear hb2); (try clear hk); (try clear hi)))
    go_ret
    exact ⟨er_, pb1_ HB.out GE521.out⟩
  subst c5
  rw [if_pos rfl] at H
  by_cases c8 : a0_3 = true
  · subst c8
    rw [if_pos rfl] at H
    obtain rfl := Option.some.inj H
    obtain ⟨hcz9_0, hcz9_1, hcz9_2, hcz9_3, hfz9_0, hfz9_1, hfz9_2, hfz9_3⟩ := bc4_ BK521.out
    go_wp2_with (first | ((with_reducible refine gate_callee (f := 16) rfl ?_); refine goesL_ (some 6) rfl rfl Try.func16 (by kernel_rfl) rfl #[.agg #[.int .i64 a0_0, .slice A0_1 l0_1.length c0_1, .int .i64 a0_2, .bool true]] rfl mp_ ?_; (with_reducible refine (spec_IsRollout.calls k a0_0 _ _ l0_1 a0_2 true true _ ?side1 ?side2 A4.out).mono ?_); (case side1 => exact pc_ (Kd.C_below HR0_1.out HB.out)); (case side2 => exact HC0_1.out); rintro e w10 ⟨rfl, hb⟩; refine ⟨_, rfl, ?_⟩; have n0_ := Aside0.mk (bb_ BK521.out hb); have n1_ := Aside0.mk (below_step (pb1_ HB.out GE521.out) hb); clear BK521; clear HB; have BK521 := n0_; have HB := n1_; clear n0_ n1_; (try clear hb); (try clear hb2); (try clear hk); (try clear hi); have hcz11_0 : w10.cell? ⟨gb521, 0, none⟩ = some (.int .i64 a0_0) := (blk_cell BK521.out 0).trans rfl; have hcz11_1 : w10.cell? ⟨gb521, 1, none⟩ = some (.slice A0_1 l0_1.length c0_1) := (blk_cell BK521.out 1).trans rfl; have hcz11_2 : w10.cell? ⟨gb521, 2, none⟩ = some (.int .i64 a0_2) := (blk_cell BK521.out 2).trans rfl; have hcz11_3 : w10.cell? ⟨gb521, 3, none⟩ = some (.bool true) := (blk_cell BK521.out 3).trans rfl; have hfz11_0 := blk_frozen BK521.out 0; have hfz11_1 := blk_frozen BK521.out 1; have hfz11_2 := blk_frozen BK521.out 2; have hfz11_3 := blk_frozen BK521.out 3))
    go_ret
    exact ⟨er_, pb1_ HB.out GE521.out⟩
  replace c8 := Bool.eq_false_iff.mpr c8
  subst c8
  rw [if_neg (show ¬ (false = true) by decide)] at H
  replace H := Option.bind_eq_some_iff.mp H
  obtain ⟨t523, A120, H⟩ := H
  (try dsimp only at H)
  have A12 := Aside0.mk A120
  clear A120
  have HS_ := Aside0.mk H
  clear H
  obtain ⟨hcz13_0, hcz13_1, hcz13_2, hcz13_3, hfz13_0, hfz13_1, hfz13_2, hfz13_3⟩ := bc4_ BK521.out
  go_upto_if 16 with (first | ((with_reducible refine gate_callee (f := 16) rfl ?_); refine goesL_ (some 6) rfl rfl Try.func16 (by kernel_rfl) rfl #[.agg #[.int .i64 a0_0, .slice A0_1 l0_1.length c0_1, .int .i64 a0_2, .bool false]] rfl mp_ ?_; (with_reducible refine (spec_IsRollout.calls k a0_0 _ _ l0_1 a0_2 false true _ ?side1 ?side2 A4.out).mono ?_); (case side1 => exact pc_ (Kd.C_below HR0_1.out HB.out)); (case side2 => exact HC0_1.out); rintro e w14 ⟨rfl, hb⟩; refine ⟨_, rfl, ?_⟩; have n0_ := Aside0.mk (bb_ BK521.out hb); have n1_ := Aside0.mk (below_step (pb1_ HB.out GE521.out) hb); clear BK521; clear HB; have BK521 := n0_; have HB := n1_; clear n0_ n1_; (try clear hb); (try clear hb2); (try clear hk); (try clear hi); have hcz15_0 : w14.cell? ⟨gb521, 0, none⟩ = some (.int .i64 a0_0) := (blk_cell BK521.out 0).trans rfl; have hcz15_1 : w14.cell? ⟨gb521, 1, none⟩ = some (.slice A0_1 l0_1.length c0_1) := (blk_cell BK521.out 1).trans rfl; have hcz15_2 : w14.cell? ⟨gb521, 2, none⟩ = some (.int .i64 a0_2) := (blk_cell BK521.out 2).trans rfl; have hcz15_3 : w14.cell? ⟨gb521, 3, none⟩ = some (.bool false) := (blk_cell BK521.out 3).trans rfl; have hfz15_0 := blk_frozen BK521.out 0; have hfz15_1 := blk_frozen BK521.out 1; have hfz15_2 := blk_frozen BK521.out 2; have hfz15_3 := blk_frozen BK521.out 3) | (go_at_call 52; (with_reducible refine (spec_l1In.calls a1 0 10000 t523 _ A12.out).mono ?_); rintro e w' ⟨rfl, ⟨nd, rfl⟩⟩))
  (try simp only [Act.put, List.setIfInBounds_toArray, List.set_cons_zero, List.set_cons_succ])
  have H := HS_.out
  clear HS_
  by_cases c16 : t523 = true
  rotate_left
  · replace c16 := Bool.eq_false_iff.mpr c16
    subst c16
    rw [if_neg (show ¬ (false = true) by decide)] at H
    obtain rfl := Option.some.inj H
    go_wp2
    go_ret
    exact ⟨er_, pb1_ HB.out GE521.out⟩
  subst c16
  rw [if_pos rfl] at H
  by_cases c17 : 0 ≤ a0_2
  rotate_left
  · rw [if_neg c17] at H
    exact absurd H (by simp)
  rw [if_pos c17] at H
  have c17b0 : decide (0 ≤ a0_2) = true := decide_eq_true c17
  clear c17
  (first | rw [c17b0] | (simp only [i64_w, i32_w]; rw [c17b0]) | skip)
  by_cases c18 : a0_2 < (l0_1.length : Int)
  rotate_left
  · rw [if_neg c18] at H
    exact absurd H (by simp)
  rw [if_pos c18] at H
  have c18b0 : decide (a0_2 < (l0_1.length : Int)) = true := decide_eq_true c18
  clear c18
  replace H := Option.bind_eq_some_iff.mp H
  obtain ⟨t525, A190, H⟩ := H
  replace H : (some t525) = some r := H
  have A19 := Aside0.mk A190
  clear A190
  obtain rfl := Option.some.inj H
  obtain ⟨hcz20_0, hcz20_1, hcz20_2, hcz20_3, hfz20_0, hfz20_1, hfz20_2, hfz20_3⟩ := bc4_ BK521.out
  have p524 : 0 ≤ (a0_2 : Int) := dt_
  have q524 : a0_2 < (l0_1.length : Int) := dt_
  obtain ⟨ad524, e524, hx524_0⟩ := Kd.at_int HR0_1.out a0_2 p524 q524
  cases e524
  replace hx524_0 := (HB.out.cell (World.block_lt_of_cell? w _ hx524_0)).trans hx524_0
  replace p524 := eq_true p524
  replace q524 := eq_true q524
  go_wp2_with (first | ((with_reducible refine gate_callee (f := 56) rfl ?_); refine goesL_ (some 25) rfl rfl Try.func56 (by kernel_rfl) rfl #[.int .i64 (wrap64 (a1 * (rd l0_1 a0_2))), .int .i64 100] rfl mp_ ?_; (with_reducible refine (spec_CeilDiv.calls (wrap64 (a1 * (rd l0_1 a0_2))) 100 t525 _ A19.out).mono ?_); rintro e w' ⟨rfl, ⟨nd, rfl⟩⟩; refine ⟨_, rfl, ?_⟩))
  go_ret
  exact ⟨er_, pb1_ HB.out GE521.out⟩

/-! ### impl_MostHurt: function 35 -/
mutual
def impl_MostHurt.j0 : Nat → Int → Int → Bool → Int → List Int → Int → Bool → Option (Int)
  | 0, _, _, _, _, _, _, _ => none
  | k + 1, x1, x2, x19, x527000, x527001, x527002, x527003 => if x19 = true then (some 0) else (impl_MostHurt.l0 k x1 0 x2 0 x527000 x527001 x527002 x527003)
def impl_MostHurt.l0 : Nat → Int → Int → Int → Int → Int → List Int → Int → Bool → Option (Int)
  | 0, _, _, _, _, _, _, _, _ => none
  | k + 1, x1, x7, x20, x21, x527000, x527001, x527002, x527003 => if x21 < x20 then ((impl_CountIn.f k x527000 x527001 x21 x527003 x1).bind fun t529 => (impl_MostHurt.l0 k x1 (mx x7 t529) x20 (wrap64 (x21 + 1)) x527000 x527001 x21 x527003)) else (some x7)
end
def impl_MostHurt.f (k : Nat) (a0_0 : Int) (l0_1 : List Int) (a0_2 : Int) (a0_3 : Bool) (a1 : Int) (a2 : Int) : Option (Int) := (impl_IsRollout.f k a0_0 l0_1 a0_2 a0_3).bind fun t527 => (if t527 = true then ((impl_InRange.f a2 1 (l0_1.length : Int)).bind fun t528 => (impl_MostHurt.j0 k a1 a2 (!t528) a0_0 l0_1 a0_2 a0_3)) else (impl_MostHurt.j0 k a1 a2 true a0_0 l0_1 a0_2 a0_3))
theorem impl_MostHurt.mono_l : ∀ k, (∀ y0 y1 y2 y3 y4 y5 y6, LeO (impl_MostHurt.j0 k y0 y1 y2 y3 y4 y5 y6) (impl_MostHurt.j0 (k + 1) y0 y1 y2 y3 y4 y5 y6)) ∧ (∀ y0 y1 y2 y3 y4 y5 y6 y7, LeO (impl_MostHurt.l0 k y0 y1 y2 y3 y4 y5 y6 y7) (impl_MostHurt.l0 (k + 1) y0 y1 y2 y3 y4 y5 y6 y7))
  | 0 => ⟨fun _ _ _ _ _ _ _ r h => by simp [impl_MostHurt.j0] at h, fun _ _ _ _ _ _ _ _ r h => by simp [impl_MostHurt.l0] at h⟩
  | k + 1 => by
    obtain ⟨ih0, ih1⟩ := impl_MostHurt.mono_l k
    refine ⟨?_, ?_⟩
    · intro y0 y1 y2 y3 y4 y5 y6
      unfold impl_MostHurt.j0
      repeat' first
      | (with_reducible exact ih0 _ _ _ _ _ _ _)
      | (with_reducible exact ih1 _ _ _ _ _ _ _ _)
      | (with_reducible exact impl_CountIn.mono _ _ _ _ _ _)
      | (with_reducible exact impl_IsRollout.mono _ _ _ _ _)
      | (with_reducible exact LeO.refl _)
      | (with_reducible exact LeO.none _)
      | (with_reducible refine LeO.ite ?_ ?_)
      | (with_reducible refine LeO.bind ?_ (fun _ => ?_))
      | exact ih0 _ _ _ _ _ _ _
      | exact ih1 _ _ _ _ _ _ _ _
      | exact impl_CountIn.mono _ _ _ _ _ _
      | exact impl_IsRollout.mono _ _ _ _ _
      | exact LeO.none _
      | refine LeO.ite ?_ ?_
      | refine LeO.bind ?_ (fun _ => ?_)
    · intro y0 y1 y2 y3 y4 y5 y6 y7
      unfold impl_MostHurt.l0
      repeat' first
      | (with_reducible exact ih0 _ _ _ _ _ _ _)
      | (with_reducible exact ih1 _ _ _ _ _ _ _ _)
      | (with_reducible exact impl_CountIn.mono _ _ _ _ _ _)
      | (with_reducible exact impl_IsRollout.mono _ _ _ _ _)
      | (with_reducible exact LeO.refl _)
      | (with_reducible exact LeO.none _)
      | (with_reducible refine LeO.ite ?_ ?_)
      | (with_reducible refine LeO.bind ?_ (fun _ => ?_))
      | exact ih0 _ _ _ _ _ _ _
      | exact ih1 _ _ _ _ _ _ _ _
      | exact impl_CountIn.mono _ _ _ _ _ _
      | exact impl_IsRollout.mono _ _ _ _ _
      | exact LeO.none _
      | refine LeO.ite ?_ ?_
      | refine LeO.bind ?_ (fun _ => ?_)
theorem impl_MostHurt.mono : ∀ a0 a1 a2 a3 a4 a5 k, LeO (impl_MostHurt.f k a0 a1 a2 a3 a4 a5) (impl_MostHurt.f (k + 1) a0 a1 a2 a3 a4 a5) := by
  intro a0 a1 a2 a3 a4 a5 k
  obtain ⟨ih0, ih1⟩ := impl_MostHurt.mono_l k
  unfold impl_MostHurt.f
  repeat' first
      | (with_reducible exact ih0 _ _ _ _ _ _ _)
      | (with_reducible exact ih1 _ _ _ _ _ _ _ _)
      | (with_reducible exact impl_CountIn.mono _ _ _ _ _ _)
      | (with_reducible exact impl_IsRollout.mono _ _ _ _ _)
      | (with_reducible exact LeO.refl _)
      | (with_reducible exact LeO.none _)
      | (with_reducible refine LeO.ite ?_ ?_)
      | (with_reducible refine LeO.bind ?_ (fun _ => ?_))
      | exact ih0 _ _ _ _ _ _ _
      | exact ih1 _ _ _ _ _ _ _ _
      | exact impl_CountIn.mono _ _ _ _ _ _
      | exact impl_IsRollout.mono _ _ _ _ _
      | exact LeO.none _
      | refine LeO.ite ?_ ?_
      | refine LeO.bind ?_ (fun _ => ?_)
set_option maxHeartbeats 8000000 in
set_option maxRecDepth 100000 in
theorem impl_MostHurt.calls (k : Nat) (a0_0 : Int) (A0_1 : Option Addr) (c0_1 : Nat) (l0_1 : List Int) (a0_2 : Int) (a0_3 : Bool) (a1 : Int) (a2 : Int) (r : Int) (w : World) (hr0_1 : Kd.C (Kd.int .i64) w A0_1 l0_1.length l0_1) (hc0_1 : l0_1.length ≤ c0_1) (h : impl_MostHurt.f k a0_0 l0_1 a0_2 a0_3 a1 a2 = some r) :
    Calls Try.prog 35 #[.agg #[.int .i64 a0_0, .slice A0_1 l0_1.length c0_1, .int .i64 a0_2, .bool a0_3], .int .i64 a1, .int .i64 a2] w fun e w' => e = .returned (.int .i64 r) ∧ Below w.heap.size w w' := by
  have hu27 := Try.underlying27
  have HR0_1 := Aside0.mk hr0_1
  have HC0_1 := Aside0.mk hc0_1
  clear hr0_1 hc0_1
  have HB := Aside0.mk (Below.refl w.heap.size w)
  have H : ((impl_IsRollout.f k a0_0 l0_1 a0_2 a0_3).bind fun t527 => (if t527 = true then ((impl_InRange.f a2 1 (l0_1.length : Int)).bind fun t528 => (impl_MostHurt.j0 k a1 a2 (!t528) a0_0 l0_1 a0_2 a0_3)) else (impl_MostHurt.j0 k a1 a2 true a0_0 l0_1 a0_2 a0_3))) = some r := h
  clear h
  have HC4 := Aside0.mk H
  clear H
  go_enter Try.func35, Try.ntmps35
  go_upto_region 1 with (first | ((with_reducible refine gate_dst (N := 3) rfl ?_); (try (refine gate_guard (by rfl) ?_; dsimp only)); refine box_event ?hg (N := 3) ?hd (cs := #[.int .i64 a0_0, .slice A0_1 l0_1.length c0_1, .int .i64 a0_2, .bool a0_3]) (t := 27) ?hr ?_; (case hd => rfl); (case hg => rfl); (case hr => first | (go_simp; done) | (go_simp; rfl)); intro gb526 hg w5 hbox hb; have n0_ := Aside0.mk (below_step (pb_ HB.out) hb); have n1_ := Aside0.mk (hbox); have n2_ := Aside0.mk ((by rw [hg]; exact (below_size (pb_ HB.out)) : w.heap.size ≤ gb526)); have n3_ := Aside0.mk ((by rw [hg]; exact (below_size (pb_ HB.out)) : w.heap.size ≤ gb526)); clear HB; have HB := n0_; have BK526 := n1_; have GW526 := n2_; have GE526 := n3_; clear n0_ n1_ n2_ n3_; clear hb hbox hg))
  (try simp only [Act.put, List.setIfInBounds_toArray, List.set_cons_zero, List.set_cons_succ])
  go_cut [19] (fun v19 wc => ∃ (kq : Nat) (x19_3 : Bool), v19 = .bool x19_3 ∧ Aside0 (impl_MostHurt.j0 kq a1 a2 x19_3 a0_0 l0_1 a0_2 a0_3 = some r) ∧ Aside0 (kq ≤ k) ∧ Aside0 (wc.heap[gb526]? = some (.cells #[.int .i64 a0_0, (.slice A0_1 l0_1.length c0_1), .int .i64 a0_2, .bool a0_3] 27 (0, 0))) ∧ Aside0 (Below w.heap.size w wc))
  case first =>
    have H := HC4.out
    clear HC4
    replace H := Option.bind_eq_some_iff.mp H
    obtain ⟨t527, A60, H⟩ := H
    (try dsimp only at H)
    have A6 := Aside0.mk A60
    clear A60
    by_cases c7 : t527 = true
    rotate_left
    · replace c7 := Bool.eq_false_iff.mpr c7
      subst c7
      rw [if_neg (show ¬ (false = true) by decide)] at H
      have H' := Aside0.mk H
      clear H
      obtain ⟨hcz8_0, hcz8_1, hcz8_2, hcz8_3, hfz8_0, hfz8_1, hfz8_2, hfz8_3⟩ := bc4_ BK526.out
      go_wp2_with (first | ((with_reducible refine gate_callee (f := 18) rfl ?_); refine goesL_ (some 10) rfl rfl Try.func18 (by kernel_rfl) rfl #[.agg #[.int .i64 a0_0, .slice A0_1 l0_1.length c0_1, .int .i64 a0_2, .bool a0_3]] rfl mp_ ?_; (with_reducible refine (impl_IsRollout.calls k a0_0 _ _ l0_1 a0_2 a0_3 false _ ?side1 ?side2 A6.out).mono ?_); (case side1 => exact pc_ (Kd.C_below HR0_1.out HB.out)); (case side2 => exact HC0_1.out); rintro e w9 ⟨rfl, hb⟩; refine ⟨_, rfl, ?_⟩; have n0_ := Aside0.mk (bb_ BK526.out hb); have n1_ := Aside0.mk (below_step (pb1_ HB.out GE526.out) hb); clear BK526; clear HB; have BK526 := n0_; have HB := n1_; clear n0_ n1_; (try clear hb); (try clear hb2); (try clear hk); (try clear hi)))
      go_meet
      case rel => exact ⟨_, (true), el_, H', ⟨by first | omega | exact Nat.le_refl _⟩, ⟨pk_ BK526.out⟩, ⟨pb1_ HB.out GE526.out⟩⟩
    subst c7
    rw [if_pos rfl] at H
    replace H := Option.bind_eq_some_iff.mp H
    obtain ⟨t528, A100, H⟩ := H
    replace H : (impl_MostHurt.j0 k a1 a2 (!t528) a0_0 l0_1 a0_2 a0_3) = some r := H
    have A10 := Aside0.mk A100
    clear A100
    have H' := Aside0.mk H
    clear H
    obtain ⟨hcz11_0, hcz11_1, hcz11_2, hcz11_3, hfz11_0, hfz11_1, hfz11_2, hfz11_3⟩ := bc4_ BK526.out
    go_wp2_with (first | ((with_reducible refine gate_callee (f := 18) rfl ?_); refine goesL_ (some 10) rfl rfl Try.func18 (by kernel_rfl) rfl #[.agg #[.int .i64 a0_0, .slice A0_1 l0_1.length c0_1, .int .i64 a0_2, .bool a0_3]] rfl mp_ ?_; (with_reducible refine (impl_IsRollout.calls k a0_0 _ _ l0_1 a0_2 a0_3 true _ ?side1 ?side2 A6.out).mono ?_); (case side1 => exact pc_ (Kd.C_below HR0_1.out HB.out)); (case side2 => exact HC0_1.out); rintro e w12 ⟨rfl, hb⟩; refine ⟨_, rfl, ?_⟩; have n0_ := Aside0.mk (bb_ BK526.out hb); have n1_ := Aside0.mk (below_step (pb1_ HB.out GE526.out) hb); clear BK526; clear HB; have BK526 := n0_; have HB := n1_; clear n0_ n1_; (try clear hb); (try clear hb2); (try clear hk); (try clear hi); have hcz13_0 : w12.cell? ⟨gb526, 0, none⟩ = some (.int .i64 a0_0) := (blk_cell BK526.out 0).trans rfl; have hcz13_1 : w12.cell? ⟨gb526, 1, none⟩ = some (.slice A0_1 l0_1.length c0_1) := (blk_cell BK526.out 1).trans rfl; have hcz13_2 : w12.cell? ⟨gb526, 2, none⟩ = some (.int .i64 a0_2) := (blk_cell BK526.out 2).trans rfl; have hcz13_3 : w12.cell? ⟨gb526, 3, none⟩ = some (.bool a0_3) := (blk_cell BK526.out 3).trans rfl; have hfz13_0 := blk_frozen BK526.out 0; have hfz13_1 := blk_frozen BK526.out 1; have hfz13_2 := blk_frozen BK526.out 2; have hfz13_3 := blk_frozen BK526.out 3) | (go_at_call 53; (with_reducible refine (impl_InRange.calls a2 1 (l0_1.length : Int) t528 _ A10.out).mono ?_); rintro e w' ⟨rfl, ⟨nd, rfl⟩⟩))
    go_meet
    case rel => exact ⟨_, (!t528), el_, H', ⟨by first | omega | exact Nat.le_refl _⟩, ⟨pk_ BK526.out⟩, ⟨pb1_ HB.out GE526.out⟩⟩
  clear HC4
  try clear c1
  try clear p2
  try clear c3
  try clear c7
  try clear hcz11_0
  try clear hcz11_1
  try clear hcz11_2
  try clear hcz11_3
  try clear hcz13_0
  try clear hcz13_1
  try clear hcz13_2
  try clear hcz13_3
  try clear hcz8_0
  try clear hcz8_1
  try clear hcz8_2
  try clear hcz8_3
  try clear hfz11_0
  try clear hfz11_1
  try clear hfz11_2
  try clear hfz11_3
  try clear hfz13_0
  try clear hfz13_1
  try clear hfz13_2
  try clear hfz13_3
  try clear hfz8_0
  try clear hfz8_1
  try clear hfz8_2
  try clear hfz8_3
  obtain ⟨kq, x19_3, rfl, HA, HJ3, BK526, HB⟩ := hcut
  rcases kq with _ | kj3
  · exact absurd HA.out (by simp [impl_MostHurt.j0])
  have H := HA.out
  clear HA
  simp only [impl_MostHurt.j0] at H
  by_cases c14 : x19_3 = true
  rotate_left
  · replace c14 := Bool.eq_false_iff.mpr c14
    subst c14
    rw [if_neg (show ¬ (false = true) by decide)] at H
    have H' := Aside0.mk H
    clear H
    go_wp2
    go_loopg [7, 21] kj3 (fun kq v7 v21 w' => ∃ (x7_2 : Int) (x21_2 : Int) (x527002_2 : Int), v7 = .int .i64 x7_2 ∧ v21 = .int .i64 x21_2 ∧ Aside0 (impl_MostHurt.l0 kq a1 x7_2 a2 x21_2 a0_0 l0_1 x527002_2 a0_3 = some r) ∧ Aside0 (kq ≤ kj3) ∧ Aside0 (w'.heap[gb526]? = some (.cells #[.int .i64 a0_0, (.slice A0_1 l0_1.length c0_1), .int .i64 x527002_2, .bool a0_3] 27 (0, 0))) ∧ Aside0 (Below w.heap.size w w'))
    case atStart => exact ⟨(0), (0), (a0_2), el_, el_, H', ⟨Nat.le_refl _⟩, ⟨pk_ BK526.out⟩, ⟨pb1_ HB.out GE526.out⟩⟩
    clear H'
    try clear c1
    try clear p2
    try clear c3
    try clear c7
    try clear c14
    try clear hcz11_0
    try clear hcz11_1
    try clear hcz11_2
    try clear hcz11_3
    try clear hcz13_0
    try clear hcz13_1
    try clear hcz13_2
    try clear hcz13_3
    try clear hcz8_0
    try clear hcz8_1
    try clear hcz8_2
    try clear hcz8_3
    try clear hfz11_0
    try clear hfz11_1
    try clear hfz11_2
    try clear hfz11_3
    try clear hfz13_0
    try clear hfz13_1
    try clear hfz13_2
    try clear hfz13_3
    try clear hfz8_0
    try clear hfz8_1
    try clear hfz8_2
    try clear hfz8_3
    try clear p2
    obtain ⟨x7_2, x21_2, x527002_2, rfl, rfl, HA, HK2, BK526, HB⟩ := hrel
    rcases gk with _ | k2
    · exact absurd HA.out (by simp [impl_MostHurt.l0])
    have H := HA.out
    clear HA
    simp only [impl_MostHurt.l0] at H
    by_cases c15 : x21_2 < a2
    rotate_left
    · rw [if_neg c15] at H
      have c15b0 : decide (x21_2 < a2) = false := decide_eq_false c15
      clear c15
      obtain rfl := Option.some.inj H
      go_wp2
      go_ret
      exact ⟨er_, pb1_ HB.out GE526.out⟩
    rw [if_pos c15] at H
    have c15b0 : decide (x21_2 < a2) = true := decide_eq_true c15
    clear c15
    replace H := Option.bind_eq_some_iff.mp H
    obtain ⟨t529, A160, H⟩ := H
    (try dsimp only at H)
    have A16 := Aside0.mk A160
    clear A160
    obtain ⟨ji17, hji17⟩ : ∃ j_ : Int, (mx x7_2 t529) = j_ := ⟨_, rfl⟩
    replace H : (impl_MostHurt.l0 k2 a1 ji17 a2 (wrap64 (x21_2 + 1)) a0_0 l0_1 x21_2 a0_3) = some r := by first | (rw [hji17] at H; exact H) | (simp only [hji17] at H ⊢; exact H)
    (try rw [hji17] at A16)
    have hji17_ : (if x7_2 < t529 then t529 else x7_2) = ji17 := hji17
    have H' := Aside0.mk H
    clear H
    obtain ⟨hcz18_0, hcz18_1, hcz18_2, hcz18_3, hfz18_0, hfz18_1, hfz18_2, hfz18_3⟩ := bc4_ BK526.out
    go_wp2_with (first | ((with_reducible refine gate_callee (f := 23) rfl ?_); refine goesL_ (some 29) rfl rfl Try.func23 (by kernel_rfl) rfl #[.agg #[.int .i64 a0_0, .slice A0_1 l0_1.length c0_1, .int .i64 x21_2, .bool a0_3], .int .i64 a1] rfl mp_ ?_; (with_reducible refine (impl_CountIn.calls k2 a0_0 _ _ l0_1 x21_2 a0_3 a1 t529 _ ?side1 ?side2 A16.out).mono ?_); (case side1 => exact Kd.C_below HR0_1.out (pb1_ HB.out GE526.out)); (case side2 => exact HC0_1.out); rintro e w19 ⟨rfl, hb⟩; refine ⟨_, rfl, ?_⟩; have n0_ := Aside0.mk (blk_below (g := gb526) (o := .cells #[.int .i64 a0_0, .slice A0_1 l0_1.length c0_1, .int .i64 x21_2, .bool a0_3] 27 (0, 0)) (pp_ BK526.out) hb); have n1_ := Aside0.mk (below_step (pb1_ HB.out GE526.out) hb); clear BK526; clear HB; have BK526 := n0_; have HB := n1_; clear n0_ n1_; (try clear hb); (try clear hb2); (try clear hk); (try clear hi)))
    go_roundg k2
    case measure => have := HJ3.out; have := HK2.out; omega
    case rel => exact ⟨(ji17), (wrap64 (x21_2 + 1)), (x21_2), (by first | rfl | (simp; done) | (simp only [← hji17] <;> (first | rfl | simp)) | (simp [*]; done)), el_, H', ⟨by have := HJ3.out; have := HK2.out; omega⟩, ⟨pk_ BK526.out⟩, ⟨pb1_ HB.out GE526.out⟩⟩
  subst c14
  rw [if_pos rfl] at H
  obtain rfl := Option.some.inj H
  go_wp2
  go_ret
  exact ⟨er_, pb1_ HB.out GE526.out⟩

/-! ### impl_HurtAt: function 38 -/
def impl_HurtAt.l0 : Nat → Int → Int → List Bool → Int → Int → Int → List Int → Int → Bool → Option (Int)
  | 0, _, _, _, _, _, _, _, _, _ => none
  | k + 1, x1, x7, x14, x15, x16, x531000, x531001, x531002, x531003 => if x16 < x15 then (if 0 ≤ x16 then (if x16 < (x14.length : Int) then (if rdOf false x14 x16 = true then ((impl_IsIn.f k x531000 x531001 x531002 x531003 x16 x1).bind fun t532 => (if t532 = true then (impl_HurtAt.l0 k x1 (wrap64 (x7 + 1)) x14 x15 (wrap64 (x16 + 1)) x531000 x531001 x531002 x531003) else (impl_HurtAt.l0 k x1 x7 x14 x15 (wrap64 (x16 + 1)) x531000 x531001 x531002 x531003))) else (impl_HurtAt.l0 k x1 x7 x14 x15 (wrap64 (x16 + 1)) x531000 x531001 x531002 x531003)) else (none)) else (none)) else (some x7)
def impl_HurtAt.f (k : Nat) (a0_0 : Int) (l0_1 : List Int) (a0_2 : Int) (a0_3 : Bool) (a1 : Int) (l2 : List Bool) : Option (Int) := if a1 = (l2.length : Int) then (impl_HurtAt.l0 k a1 0 l2 (l2.length : Int) 0 a0_0 l0_1 a0_2 a0_3) else (some 0)
theorem impl_HurtAt.mono_l : ∀ k, (∀ y0 y1 y2 y3 y4 y5 y6 y7 y8, LeO (impl_HurtAt.l0 k y0 y1 y2 y3 y4 y5 y6 y7 y8) (impl_HurtAt.l0 (k + 1) y0 y1 y2 y3 y4 y5 y6 y7 y8))
  | 0 => fun _ _ _ _ _ _ _ _ _ r h => by simp [impl_HurtAt.l0] at h
  | k + 1 => by
    have ih0 := impl_HurtAt.mono_l k
    · intro y0 y1 y2 y3 y4 y5 y6 y7 y8
      unfold impl_HurtAt.l0
      repeat' first
      | (with_reducible exact ih0 _ _ _ _ _ _ _ _ _)
      | (with_reducible exact impl_IsIn.mono _ _ _ _ _ _ _)
      | (with_reducible exact LeO.refl _)
      | (with_reducible exact LeO.none _)
      | (with_reducible refine LeO.ite ?_ ?_)
      | (with_reducible refine LeO.bind ?_ (fun _ => ?_))
      | exact ih0 _ _ _ _ _ _ _ _ _
      | exact impl_IsIn.mono _ _ _ _ _ _ _
      | exact LeO.none _
      | refine LeO.ite ?_ ?_
      | refine LeO.bind ?_ (fun _ => ?_)
theorem impl_HurtAt.mono : ∀ a0 a1 a2 a3 a4 a5 k, LeO (impl_HurtAt.f k a0 a1 a2 a3 a4 a5) (impl_HurtAt.f (k + 1) a0 a1 a2 a3 a4 a5) := by
  intro a0 a1 a2 a3 a4 a5 k
  have ih0 := impl_HurtAt.mono_l k
  unfold impl_HurtAt.f
  repeat' first
      | (with_reducible exact ih0 _ _ _ _ _ _ _ _ _)
      | (with_reducible exact impl_IsIn.mono _ _ _ _ _ _ _)
      | (with_reducible exact LeO.refl _)
      | (with_reducible exact LeO.none _)
      | (with_reducible refine LeO.ite ?_ ?_)
      | (with_reducible refine LeO.bind ?_ (fun _ => ?_))
      | exact ih0 _ _ _ _ _ _ _ _ _
      | exact impl_IsIn.mono _ _ _ _ _ _ _
      | exact LeO.none _
      | refine LeO.ite ?_ ?_
      | refine LeO.bind ?_ (fun _ => ?_)
set_option maxHeartbeats 8000000 in
set_option maxRecDepth 100000 in
theorem impl_HurtAt.calls (k : Nat) (a0_0 : Int) (A0_1 : Option Addr) (c0_1 : Nat) (l0_1 : List Int) (a0_2 : Int) (a0_3 : Bool) (a1 : Int) (A2 : Option Addr) (c2 : Nat) (l2 : List Bool) (r : Int) (w : World) (hr0_1 : Kd.C (Kd.int .i64) w A0_1 l0_1.length l0_1) (hc0_1 : l0_1.length ≤ c0_1) (hr2 : Kd.C Kd.bool w A2 l2.length l2) (hc2 : l2.length ≤ c2) (h : impl_HurtAt.f k a0_0 l0_1 a0_2 a0_3 a1 l2 = some r) :
    Calls Try.prog 38 #[.agg #[.int .i64 a0_0, .slice A0_1 l0_1.length c0_1, .int .i64 a0_2, .bool a0_3], .int .i64 a1, .slice A2 l2.length c2] w fun e w' => e = .returned (.int .i64 r) ∧ Below w.heap.size w w' := by
  have hu27 := Try.underlying27
  have HR0_1 := Aside0.mk hr0_1
  have HC0_1 := Aside0.mk hc0_1
  clear hr0_1 hc0_1
  have HR2 := Aside0.mk hr2
  have HC2 := Aside0.mk hc2
  clear hr2 hc2
  have HB := Aside0.mk (Below.refl w.heap.size w)
  have H : (if a1 = (l2.length : Int) then (impl_HurtAt.l0 k a1 0 l2 (l2.length : Int) 0 a0_0 l0_1 a0_2 a0_3) else (some 0)) = some r := h
  clear h
  have HS_ := Aside0.mk H
  clear H
  go_enter Try.func38, Try.ntmps38
  go_upto_if 13 with (first | ((with_reducible refine gate_dst (N := 3) rfl ?_); refine box_event ?hg (N := 3) ?hd (cs := #[.int .i64 a0_0, .slice A0_1 l0_1.length c0_1, .int .i64 a0_2, .bool a0_3]) (t := 27) ?hr ?_; (case hd => rfl); (case hg => rfl); (case hr => first | (go_simp; done) | (go_simp; rfl)); intro gb530 hg w4 hbox hb; have n0_ := Aside0.mk (below_step (pb_ HB.out) hb); have n1_ := Aside0.mk (hbox); have n2_ := Aside0.mk ((by rw [hg]; exact (below_size (pb_ HB.out)) : w.heap.size ≤ gb530)); have n3_ := Aside0.mk ((by rw [hg]; exact (below_size (pb_ HB.out)) : w.heap.size ≤ gb530)); clear HB; have HB := n0_; have BK530 := n1_; have GW530 := n2_; have GE530 := n3_; clear n0_ n1_ n2_ n3_; clear hb hbox hg))
  (try simp only [Act.put, List.setIfInBounds_toArray, List.set_cons_zero, List.set_cons_succ])
  have H := HS_.out
  clear HS_
  by_cases c5 : a1 = (l2.length : Int)
  rotate_left
  · rw [if_neg c5] at H
    have c5b0 : (a1 == (l2.length : Int)) = false := beq_eq_false_iff_ne.mpr c5
    have c5b1 : (a1 != (l2.length : Int)) = true := bne_iff_ne.mpr c5
    (first | rw [c5b0] | (simp only [i64_w, i32_w]; rw [c5b0]) | rw [c5b1] | (have c_ := c5b1; rw [bne] at c_; rw [c_]; clear c_) | skip)
    obtain rfl := Option.some.inj H
    go_wp2
    go_ret
    exact ⟨er_, pb1_ HB.out GE530.out⟩
  rw [if_pos c5] at H
  have c5b0 : (a1 == (l2.length : Int)) = true := beq_iff_eq.mpr c5
  have c5b1 : (a1 != (l2.length : Int)) = false := bne_eq_false_iff_eq.mpr c5
  clear c5
  (first | rw [c5b0] | (simp only [i64_w, i32_w]; rw [c5b0]) | rw [c5b1] | (have c_ := c5b1; rw [bne] at c_; rw [c_]; clear c_) | skip)
  have H' := Aside0.mk H
  clear H
  go_wp2
  go_loopg [7, 16] k (fun kq v7 v16 w' => ∃ (x7_1 : Int) (x16_1 : Int), v7 = .int .i64 x7_1 ∧ v16 = .int .i64 x16_1 ∧ Aside0 (impl_HurtAt.l0 kq a1 x7_1 l2 (l2.length : Int) x16_1 a0_0 l0_1 a0_2 a0_3 = some r) ∧ Aside0 (kq ≤ k) ∧ Aside0 (w'.heap[gb530]? = some (.cells #[.int .i64 a0_0, (.slice A0_1 l0_1.length c0_1), .int .i64 a0_2, .bool a0_3] 27 (0, 0))) ∧ Aside0 (Below w.heap.size w w'))
  case atStart => exact ⟨(0), (0), el_, el_, H', ⟨Nat.le_refl _⟩, ⟨pk_ BK530.out⟩, ⟨pb1_ HB.out GE530.out⟩⟩
  clear H'
  try clear c2
  try clear p2
  try clear c3
  try clear c5
  try clear c5b0
  try clear c5b1
  obtain ⟨x7_1, x16_1, rfl, rfl, HA, HK1, BK530, HB⟩ := hrel
  rcases gk with _ | k1
  · exact absurd HA.out (by simp [impl_HurtAt.l0])
  have H := HA.out
  clear HA
  simp only [impl_HurtAt.l0] at H
  by_cases c6 : x16_1 < (l2.length : Int)
  rotate_left
  · rw [if_neg c6] at H
    have c6b0 : decide (x16_1 < (l2.length : Int)) = false := decide_eq_false c6
    clear c6
    obtain rfl := Option.some.inj H
    go_wp2
    go_ret
    exact ⟨er_, pb1_ HB.out GE530.out⟩
  rw [if_pos c6] at H
  have c6b0 : decide (x16_1 < (l2.length : Int)) = true := decide_eq_true c6
  clear c6
  by_cases c7 : 0 ≤ x16_1
  rotate_left
  · rw [if_neg c7] at H
    exact absurd H (by simp)
  rw [if_pos c7] at H
  have c7b0 : decide (0 ≤ x16_1) = true := decide_eq_true c7
  clear c7
  by_cases c8 : x16_1 < (l2.length : Int)
  rotate_left
  · rw [if_neg c8] at H
    exact absurd H (by simp)
  rw [if_pos c8] at H
  have c8b0 : decide (x16_1 < (l2.length : Int)) = true := decide_eq_true c8
  clear c8
  obtain ⟨bq9, hbq9⟩ : ∃ b_ : Bool, b_ = (rdOf false l2 x16_1) := ⟨_, rfl⟩
  replace H : (if bq9 = true then ((impl_IsIn.f k1 a0_0 l0_1 a0_2 a0_3 x16_1 a1).bind fun t532 => (if t532 = true then (impl_HurtAt.l0 k1 a1 (wrap64 (x7_1 + 1)) l2 (l2.length : Int) (wrap64 (x16_1 + 1)) a0_0 l0_1 a0_2 a0_3) else (impl_HurtAt.l0 k1 a1 x7_1 l2 (l2.length : Int) (wrap64 (x16_1 + 1)) a0_0 l0_1 a0_2 a0_3))) else (impl_HurtAt.l0 k1 a1 x7_1 l2 (l2.length : Int) (wrap64 (x16_1 + 1)) a0_0 l0_1 a0_2 a0_3)) = some r := by rw [← hbq9] at H; exact H
  have Nbq9 := Aside0.mk hbq9
  clear hbq9
  by_cases c10 : bq9 = true
  rotate_left
  · replace c10 := Bool.eq_false_iff.mpr c10
    subst c10
    rw [if_neg (show ¬ (false = true) by decide)] at H
    have H' := Aside0.mk H
    clear H
    have p531 : 0 ≤ (x16_1 : Int) := dt_
    have q531 : x16_1 < (l2.length : Int) := dt_
    obtain ⟨ad531, e531, hx531_0⟩ := Kd.at_bool HR2.out x16_1 p531 q531
    (try rw [← Nbq9.out] at hx531_0)
    cases e531
    replace hx531_0 := (HB.out.cell (World.block_lt_of_cell? w _ hx531_0)).trans hx531_0
    replace p531 := eq_true p531
    replace q531 := eq_true q531
    go_wp2
    go_roundg k1
    case measure => have := HK1.out; omega
    case rel => (try rw [← Nbq9.out]); exact ⟨(x7_1), (wrap64 (x16_1 + 1)), el_, el_, H', ⟨by have := HK1.out; omega⟩, ⟨pk_ BK530.out⟩, ⟨pb1_ HB.out GE530.out⟩⟩
  subst c10
  rw [if_pos rfl] at H
  replace H := Option.bind_eq_some_iff.mp H
  obtain ⟨t532, A110, H⟩ := H
  (try dsimp only at H)
  have A11 := Aside0.mk A110
  clear A110
  have HS_ := Aside0.mk H
  clear H
  have p531 : 0 ≤ (x16_1 : Int) := dt_
  have q531 : x16_1 < (l2.length : Int) := dt_
  obtain ⟨ad531, e531, hx531_0⟩ := Kd.at_bool HR2.out x16_1 p531 q531
  (try rw [← Nbq9.out] at hx531_0)
  cases e531
  replace hx531_0 := (HB.out.cell (World.block_lt_of_cell? w _ hx531_0)).trans hx531_0
  replace p531 := eq_true p531
  replace q531 := eq_true q531
  obtain ⟨hcz12_0, hcz12_1, hcz12_2, hcz12_3, hfz12_0, hfz12_1, hfz12_2, hfz12_3⟩ := bc4_ BK530.out
  go_upto_if 27 with (first | (go_at_call 25; (with_reducible refine (impl_IsIn.calls k1 a0_0 _ _ l0_1 a0_2 a0_3 x16_1 a1 t532 _ ?side1 ?side2 A11.out).mono ?_); (case side1 => exact pc_ (Kd.C_below HR0_1.out HB.out)); (case side2 => exact HC0_1.out); rintro e w13 ⟨rfl, hb⟩; have n0_ := Aside0.mk (bb_ BK530.out hb); have n1_ := Aside0.mk (below_step (pb1_ HB.out GE530.out) hb); clear BK530; clear HB; have BK530 := n0_; have HB := n1_; clear n0_ n1_; (try clear hb); (try clear hb2); (try clear hk); (try clear hi)))
  (try simp only [Act.put, List.setIfInBounds_toArray, List.set_cons_zero, List.set_cons_succ])
  have H := HS_.out
  clear HS_
  by_cases c14 : t532 = true
  rotate_left
  · replace c14 := Bool.eq_false_iff.mpr c14
    subst c14
    rw [if_neg (show ¬ (false = true) by decide)] at H
    have H' := Aside0.mk H
    clear H
    go_wp2
    go_roundg k1
    case measure => have := HK1.out; omega
    case rel => (try rw [← Nbq9.out]); exact ⟨(x7_1), (wrap64 (x16_1 + 1)), el_, el_, H', ⟨by have := HK1.out; omega⟩, ⟨pk_ BK530.out⟩, ⟨pb1_ HB.out GE530.out⟩⟩
  subst c14
  rw [if_pos rfl] at H
  have H' := Aside0.mk H
  clear H
  go_wp2
  go_roundg k1
  case measure => have := HK1.out; omega
  case rel => (try rw [← Nbq9.out]); exact ⟨(wrap64 (x7_1 + 1)), (wrap64 (x16_1 + 1)), el_, el_, H', ⟨by have := HK1.out; omega⟩, ⟨pk_ BK530.out⟩, ⟨pb1_ HB.out GE530.out⟩⟩

end Go.Proofs.Ytlcmkgbabffmeaa.Print
