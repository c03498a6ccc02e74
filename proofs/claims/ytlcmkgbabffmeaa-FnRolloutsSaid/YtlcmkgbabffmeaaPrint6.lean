-- Written by a program of this session (printx.py) out of the translation; Lean checks it.
import Derived.Test.YtlcmkgbabffmeaaPrint0
import Derived.Test.YtlcmkgbabffmeaaPrint4
import Derived.Test.YtlcmkgbabffmeaaPrint5
namespace Go.Proofs.Ytlcmkgbabffmeaa.Print
open Go.RowKit Go.Proofs.YtlcmkgbabffmeaaW.PrintWords Go.Proofs.YtlcmkgbabffmeaaW.PrintLast Go.Proofs.YtlcmkgbabffmeaaW.PrintMore Go.Proofs.Ytlcmkgbabffmeaa.Short
attribute [local go_sem] max2_int min2_int max_two min_two max_three min_three max_four min_four   -- for this text's walks alone
set_option linter.unusedVariables false
set_option linter.unusedSimpArgs false

/-! ### spec_l26Draw: function 69 -/
def spec_l26Draw.l0 : Nat → Int → List Int → Int → Int → Int → List Int → Int → Bool → Option (Int × List Int × Int × Bool × Int × Int)
  | 0, _, _, _, _, _, _, _, _ => none
  | k + 1, x4, x1000, x1001, x1002, x409000, x409001, x409002, x409003 => if x4 > 0 then ((spec_l1Below.f x1000 x1001 x1002 90).bind fun bt412 => ((spec_l4Put.f k x409001 (wrap64 (1 + bt412.1))).bind fun t415 => (spec_l26Draw.l0 k (wrap64 (x4 - 1)) x1000 bt412.2.1 bt412.2.2 x409000 t415 x409002 x409003))) else (if x409001.length < 17592186044416 then ((some (x409001 ++ [100] : List Int)).bind fun y418 => ((spec_l1Below.f x1000 x1001 x1002 (y418.length : Int)).bind fun bt421 => (some (x409000, y418, bt421.1, x409003, bt421.2.1, bt421.2.2)))) else (none))
def spec_l26Draw.f (k : Nat) (s0_0 : List Int) (s0_1 : Int) (s0_2 : Int) : Option (Int × List Int × Int × Bool × Int × Int) := (spec_l1Below.f s0_0 s0_1 s0_2 6).bind fun bt405 => ((spec_l1Below.f s0_0 bt405.2.1 bt405.2.2 3).bind fun bt409 => (spec_l26Draw.l0 k bt409.1 s0_0 bt409.2.1 bt409.2.2 (wrap64 (1 + bt405.1)) ([] : List Int) 0 false))
theorem spec_l26Draw.mono_l : ∀ k, (∀ y0 y1 y2 y3 y4 y5 y6 y7, LeO (spec_l26Draw.l0 k y0 y1 y2 y3 y4 y5 y6 y7) (spec_l26Draw.l0 (k + 1) y0 y1 y2 y3 y4 y5 y6 y7))
  | 0 => fun _ _ _ _ _ _ _ _ r h => by simp [spec_l26Draw.l0] at h
  | k + 1 => by
    have ih0 := spec_l26Draw.mono_l k
    · intro y0 y1 y2 y3 y4 y5 y6 y7
      unfold spec_l26Draw.l0
      repeat' first
      | (with_reducible exact ih0 _ _ _ _ _ _ _ _)
      | (with_reducible exact spec_l4Put.mono _ _ _)
      | (with_reducible exact LeO.refl _)
      | (with_reducible exact LeO.none _)
      | (with_reducible refine LeO.ite ?_ ?_)
      | (with_reducible refine LeO.bind ?_ (fun _ => ?_))
      | exact ih0 _ _ _ _ _ _ _ _
      | exact spec_l4Put.mono _ _ _
      | exact LeO.none _
      | refine LeO.ite ?_ ?_
      | refine LeO.bind ?_ (fun _ => ?_)
theorem spec_l26Draw.mono : ∀ a0 a1 a2 k, LeO (spec_l26Draw.f k a0 a1 a2) (spec_l26Draw.f (k + 1) a0 a1 a2) := by
  intro a0 a1 a2 k
  have ih0 := spec_l26Draw.mono_l k
  unfold spec_l26Draw.f
  repeat' first
      | (with_reducible exact ih0 _ _ _ _ _ _ _ _)
      | (with_reducible exact spec_l4Put.mono _ _ _)
      | (with_reducible exact LeO.refl _)
      | (with_reducible exact LeO.none _)
      | (with_reducible refine LeO.ite ?_ ?_)
      | (with_reducible refine LeO.bind ?_ (fun _ => ?_))
      | exact ih0 _ _ _ _ _ _ _ _
      | exact spec_l4Put.mono _ _ _
      | exact LeO.none _
      | refine LeO.ite ?_ ?_
      | refine LeO.bind ?_ (fun _ => ?_)
def spec_l26Draw.T5 : Bool × List (List Nat × List Nat) := (true, [([], []), ([0], [0]), ([], []), ([2], [2]), ([3], [3]), ([1, 4, 3], [1, 4]), ([0, 1, 2, 3, 4, 5], []), ([6, 5, 5, 0, 1, 2, 3, 4, 5], [5, 6])])
def spec_l26Draw.B5 : List Nat := [0, 1, 0, 4, 12, 31, 63, 127]
theorem spec_l26Draw.tab5 : rtab .any (opsOf Try.f69 5) = spec_l26Draw.T5 := by kernel_rfl
theorem spec_l26Draw.bits5 : waitsOk spec_l26Draw.T5.2 spec_l26Draw.B5 = true := by kernel_rfl
set_option maxHeartbeats 8000000 in
set_option maxRecDepth 100000 in
theorem spec_l26Draw.calls (k : Nat) (g : Nat) (s0_0 : List Int) (s0_1 : Int) (s0_2 : Int) (r1 : Int) (r2 : List Int) (r3 : Int) (r4 : Bool) (r5 : Int) (r6 : Int) (w0 w : World) (hI : IsS73 w0 w g s0_0 s0_1 s0_2) (hB : Below w0.heap.size w0 w) (h : spec_l26Draw.f k s0_0 s0_1 s0_2 = some (r1, r2, r3, r4, r5, r6)) :
    Calls Try.prog 69 #[.pointer (some ⟨g, 0, none⟩)] w fun e w' => ∃ v1_ : Value, e = .returned (.agg #[.int .i64 r1, v1_, .int .i64 r3, .bool r4]) ∧ Kd.R (Kd.int .i64) 3 w' w.heap.size (fun _ => True) v1_ r2 ∧ IsS73 w0 w' g s0_0 r5 r6 ∧ Below w0.heap.size w0 w' ∧ KeepBut w w' g none := by
  have hu27 := Try.underlying27
  have HI0 := Aside0.mk hI
  have HK := Aside0.mk (KeepBut.refl w g none)
  have HL := Aside0.mk hB.size
  clear hI
  have HW0 := Aside0.mk hB.size
  have HB := Aside0.mk hB
  clear hB
  have H : ((spec_l1Below.f s0_0 s0_1 s0_2 6).bind fun bt405 => ((spec_l1Below.f s0_0 bt405.2.1 bt405.2.2 3).bind fun bt409 => (spec_l26Draw.l0 k bt409.1 s0_0 bt409.2.1 bt409.2.2 (wrap64 (1 + bt405.1)) ([] : List Int) 0 false))) = some (r1, r2, r3, r4, r5, r6) := h
  clear h
  replace H := Option.bind_eq_some_iff.mp H
  obtain ⟨⟨t405, t406, t407⟩, A20, H⟩ := H
  (try dsimp only at H)
  have A2 := Aside0.mk A20
  clear A20
  replace H := Option.bind_eq_some_iff.mp H
  obtain ⟨⟨t409, t410, t411⟩, A30, H⟩ := H
  (try dsimp only at H)
  have A3 := Aside0.mk A30
  clear A30
  have H' := Aside0.mk H
  clear H
  go_enter Try.func69, Try.ntmps69
  go_wp2_with (first | ((with_reducible refine gate_dst (N := 2) rfl ?_); refine box_event ?hg (N := 2) ?hd (cs := #[.int .i64 0, .slice none 0 0, .int .i64 0, .bool false]) (t := 27) ?hr ?_; (case hd => rfl); (case hg => rfl); (case hr => first | (go_simp; done) | (go_simp; rfl)); intro gb404 hg w4 hbox hb; have n0_ := Aside0.mk (IsS73.below (by repeat (first | (with_reducible first | exact HI0.out | apply IsS73.alloc | apply IsS73.drewN | apply IsS73.drew | apply IsS73.set_1 | apply IsS73.set_2) | exact HI0.out)) hb); have n1_ := Aside0.mk (KeepBut.trans (by repeat (first | (with_reducible first | exact HK.out | apply KeepBut.set_ | apply keep_drewN | apply keep_drew | apply keep_alloc) | exact HK.out)) (KeepBut.of_below hb g none) (.inl rfl)); have n2_ := Aside0.mk (below_step (by repeat (first | (with_reducible first | exact HB.out | apply below_alloc | apply pw_below_drewN | apply below_drew1 | refine below_set ?_ (IsS73.ge HI0.out)) | exact HB.out)) hb); have n3_ := Aside0.mk (hbox); have n4_ := Aside0.mk ((by rw [hg]; exact (keep_size (w := w) (g := g) (row := none) (by repeat (first | (with_reducible first | exact HK.out | apply KeepBut.set_ | apply keep_drewN | apply keep_drew | apply keep_alloc) | exact HK.out))) : w.heap.size ≤ gb404)); have n5_ := Aside0.mk ((Nat.le_trans HW0.out (by rw [hg]; exact (keep_size (w := w) (g := g) (row := none) (by repeat (first | (with_reducible first | exact HK.out | apply KeepBut.set_ | apply keep_drewN | apply keep_drew | apply keep_alloc) | exact HK.out))) : w.heap.size ≤ gb404) : w0.heap.size ≤ gb404)); have n6_ := Aside0.mk ((by rw [hg]; exact Nat.ne_of_lt (IsS73.lt (show IsS73 w0 _ g s0_0 s0_1 s0_2 from by repeat (first | (with_reducible first | exact HI0.out | apply IsS73.alloc | apply IsS73.drewN | apply IsS73.drew | apply IsS73.set_1 | apply IsS73.set_2) | exact HI0.out))) : g ≠ gb404)); have n7_ := Aside0.mk ((by rw [hg]; exact Nat.ne_of_gt (IsS73.lt (show IsS73 w0 _ g s0_0 s0_1 s0_2 from by repeat (first | (with_reducible first | exact HI0.out | apply IsS73.alloc | apply IsS73.drewN | apply IsS73.drew | apply IsS73.set_1 | apply IsS73.set_2) | exact HI0.out))) : gb404 ≠ g)); clear HI0; clear HK; clear HB; have HI0 := n0_; have HK := n1_; have HB := n2_; have BK404 := n3_; have GW404 := n4_; have GE404 := n5_; have NB0_404 := n6_; have NB404_0 := n7_; clear n0_ n1_ n2_ n3_ n4_ n5_ n6_ n7_; clear hb hbox hg) | ((with_reducible refine gate_callee (f := 66) rfl ?_); refine goesL_ (some 6) rfl rfl Try.func66 (by kernel_rfl) rfl #[.pointer (some ⟨g, 0, none⟩), .int .i64 6] rfl mp_ ?_; (with_reducible refine (spec_l1Below.calls g s0_0 s0_1 s0_2 6 t405 t406 t407 w0 _ ?side1 ?side2 A2.out).mono ?_); (case side1 => repeat (first | (with_reducible first | exact HI0.out | apply IsS73.alloc | apply IsS73.drewN | apply IsS73.drew | apply IsS73.set_1 | apply IsS73.set_2 | refine IsS73.far ?_ NB0_404.out _) | exact HI0.out)); (case side2 => repeat (first | (with_reducible first | exact HB.out | apply below_alloc | apply pw_below_drewN | apply below_drew1 | refine below_set ?_ (IsS73.ge HI0.out) | refine below_set ?_ GE404.out) | exact HB.out)); rintro e w5 ⟨rfl, hi, hb, hk⟩; refine ⟨_, rfl, ?_⟩; have n0_ := Aside0.mk (KeepBut.blk hk (g' := gb404) (o := .cells #[.int .i64 0, .slice none 0 0, .int .i64 0, .bool false] 27 (0, 0)) (pk_ BK404.out) NB404_0.out (by simp)); have n1_ := Aside0.mk (KeepBut.trans (by repeat (first | (with_reducible first | exact HK.out | apply KeepBut.set_ | apply keep_drewN | apply keep_drew | apply keep_alloc | refine keep_far ?_ GW404.out _) | exact HK.out)) hk (.inl rfl)); have n2_ := Aside0.mk (hb); have n3_ := Aside0.mk (hi); clear BK404; clear HK; clear HB; clear HI0; have BK404 := n0_; have HK := n1_; have HB := n2_; have HI0 := n3_; clear n0_ n1_ n2_ n3_; (try clear hb); (try clear hb2); (try clear hk); (try clear hi)) | ((with_reducible refine gate_dst (N := 3) rfl ?_); refine box_event ?hg (N := 3) ?hd (cs := #[.int .i64 0, .slice none 0 0, .int .i64 0, .bool false]) (t := 27) ?hr ?_; (case hd => rfl); (case hg => rfl); (case hr => first | (go_simp; done) | (go_simp; rfl)); intro gb408 hg w6 hbox hb; have n0_ := Aside0.mk (IsS73.below (by repeat (first | (with_reducible first | exact HI0.out | apply IsS73.alloc | apply IsS73.drewN | apply IsS73.drew | apply IsS73.set_1 | apply IsS73.set_2 | refine IsS73.far ?_ NB0_404.out _) | exact HI0.out)) hb); have n1_ := Aside0.mk (bb_ BK404.out hb); have n2_ := Aside0.mk (KeepBut.trans (by repeat (first | (with_reducible first | exact HK.out | apply KeepBut.set_ | apply keep_drewN | apply keep_drew | apply keep_alloc | refine keep_far ?_ GW404.out _) | exact HK.out)) (KeepBut.of_below hb g none) (.inl rfl)); have n3_ := Aside0.mk (below_step (by repeat (first | (with_reducible first | exact HB.out | apply below_alloc | apply pw_below_drewN | apply below_drew1 | refine below_set ?_ (IsS73.ge HI0.out) | refine below_set ?_ GE404.out) | exact HB.out)) hb); have n4_ := Aside0.mk (hbox); have n5_ := Aside0.mk ((by rw [hg]; exact (keep_size (w := w) (g := g) (row := none) (by repeat (first | (with_reducible first | exact HK.out | apply KeepBut.set_ | apply keep_drewN | apply keep_drew | apply keep_alloc | refine keep_far ?_ GW404.out _) | exact HK.out))) : w.heap.size ≤ gb408)); have n6_ := Aside0.mk ((Nat.le_trans HW0.out (by rw [hg]; exact (keep_size (w := w) (g := g) (row := none) (by repeat (first | (with_reducible first | exact HK.out | apply KeepBut.set_ | apply keep_drewN | apply keep_drew | apply keep_alloc | refine keep_far ?_ GW404.out _) | exact HK.out))) : w.heap.size ≤ gb408) : w0.heap.size ≤ gb408)); have n7_ := Aside0.mk ((by rw [hg]; exact Nat.ne_of_lt (blk_lt (pk_ BK404.out)) : gb404 ≠ gb408)); have n8_ := Aside0.mk ((by rw [hg]; exact Nat.ne_of_gt (blk_lt (pk_ BK404.out)) : gb408 ≠ gb404)); have n9_ := Aside0.mk ((by rw [hg]; exact Nat.ne_of_lt (IsS73.lt (show IsS73 w0 _ g s0_0 t406 t407 from by repeat (first | (with_reducible first | exact HI0.out | apply IsS73.alloc | apply IsS73.drewN | apply IsS73.drew | apply IsS73.set_1 | apply IsS73.set_2 | refine IsS73.far ?_ NB0_404.out _) | exact HI0.out))) : g ≠ gb408)); have n10_ := Aside0.mk ((by rw [hg]; exact Nat.ne_of_gt (IsS73.lt (show IsS73 w0 _ g s0_0 t406 t407 from by repeat (first | (with_reducible first | exact HI0.out | apply IsS73.alloc | apply IsS73.drewN | apply IsS73.drew | apply IsS73.set_1 | apply IsS73.set_2 | refine IsS73.far ?_ NB0_404.out _) | exact HI0.out))) : gb408 ≠ g)); clear HI0; clear BK404; clear HK; clear HB; have HI0 := n0_; have BK404 := n1_; have HK := n2_; have HB := n3_; have BK408 := n4_; have GW408 := n5_; have GE408 := n6_; have NB404_408 := n7_; have NB408_404 := n8_; have NB0_408 := n9_; have NB408_0 := n10_; clear n0_ n1_ n2_ n3_ n4_ n5_ n6_ n7_ n8_ n9_ n10_; clear hb hbox hg; have hnb7 := NB408_404.out; have hnc7 := NB404_408.out; have hnb8 := NB408_0.out; have hnc8 := NB0_408.out; have hcz9_0 : w6.cell? ⟨gb408, 0, none⟩ = some (.int .i64 0) := (blk_cell BK408.out 0).trans rfl; have hcz9_1 : w6.cell? ⟨gb408, 1, none⟩ = some (.slice none 0 0) := (blk_cell BK408.out 1).trans rfl; have hcz9_2 : w6.cell? ⟨gb408, 2, none⟩ = some (.int .i64 0) := (blk_cell BK408.out 2).trans rfl; have hcz9_3 : w6.cell? ⟨gb408, 3, none⟩ = some (.bool false) := (blk_cell BK408.out 3).trans rfl; have hfz9_0 := blk_frozen BK408.out 0; have hfz9_1 := blk_frozen BK408.out 1; have hfz9_2 := blk_frozen BK408.out 2; have hfz9_3 := blk_frozen BK408.out 3) | ((with_reducible refine gate_callee (f := 66) rfl ?_); refine goesL_ (some 10) rfl rfl Try.func66 (by kernel_rfl) rfl #[.pointer (some ⟨g, 0, none⟩), .int .i64 3] rfl mp_ ?_; (with_reducible refine (spec_l1Below.calls g s0_0 t406 t407 3 t409 t410 t411 w0 _ ?side1 ?side2 A3.out).mono ?_); (case side1 => repeat (first | (with_reducible first | exact HI0.out | apply IsS73.alloc | apply IsS73.drewN | apply IsS73.drew | apply IsS73.set_1 | apply IsS73.set_2 | refine IsS73.far ?_ NB0_404.out _ | refine IsS73.far ?_ NB0_408.out _) | exact HI0.out)); (case side2 => repeat (first | (with_reducible first | exact HB.out | apply below_alloc | apply pw_below_drewN | apply below_drew1 | refine below_set ?_ (IsS73.ge HI0.out) | refine below_set ?_ GE404.out | refine below_set ?_ GE408.out) | exact HB.out)); rintro e w10 ⟨rfl, hi, hb, hk⟩; refine ⟨_, rfl, ?_⟩; have n0_ := Aside0.mk (KeepBut.blk hk (g' := gb404) (o := .cells #[.int .i64 0, .slice none 0 0, .int .i64 0, .bool false] 27 (0, 0)) (pp_ BK404.out) NB404_0.out (by simp)); have n1_ := Aside0.mk (KeepBut.blk hk (g' := gb408) (o := .cells #[.int .i64 (wrap64 (1 + t405)), .slice none 0 0, .int .i64 0, .bool false] 27 (0, 0)) (pp_ BK408.out) NB408_0.out (by simp)); have n2_ := Aside0.mk (KeepBut.trans (by repeat (first | (with_reducible first | exact HK.out | apply KeepBut.set_ | apply keep_drewN | apply keep_drew | apply keep_alloc | refine keep_far ?_ GW404.out _ | refine keep_far ?_ GW408.out _) | exact HK.out)) hk (.inl rfl)); have n3_ := Aside0.mk (hb); have n4_ := Aside0.mk (hi); clear BK404; clear BK408; clear HK; clear HB; clear HI0; have BK404 := n0_; have BK408 := n1_; have HK := n2_; have HB := n3_; have HI0 := n4_; clear n0_ n1_ n2_ n3_ n4_; (try clear hb); (try clear hb2); (try clear hk); (try clear hi)))
  (try simp only [Act.put, List.setIfInBounds_toArray, List.set_cons_zero, List.set_cons_succ])
  go_loopg [4] k (fun kq v4 w' => ∃ (x4_1 : Int) (x1001_1 : Int) (x1002_1 : Int) (x409001_1 : List Int) (u409001 : Value), v4 = .int .i64 x4_1 ∧ Aside0 (spec_l26Draw.l0 kq x4_1 s0_0 x1001_1 x1002_1 (wrap64 (1 + t405)) x409001_1 0 false = some (r1, r2, r3, r4, r5, r6)) ∧ Aside0 (kq ≤ k) ∧ Aside0 (Kd.R (Kd.int .i64) 3 w' w.heap.size (fun _ => True) u409001 x409001_1) ∧ Aside0 (w'.heap[gb404]? = some (.cells #[.int .i64 0, (.slice none 0 0), .int .i64 0, .bool false] 27 (0, 0))) ∧ Aside0 (w'.heap[gb408]? = some (.cells #[.int .i64 (wrap64 (1 + t405)), u409001, .int .i64 0, .bool false] 27 (0, 0))) ∧ Aside0 (IsS73 w0 w' g s0_0 x1001_1 x1002_1) ∧ Aside0 (KeepBut w w' g none) ∧ Aside0 (Below w0.heap.size w0 w'))
  case atStart => exact ⟨(t409), (t410), (t411), (([] : List Int)), (.slice none 0 0), el_, H', ⟨Nat.le_refl _⟩, ⟨by first | exact Kd.R_nil _ _ _ _ _ | exact Kd.N_nil _ _ _ _ _ | exact Kd.V_nil _ _ _ _ _ | exact Kd.Q_nil _ _ _ _ _ | exact Kd.S_nil _ _ _ _ _⟩, ⟨pk_ BK404.out⟩, ⟨pk_ BK408.out⟩, ⟨by repeat (first | (with_reducible first | exact HI0.out | apply IsS73.alloc | apply IsS73.drewN | apply IsS73.drew | apply IsS73.set_1 | apply IsS73.set_2 | refine IsS73.far ?_ NB0_404.out _ | refine IsS73.far ?_ NB0_408.out _) | exact HI0.out)⟩, ⟨by repeat (first | (with_reducible first | exact HK.out | apply KeepBut.set_ | apply keep_drewN | apply keep_drew | apply keep_alloc | refine keep_far ?_ GW404.out _ | refine keep_far ?_ GW408.out _) | exact HK.out)⟩, ⟨by repeat (first | (with_reducible first | exact HB.out | apply below_alloc | apply pw_below_drewN | apply below_drew1 | refine below_set ?_ (IsS73.ge HI0.out) | refine below_set ?_ GE404.out | refine below_set ?_ GE408.out) | exact HB.out)⟩⟩
  clear H'
  try clear p2
  try clear c6
  try clear p6
  try clear c7
  try clear c8
  try clear hcz9_0
  try clear hcz9_1
  try clear hcz9_2
  try clear hcz9_3
  try clear hfz9_0
  try clear hfz9_1
  try clear hfz9_2
  try clear hfz9_3
  obtain ⟨x4_1, x1001_1, x1002_1, x409001_1, u409001, rfl, HA, HK1, HO_409001, BK404, BK408, HI0, HK, HB⟩ := hrel
  rcases gk with _ | k1
  · exact absurd HA.out (by simp [spec_l26Draw.l0])
  have H := HA.out
  clear HA
  simp only [spec_l26Draw.l0] at H
  by_cases c11 : x4_1 > 0
  · rw [if_pos c11] at H
    have c11b0 : decide (0 < x4_1) = true := decide_eq_true c11
    clear c11
    replace H := Option.bind_eq_some_iff.mp H
    obtain ⟨⟨t412, t413, t414⟩, A120, H⟩ := H
    (try dsimp only at H)
    have A12 := Aside0.mk A120
    clear A120
    replace H := Option.bind_eq_some_iff.mp H
    obtain ⟨t415, A130, H⟩ := H
    (try dsimp only at H)
    have A13 := Aside0.mk A130
    clear A130
    have H' := Aside0.mk H
    clear H
    try go_wp2
    have n0_ := Aside0.mk (Kd.R_drew HO_409001.out)
    have n1_ := Aside0.mk (blk_drew BK404.out)
    have n2_ := Aside0.mk (blk_drew BK408.out)
    have n3_ := Aside0.mk (IsS73.drew HI0.out)
    have n4_ := Aside0.mk (keep_drew HK.out)
    have n5_ := Aside0.mk (below_drew1 HB.out)
    clear HO_409001
    clear BK404
    clear BK408
    clear HI0
    clear HK
    clear HB
    have HO_409001 := n0_
    have BK404 := n1_
    have BK408 := n2_
    have HI0 := n3_
    have HK := n4_
    have HB := n5_
    clear n0_ n1_ n2_ n3_ n4_ n5_
    refine start_ (n := 8) (S := fun w' => w'.cell? ⟨gb408, 0, none⟩ = some (.int .i64 (wrap64 (1 + t405))) ∧ w'.cell? ⟨gb408, 1, none⟩ = some (u409001) ∧ w'.cell? ⟨gb408, 2, none⟩ = some (.int .i64 0) ∧ w'.cell? ⟨gb408, 3, none⟩ = some (.bool false)) (ds := [7]) #[false, false, false, false, false, false, false, false] (by kernel_rfl) rfl rfl ⟨(blk_cell BK408.out 0).trans rfl, (blk_cell BK408.out 1).trans rfl, (blk_cell BK408.out 2).trans rfl, (blk_cell BK408.out 3).trans rfl⟩ (fun hHeld => ?_); refine with_tabW spec_l26Draw.tab5 spec_l26Draw.bits5 (fun HT_ HW_ => ?_)
    generalize wr.drew = w14 at HO_409001 BK404 BK408 HI0 HK HB hHeld ⊢
    refine pure_ (i := 0) (N := some 15) (v := ?_) (a' := ?_) #[true, false, false, false, false, false, false, false] rfl rfl (any_of HT_.out (by kernel_rfl)) (fun _ _ _ h => h) (Or.inl ⟨by rfl, ?_⟩) ?_ ?_
    rotate_left
    · intro w'
      go_simp
      (try (simp only [Instr.field]; simp only [underlying, hu27]; go_simp; simp only [asAgg]; go_simp))
      with_reducible rfl
    rotate_left
    · simp only [Act.put, List.setIfInBounds_toArray, List.set_cons_zero, List.set_cons_succ, i64_w, i32_w]
      rfl
    refine pure_ (i := 2) (N := some 17) (v := ?_) (a' := ?_) #[true, false, true, false, false, false, false, false] rfl rfl (any_of HT_.out (by kernel_rfl)) (fun _ _ _ h => h) (Or.inl ⟨by rfl, ?_⟩) ?_ ?_
    rotate_left
    · intro w'
      go_simp
      (try (simp only [Instr.field]; simp only [underlying, hu27]; go_simp; simp only [asAgg]; go_simp))
      with_reducible rfl
    rotate_left
    · simp only [Act.put, List.setIfInBounds_toArray, List.set_cons_zero, List.set_cons_succ, i64_w, i32_w]
      rfl
    refine take_ (i := 1) (N := some 16) (v := ?_) (a' := ?_) #[true, true, true, false, false, false, false, false] rfl rfl (take_ofW HT_.out HW_.out (by kernel_rfl)) (fun _ _ _ h => h) (Or.inl ⟨by rfl, ?_⟩) hHeld ?_ ?_
    rotate_left
    · rintro w' ⟨s0, s1, s2, s3⟩
      go_simp
      (try (simp only [Instr.field]; simp only [underlying, hu27]; go_simp; simp only [asAgg]; go_simp))
      with_reducible rfl
    rotate_left
    · simp only [Act.put, List.setIfInBounds_toArray, List.set_cons_zero, List.set_cons_succ, i64_w, i32_w]
      rfl
    refine one_ (i := 3) (N := some 18) #[true, true, true, true, false, false, false, false] rfl rfl (one_of HT_.out (by kernel_rfl)) (by decide) (fun K hK => ?_)
    refine goes_ Try.func66 (by kernel_rfl) rfl #[.pointer (some ⟨g, 0, none⟩), .int .i64 90] (by rfl) rfl rfl mp_ ?_
    with_reducible refine (spec_l1Below.calls g s0_0 x1001_1 x1002_1 90 t412 t413 t414 w0 _ ?side1 ?side2 A12.out).mono ?_
    (case side1 => repeat (first | (with_reducible first | exact HI0.out | apply IsS73.alloc | apply IsS73.drewN | apply IsS73.drew | apply IsS73.set_1 | apply IsS73.set_2 | refine IsS73.far ?_ NB0_404.out _ | refine IsS73.far ?_ NB0_408.out _) | exact HI0.out))
    (case side2 => repeat (first | (with_reducible first | exact HB.out | apply below_alloc | apply pw_below_drewN | apply below_drew1 | refine below_set ?_ (IsS73.ge HI0.out) | refine below_set ?_ GE404.out | refine below_set ?_ GE408.out) | exact HB.out))
    rintro e w15 ⟨rfl, hi, hb, hk⟩
    refine ⟨_, rfl, ?_⟩
    have n0_ := Aside0.mk (Kd.R_mono (Kd.R_keep (IsS73.apart (show IsS73 w0 _ g s0_0 x1001_1 x1002_1 from by repeat (first | (with_reducible first | exact HI0.out | apply IsS73.alloc | apply IsS73.drewN | apply IsS73.drew | apply IsS73.set_1 | apply IsS73.set_2 | refine IsS73.far ?_ NB0_404.out _ | refine IsS73.far ?_ NB0_408.out _) | exact HI0.out)) (pr_ HO_409001.out) (by decide)) hk (fun _ h => h.2)) (fun _ h => h.1))
    have n1_ := Aside0.mk (KeepBut.blk hk (g' := gb404) (o := .cells #[.int .i64 0, .slice none 0 0, .int .i64 0, .bool false] 27 (0, 0)) (pk_ BK404.out) NB404_0.out (by simp))
    have n2_ := Aside0.mk (KeepBut.blk hk (g' := gb408) (o := .cells #[.int .i64 (wrap64 (1 + t405)), u409001, .int .i64 0, .bool false] 27 (0, 0)) (pk_ BK408.out) NB408_0.out (by simp))
    have n3_ := Aside0.mk (KeepBut.trans (by repeat (first | (with_reducible first | exact HK.out | apply KeepBut.set_ | apply keep_drewN | apply keep_drew | apply keep_alloc | refine keep_far ?_ GW404.out _ | refine keep_far ?_ GW408.out _) | exact HK.out)) hk (.inl rfl))
    have n4_ := Aside0.mk (hb)
    have n5_ := Aside0.mk (hi)
    clear HO_409001
    clear BK404
    clear BK408
    clear HK
    clear HB
    clear HI0
    have HO_409001 := n0_
    have BK404 := n1_
    have BK408 := n2_
    have HK := n3_
    have HB := n4_
    have HI0 := n5_
    clear n0_ n1_ n2_ n3_ n4_ n5_
    (try clear hb)
    (try clear hb2)
    (try clear hk)
    (try clear hi)
    obtain ⟨Ao16, co16, eo16⟩ := Kd.R_slice HO_409001.out
    (first | subst eo16 | (injection eo16 with f1_ f2_ f3_; have f4_ := f1_.symm; have f5_ := f3_.symm; clear f1_ f2_ f3_; subst f4_; subst f5_))
    refine hK.out _ _ ⟨(blk_cell BK408.out 0).trans rfl, (blk_cell BK408.out 1).trans rfl, (blk_cell BK408.out 2).trans rfl, (blk_cell BK408.out 3).trans rfl⟩ (fun hHeld => ?_)
    clear hK K
    refine norm_ (a' := ?_) ?_ ?_
    rotate_left
    · show Act.put _ (some 18) _ = _
      simp only [Act.put, List.setIfInBounds_toArray, List.set_cons_zero, List.set_cons_succ, i64_w, i32_w]
      rfl
    refine pure_ (i := 4) (N := some 19) (v := ?_) (a' := ?_) #[true, true, true, true, true, false, false, false] rfl rfl (any_of HT_.out (by kernel_rfl)) (fun _ _ _ h => h) (Or.inl ⟨by rfl, ?_⟩) ?_ ?_
    rotate_left
    · intro w'
      go_simp
      (try (simp only [Instr.field]; simp only [underlying, hu27]; go_simp; simp only [asAgg]; go_simp))
      with_reducible rfl
    rotate_left
    · simp only [Act.put, List.setIfInBounds_toArray, List.set_cons_zero, List.set_cons_succ, i64_w, i32_w]
      rfl
    refine one_ (i := 5) (N := some 20) #[true, true, true, true, true, true, false, false] rfl rfl (one_of HT_.out (by kernel_rfl)) (by decide) (fun K hK => ?_)
    refine goes_ Try.func71 (by kernel_rfl) rfl #[.slice Ao16 x409001_1.length co16, .int .i64 (wrap64 (1 + t412))] (by rfl) rfl rfl mp_ ?_
    with_reducible refine (spec_l4Put.calls k1 _ _ x409001_1 (wrap64 (1 + t412)) t415 _ ?side1 ?side2 A13.out).mono ?_
    (case side1 => exact pc_ ((Kd.R_reads' HO_409001.out).2.2))
    (case side2 => exact (Kd.R_reads' HO_409001.out).2.1)
    rintro e w17 ⟨v416, rfl, ho0, hb⟩
    refine ⟨_, rfl, ?_⟩
    have n0_ := Aside0.mk (Kd.R_elder' (pr_ HO_409001.out) (Kd.R_base ho0) hb)
    have n1_ := Aside0.mk (Kd.R_lower (Kd.R_new' ho0 (Kd.R_lt (pr_ HO_409001.out))) (keep_size (w := w) (g := g) (row := none) (by repeat (first | (with_reducible first | exact HK.out | apply KeepBut.set_ | apply keep_drewN | apply keep_drew | apply keep_alloc | refine keep_far ?_ GW404.out _ | refine keep_far ?_ GW408.out _) | exact HK.out))))
    have n2_ := Aside0.mk (bb_ BK404.out hb)
    have n3_ := Aside0.mk (bb_ BK408.out hb)
    have n4_ := Aside0.mk (IsS73.below (by repeat (first | (with_reducible first | exact HI0.out | apply IsS73.alloc | apply IsS73.drewN | apply IsS73.drew | apply IsS73.set_1 | apply IsS73.set_2 | refine IsS73.far ?_ NB0_404.out _ | refine IsS73.far ?_ NB0_408.out _) | exact HI0.out)) hb)
    have n5_ := Aside0.mk (KeepBut.trans (by repeat (first | (with_reducible first | exact HK.out | apply KeepBut.set_ | apply keep_drewN | apply keep_drew | apply keep_alloc | refine keep_far ?_ GW404.out _ | refine keep_far ?_ GW408.out _) | exact HK.out)) (KeepBut.of_below hb g none) (.inl rfl))
    have n6_ := Aside0.mk (below_step (by repeat (first | (with_reducible first | exact HB.out | apply below_alloc | apply pw_below_drewN | apply below_drew1 | refine below_set ?_ (IsS73.ge HI0.out) | refine below_set ?_ GE404.out | refine below_set ?_ GE408.out) | exact HB.out)) hb)
    clear HO_409001
    clear BK404
    clear BK408
    clear HI0
    clear HK
    clear HB
    have HO_409001 := n0_
    have HO417 := n1_
    have BK404 := n2_
    have BK408 := n3_
    have HI0 := n4_
    have HK := n5_
    have HB := n6_
    clear n0_ n1_ n2_ n3_ n4_ n5_ n6_
    (try clear hb)
    (try clear hb2)
    (try clear hk)
    (try clear hi)
    (try clear ho0)
    obtain ⟨Ao18, co18, eo18⟩ := Kd.R_slice HO417.out
    (first | subst eo18 | (injection eo18 with f1_ f2_ f3_; have f4_ := f1_.symm; have f5_ := f3_.symm; clear f1_ f2_ f3_; subst f4_; subst f5_))
    refine hK.out _ _ ⟨(blk_cell BK408.out 0).trans rfl, (blk_cell BK408.out 1).trans rfl, (blk_cell BK408.out 2).trans rfl, (blk_cell BK408.out 3).trans rfl⟩ (fun hHeld => ?_)
    clear hK K
    refine norm_ (a' := ?_) ?_ ?_
    rotate_left
    · show Act.put _ (some 20) _ = _
      simp only [Act.put, List.setIfInBounds_toArray, List.set_cons_zero, List.set_cons_succ, i64_w, i32_w]
      rfl
    refine pure_ (i := 6) (N := some 21) (v := ?_) (a' := ?_) #[true, true, true, true, true, true, true, false] rfl rfl (any_of HT_.out (by kernel_rfl)) (fun _ _ _ h => h) (Or.inl ⟨by rfl, ?_⟩) ?_ ?_
    rotate_left
    · intro w'
      go_simp
      (try (simp only [Instr.field]; simp only [underlying, hu27]; go_simp; simp only [asAgg]; go_simp))
      with_reducible rfl
    rotate_left
    · simp only [Act.put, List.setIfInBounds_toArray, List.set_cons_zero, List.set_cons_succ, i64_w, i32_w]
      rfl
    refine last_ (i := 7) (N := none) #[true, true, true, true, true, true, true, true] rfl rfl (one_of HT_.out (by kernel_rfl)) (by decide) (fun K hK => ?_)
    have hs19 : w17.cell? ⟨gb408, 1, none⟩ = some (.slice Ao16 x409001_1.length co16) := (blk_cell BK408.out 1).trans rfl
    have hfs19 := blk_frozen BK408.out 1
    have hns19_0 := NB404_408.out
    have hms19_0 := NB408_404.out
    refine skip_ (w1 := ?_) (by rfl) rfl ?_ ?_
    rotate_left
    · go_simp
      rfl
    refine hK.out _ _ ?_
    clear hK K
    refine done_ (done_of HT_.out (by kernel_rfl)) ?_
    try go_wp2
    go_roundg k1
    case measure => have := HK1.out; omega
    case rel => exact ⟨(wrap64 (x4_1 - 1)), (t413), (t414), (t415), (.slice Ao18 t415.length co18), el_, H', ⟨by have := HK1.out; omega⟩, ⟨pr_ (Kd.R_mono (Kd.R_far (p := ⟨gb408, 1, none⟩) (Kd.R_types HO417.out BK408.out (by decide)) (fun _ hk => hk.2) (.slice Ao18 t415.length co18)) (fun _ hk => trivial))⟩, ⟨pp_ BK404.out⟩, ⟨pp_ BK408.out⟩, ⟨by repeat (first | (with_reducible first | exact HI0.out | apply IsS73.alloc | apply IsS73.drewN | apply IsS73.drew | apply IsS73.set_1 | apply IsS73.set_2 | refine IsS73.far ?_ NB0_404.out _ | refine IsS73.far ?_ NB0_408.out _) | exact HI0.out)⟩, ⟨by repeat (first | (with_reducible first | exact HK.out | apply KeepBut.set_ | apply keep_drewN | apply keep_drew | apply keep_alloc | refine keep_far ?_ GW404.out _ | refine keep_far ?_ GW408.out _) | exact HK.out)⟩, ⟨by repeat (first | (with_reducible first | exact HB.out | apply below_alloc | apply pw_below_drewN | apply below_drew1 | refine below_set ?_ (IsS73.ge HI0.out) | refine below_set ?_ GE404.out | refine below_set ?_ GE408.out) | exact HB.out)⟩⟩
  rw [if_neg c11] at H
  have c11b0 : decide (0 < x4_1) = false := decide_eq_false c11
  clear c11
  by_cases c20 : x409001_1.length < 17592186044416
  rotate_left
  · rw [if_neg c20] at H
    exact absurd H (by simp)
  rw [if_pos c20] at H
  have LMc20 := Aside0.mk c20
  clear c20
  obtain ⟨y418, hy418⟩ : ∃ y_ : List Int, y_ = (x409001_1 ++ [100]) := ⟨_, rfl⟩
  replace H : ((spec_l1Below.f s0_0 x1001_1 x1002_1 (y418.length : Int)).bind fun bt421 => (some ((wrap64 (1 + t405)), y418, bt421.1, false, bt421.2.1, bt421.2.2))) = some (r1, r2, r3, r4, r5, r6) := by first | (rw [hy418]; with_reducible exact H) | (have H2_ := (Option.bind_some _ _).symm.trans H; rw [hy418]; with_reducible exact H2_) | (have H2_ := (Option.bind_some _ _).symm.trans H; with_reducible exact H2_) | with_reducible exact H | (rw [hy418]; exact H) | exact H
  have Ny418 := Aside0.mk hy418
  clear hy418
  replace H := Option.bind_eq_some_iff.mp H
  obtain ⟨⟨t421, t422, t423⟩, A210, H⟩ := H
  (try dsimp only at H)
  have A21 := Aside0.mk A210
  clear A210
  simp only [Option.some.injEq, Prod.mk.injEq] at H
  obtain ⟨rfl, rfl, rfl, rfl, rfl, rfl⟩ := H
  have hnb22 := NB408_404.out
  have hnc22 := NB404_408.out
  have hnb23 := NB408_0.out
  have hnc23 := NB0_408.out
  obtain ⟨hcz24_0, hcz24_1, hcz24_2, hcz24_3, hfz24_0, hfz24_1, hfz24_2, hfz24_3⟩ := bc4_ BK408.out
  go_wp2_with (first | ((with_reducible refine gate_builtin (b := .append) (xs := #[.tmp 23, .tmp 24]) rfl ?_); at_builtin; refine Kd.R_append (Kd.int .i64) w.heap.size rfl (.tmp 23) (.tmp 24) 22 3 (.int .i64 0) 8 rfl Try.underlying22 info3 rfl (by decide) (by omega) u409001 x409001_1 100 [.int .i64 100] (fun _ => True) (fun _ => False) rfl rfl ?aP (fun _ hk => hk.elim) ?aF ?aO (Below.refl _ _) ?aS ?aL ?_; (case aP => exact rfl); (case aF => exact (fun _ _ => trivial)); (case aO => exact (pr_ HO_409001.out)); (case aS => exact (keep_size (w := w) (g := g) (row := none) (by repeat (first | (with_reducible first | exact HK.out | apply KeepBut.set_ | apply keep_drewN | apply keep_drew | apply keep_alloc | refine keep_far ?_ GW404.out _ | refine keep_far ?_ GW408.out _) | exact HK.out)))); (case aL => have := LMc20.out; omega); intro v419 w25 ho hb hg hat; rw [← Ny418.out] at ho; have n0_ := Aside0.mk (blk_grown (g := gb404) (o := .cells #[.int .i64 0, .slice none 0 0, .int .i64 0, .bool false] 27 (0, 0)) (pk_ BK404.out) hg (Kd.R_ne HO_409001.out BK404.out (by decide))); have n1_ := Aside0.mk (blk_grown (g := gb408) (o := .cells #[.int .i64 (wrap64 (1 + t405)), u409001, .int .i64 0, .bool false] 27 (0, 0)) (pk_ BK408.out) hg (Kd.R_ne HO_409001.out BK408.out (by decide))); have n2_ := Aside0.mk (IsS73.grown (by repeat (first | (with_reducible first | exact HI0.out | apply IsS73.alloc | apply IsS73.drewN | apply IsS73.drew | apply IsS73.set_1 | apply IsS73.set_2 | refine IsS73.far ?_ NB0_404.out _ | refine IsS73.far ?_ NB0_408.out _) | exact HI0.out)) hg (IsS73.own_ne HI0.out HO_409001.out (by decide))); have n3_ := Aside0.mk (below_weaken (by repeat (first | (with_reducible first | exact HB.out | apply below_alloc | apply pw_below_drewN | apply below_drew1 | refine below_set ?_ (IsS73.ge HI0.out) | refine below_set ?_ GE404.out | refine below_set ?_ GE408.out) | exact HB.out)) HL.out hb); have n4_ := Aside0.mk (KeepBut.trans (by repeat (first | (with_reducible first | exact HK.out | apply KeepBut.set_ | apply keep_drewN | apply keep_drew | apply keep_alloc | refine keep_far ?_ GW404.out _ | refine keep_far ?_ GW408.out _) | exact HK.out)) (KeepBut.of_grown hg g) (Kd.R_base2 HO_409001.out)); have n5_ := Aside0.mk (ho); clear BK404; clear BK408; clear HI0; clear HB; clear HK; clear HO_409001; have BK404 := n0_; have BK408 := n1_; have HI0 := n2_; have HB := n3_; have HK := n4_; have HO420 := n5_; clear n0_ n1_ n2_ n3_ n4_ n5_; clear ho hb hg hat; obtain ⟨Ao26, co26, eo26⟩ := Kd.R_slice HO420.out; subst eo26; have hcz27_0 : w25.cell? ⟨gb408, 0, none⟩ = some (.int .i64 (wrap64 (1 + t405))) := (blk_cell BK408.out 0).trans rfl; have hcz27_1 : w25.cell? ⟨gb408, 1, none⟩ = some (u409001) := (blk_cell BK408.out 1).trans rfl; have hcz27_2 : w25.cell? ⟨gb408, 2, none⟩ = some (.int .i64 0) := (blk_cell BK408.out 2).trans rfl; have hcz27_3 : w25.cell? ⟨gb408, 3, none⟩ = some (.bool false) := (blk_cell BK408.out 3).trans rfl; have hfz27_0 := blk_frozen BK408.out 0; have hfz27_1 := blk_frozen BK408.out 1; have hfz27_2 := blk_frozen BK408.out 2; have hfz27_3 := blk_frozen BK408.out 3) | ((with_reducible refine gate_callee (f := 66) rfl ?_); refine goesL_ (some 31) rfl rfl Try.func66 (by kernel_rfl) rfl #[.pointer (some ⟨g, 0, none⟩), .int .i64 (y418.length : Int)] rfl mp_ ?_; (with_reducible refine (spec_l1Below.calls g s0_0 x1001_1 x1002_1 (y418.length : Int) t421 t422 t423 w0 _ ?side1 ?side2 A21.out).mono ?_); (case side1 => repeat (first | (with_reducible first | exact HI0.out | apply IsS73.alloc | apply IsS73.drewN | apply IsS73.drew | apply IsS73.set_1 | apply IsS73.set_2 | refine IsS73.far ?_ NB0_404.out _ | refine IsS73.far ?_ NB0_408.out _) | exact HI0.out)); (case side2 => repeat (first | (with_reducible first | exact HB.out | apply below_alloc | apply pw_below_drewN | apply below_drew1 | refine below_set ?_ (IsS73.ge HI0.out) | refine below_set ?_ GE404.out | refine below_set ?_ GE408.out) | exact HB.out)); rintro e w28 ⟨rfl, hi, hb, hk⟩; refine ⟨_, rfl, ?_⟩; have n0_ := Aside0.mk (KeepBut.blk hk (g' := gb404) (o := .cells #[.int .i64 0, .slice none 0 0, .int .i64 0, .bool false] 27 (0, 0)) (pp_ BK404.out) NB404_0.out (by simp)); have n1_ := Aside0.mk (KeepBut.blk hk (g' := gb408) (o := .cells #[.int .i64 (wrap64 (1 + t405)), .slice Ao26 y418.length co26, .int .i64 0, .bool false] 27 (0, 0)) (pp_ BK408.out) NB408_0.out (by simp)); have n2_ := Aside0.mk (Kd.R_mono (Kd.R_keep (IsS73.apart (show IsS73 w0 _ g s0_0 x1001_1 x1002_1 from by repeat (first | (with_reducible first | exact HI0.out | apply IsS73.alloc | apply IsS73.drewN | apply IsS73.drew | apply IsS73.set_1 | apply IsS73.set_2 | refine IsS73.far ?_ NB0_404.out _ | refine IsS73.far ?_ NB0_408.out _) | exact HI0.out)) (pr_ (Kd.R_mono (Kd.R_far (p := ⟨gb408, 1, none⟩) (Kd.R_types HO420.out BK408.out (by decide)) (fun _ hk => hk.2) (.slice Ao26 y418.length co26)) (fun _ h_ => h_.1))) (by decide)) hk (fun _ h => h.2)) (fun _ h => h.1)); have n3_ := Aside0.mk (KeepBut.trans (by repeat (first | (with_reducible first | exact HK.out | apply KeepBut.set_ | apply keep_drewN | apply keep_drew | apply keep_alloc | refine keep_far ?_ GW404.out _ | refine keep_far ?_ GW408.out _) | exact HK.out)) hk (.inl rfl)); have n4_ := Aside0.mk (hb); have n5_ := Aside0.mk (hi); clear BK404; clear BK408; clear HO420; clear HK; clear HB; clear HI0; have BK404 := n0_; have BK408 := n1_; have HO420 := n2_; have HK := n3_; have HB := n4_; have HI0 := n5_; clear n0_ n1_ n2_ n3_ n4_ n5_; (try clear hb); (try clear hb2); (try clear hk); (try clear hi); have hcz29_0 : w28.cell? ⟨gb408, 0, none⟩ = some (.int .i64 (wrap64 (1 + t405))) := (blk_cell BK408.out 0).trans rfl; have hcz29_1 : w28.cell? ⟨gb408, 1, none⟩ = some (.slice Ao26 y418.length co26) := (blk_cell BK408.out 1).trans rfl; have hcz29_2 : w28.cell? ⟨gb408, 2, none⟩ = some (.int .i64 0) := (blk_cell BK408.out 2).trans rfl; have hcz29_3 : w28.cell? ⟨gb408, 3, none⟩ = some (.bool false) := (blk_cell BK408.out 3).trans rfl; have hfz29_0 := blk_frozen BK408.out 0; have hfz29_1 := blk_frozen BK408.out 1; have hfz29_2 := blk_frozen BK408.out 2; have hfz29_3 := blk_frozen BK408.out 3; have hnb30 := NB404_0.out; have hnc30 := NB0_404.out; have hcz31_0 : w28.cell? ⟨gb404, 0, none⟩ = some (.int .i64 0) := (blk_cell BK404.out 0).trans rfl; have hcz31_1 : w28.cell? ⟨gb404, 1, none⟩ = some (.slice none 0 0) := (blk_cell BK404.out 1).trans rfl; have hcz31_2 : w28.cell? ⟨gb404, 2, none⟩ = some (.int .i64 0) := (blk_cell BK404.out 2).trans rfl; have hcz31_3 : w28.cell? ⟨gb404, 3, none⟩ = some (.bool false) := (blk_cell BK404.out 3).trans rfl; have hfz31_0 := blk_frozen BK404.out 0; have hfz31_1 := blk_frozen BK404.out 1; have hfz31_2 := blk_frozen BK404.out 2; have hfz31_3 := blk_frozen BK404.out 3))
  refine bodyPost_ret (results_cell_row rfl _ _ gb404 27 #[.int .i64 (wrap64 (1 + t405)), .slice Ao26 y418.length co26, .int .i64 t421, .bool false] (0, 0) _ rfl (pp_ BK404.out) Try.underlying27 rfl (by kernel_rfl)) rfl ?_
  exact ⟨_, er_, pr_ (Kd.R_mono (Kd.R_far (p := ⟨gb404, 3, none⟩) (Kd.R_far (p := ⟨gb404, 2, none⟩) (Kd.R_far (p := ⟨gb404, 1, none⟩) (Kd.R_far (p := ⟨gb404, 0, none⟩) (Kd.R_far (p := ⟨gb408, 2, none⟩) (Kd.R_types (Kd.R_types HO420.out BK408.out (by decide)) BK404.out (by decide)) (fun _ hk => hk.1.2) (.int .i64 t421)) (fun _ hk => hk.2) (.int .i64 (wrap64 (1 + t405)))) (fun _ hk => hk.2) (.slice Ao26 y418.length co26)) (fun _ hk => hk.2) (.int .i64 t421)) (fun _ hk => hk.2) (.bool false)) (fun _ hk => trivial)), by repeat (first | (with_reducible first | exact HI0.out | apply IsS73.alloc | apply IsS73.drewN | apply IsS73.drew | apply IsS73.set_1 | apply IsS73.set_2 | refine IsS73.far ?_ NB0_404.out _ | refine IsS73.far ?_ NB0_408.out _) | exact HI0.out), by repeat (first | (with_reducible first | exact HB.out | apply below_alloc | apply pw_below_drewN | apply below_drew1 | refine below_set ?_ (IsS73.ge HI0.out) | refine below_set ?_ GE404.out | refine below_set ?_ GE408.out) | exact HB.out), by repeat (first | (with_reducible first | exact HK.out | apply KeepBut.set_ | apply keep_drewN | apply keep_drew | apply keep_alloc | refine keep_far ?_ GW404.out _ | refine keep_far ?_ GW408.out _) | exact HK.out)⟩

/-! ### spec_l26Any: function 62 -/
def spec_l26Any.f (k : Nat) (s0_0 : List Int) (s0_1 : Int) (s0_2 : Int) : Option (Int × List Int × Int × Bool × Int × Int) := (spec_l26Draw.f k s0_0 s0_1 s0_2).bind fun bt425 => ((spec_l1Below.f s0_0 bt425.2.2.2.2.1 bt425.2.2.2.2.2 10).bind fun bt434 => (if bt434.1 = 0 then ((spec_l1Int.f s0_0 bt434.2.1 bt434.2.2 (([0, 9, 10] : List Int))).bind fun bt440 => (some (bt440.1, bt425.2.1, bt425.2.2.1, bt425.2.2.2.1, bt440.2.1, bt440.2.2))) else (if bt434.1 = 1 then ((spec_l1Int.f s0_0 bt434.2.1 bt434.2.2 (([0, 101, 100] : List Int))).bind fun bt446 => (if 0 < (bt425.2.1.length : Int) then (some (bt425.1, (bt425.2.1.set (0 : Int).toNat bt446.1), bt425.2.2.1, bt425.2.2.2.1, bt446.2.1, bt446.2.2)) else (none))) else (if bt434.1 = 2 then ((spec_l1Int.f s0_0 bt434.2.1 bt434.2.2 (([(-1), (bt425.2.1.length : Int), 9223372036854775807] : List Int))).bind fun bt453 => (some (bt425.1, bt425.2.1, bt453.1, bt425.2.2.2.1, bt453.2.1, bt453.2.2))) else (if bt434.1 = 3 then (some (bt425.1, bt425.2.1, bt425.2.2.1, true, bt434.2.1, bt434.2.2)) else (if bt434.1 = 4 then (some (bt425.1, ([] : List Int), bt425.2.2.1, bt425.2.2.2.1, bt434.2.1, bt434.2.2)) else (some (bt425.1, bt425.2.1, bt425.2.2.1, bt425.2.2.2.1, bt434.2.1, bt434.2.2))))))))
theorem spec_l26Any.mono : ∀ a0 a1 a2 k, LeO (spec_l26Any.f k a0 a1 a2) (spec_l26Any.f (k + 1) a0 a1 a2) := by
  intro a0 a1 a2 k
  unfold spec_l26Any.f
  repeat' first
      | (with_reducible exact spec_l26Draw.mono _ _ _ _)
      | (with_reducible exact LeO.refl _)
      | (with_reducible exact LeO.none _)
      | (with_reducible refine LeO.ite ?_ ?_)
      | (with_reducible refine LeO.bind ?_ (fun _ => ?_))
      | exact spec_l26Draw.mono _ _ _ _
      | exact LeO.none _
      | refine LeO.ite ?_ ?_
      | refine LeO.bind ?_ (fun _ => ?_)
set_option maxHeartbeats 8000000 in
set_option maxRecDepth 100000 in
theorem spec_l26Any.calls (k : Nat) (g : Nat) (s0_0 : List Int) (s0_1 : Int) (s0_2 : Int) (r1 : Int) (r2 : List Int) (r3 : Int) (r4 : Bool) (r5 : Int) (r6 : Int) (w0 w : World) (hI : IsS73 w0 w g s0_0 s0_1 s0_2) (hB : Below w0.heap.size w0 w) (h : spec_l26Any.f k s0_0 s0_1 s0_2 = some (r1, r2, r3, r4, r5, r6)) :
    Calls Try.prog 62 #[.pointer (some ⟨g, 0, none⟩)] w fun e w' => ∃ v1_ : Value, e = .returned (.agg #[.int .i64 r1, v1_, .int .i64 r3, .bool r4]) ∧ Kd.R (Kd.int .i64) 3 w' w.heap.size (fun _ => True) v1_ r2 ∧ IsS73 w0 w' g s0_0 r5 r6 ∧ Below w0.heap.size w0 w' ∧ KeepBut w w' g none := by
  have hu27 := Try.underlying27
  have HI0 := Aside0.mk hI
  have HK := Aside0.mk (KeepBut.refl w g none)
  have HL := Aside0.mk hB.size
  clear hI
  have HW0 := Aside0.mk hB.size
  have HB := Aside0.mk hB
  clear hB
  have H : ((spec_l26Draw.f k s0_0 s0_1 s0_2).bind fun bt425 => ((spec_l1Below.f s0_0 bt425.2.2.2.2.1 bt425.2.2.2.2.2 10).bind fun bt434 => (if bt434.1 = 0 then ((spec_l1Int.f s0_0 bt434.2.1 bt434.2.2 (([0, 9, 10] : List Int))).bind fun bt440 => (some (bt440.1, bt425.2.1, bt425.2.2.1, bt425.2.2.2.1, bt440.2.1, bt440.2.2))) else (if bt434.1 = 1 then ((spec_l1Int.f s0_0 bt434.2.1 bt434.2.2 (([0, 101, 100] : List Int))).bind fun bt446 => (if 0 < (bt425.2.1.length : Int) then (some (bt425.1, (bt425.2.1.set (0 : Int).toNat bt446.1), bt425.2.2.1, bt425.2.2.2.1, bt446.2.1, bt446.2.2)) else (none))) else (if bt434.1 = 2 then ((spec_l1Int.f s0_0 bt434.2.1 bt434.2.2 (([(-1), (bt425.2.1.length : Int), 9223372036854775807] : List Int))).bind fun bt453 => (some (bt425.1, bt425.2.1, bt453.1, bt425.2.2.2.1, bt453.2.1, bt453.2.2))) else (if bt434.1 = 3 then (some (bt425.1, bt425.2.1, bt425.2.2.1, true, bt434.2.1, bt434.2.2)) else (if bt434.1 = 4 then (some (bt425.1, ([] : List Int), bt425.2.2.1, bt425.2.2.2.1, bt434.2.1, bt434.2.2)) else (some (bt425.1, bt425.2.1, bt425.2.2.1, bt425.2.2.2.1, bt434.2.1, bt434.2.2))))))))) = some (r1, r2, r3, r4, r5, r6) := h
  clear h
  have HS_ := Aside0.mk H
  clear H
  go_enter Try.func62, Try.ntmps62
  go_upto_region 1 with (first | ((with_reducible refine gate_dst (N := 2) rfl ?_); refine box_event ?hg (N := 2) ?hd (cs := #[.int .i64 0, .slice none 0 0, .int .i64 0, .bool false]) (t := 27) ?hr ?_; (case hd => rfl); (case hg => rfl); (case hr => first | (go_simp; done) | (go_simp; rfl)); intro gb424 hg w2 hbox hb; have n0_ := Aside0.mk (IsS73.below (by repeat (first | (with_reducible first | exact HI0.out | apply IsS73.alloc | apply IsS73.drewN | apply IsS73.drew | apply IsS73.set_1 | apply IsS73.set_2) | exact HI0.out)) hb); have n1_ := Aside0.mk (KeepBut.trans (by repeat (first | (with_reducible first | exact HK.out | apply KeepBut.set_ | apply keep_drewN | apply keep_drew | apply keep_alloc) | exact HK.out)) (KeepBut.of_below hb g none) (.inl rfl)); have n2_ := Aside0.mk (below_step (by repeat (first | (with_reducible first | exact HB.out | apply below_alloc | apply pw_below_drewN | apply below_drew1 | refine below_set ?_ (IsS73.ge HI0.out)) | exact HB.out)) hb); have n3_ := Aside0.mk (hbox); have n4_ := Aside0.mk ((by rw [hg]; exact (keep_size (w := w) (g := g) (row := none) (by repeat (first | (with_reducible first | exact HK.out | apply KeepBut.set_ | apply keep_drewN | apply keep_drew | apply keep_alloc) | exact HK.out))) : w.heap.size ≤ gb424)); have n5_ := Aside0.mk ((Nat.le_trans HW0.out (by rw [hg]; exact (keep_size (w := w) (g := g) (row := none) (by repeat (first | (with_reducible first | exact HK.out | apply KeepBut.set_ | apply keep_drewN | apply keep_drew | apply keep_alloc) | exact HK.out))) : w.heap.size ≤ gb424) : w0.heap.size ≤ gb424)); have n6_ := Aside0.mk ((by rw [hg]; exact Nat.ne_of_lt (IsS73.lt (show IsS73 w0 _ g s0_0 s0_1 s0_2 from by repeat (first | (with_reducible first | exact HI0.out | apply IsS73.alloc | apply IsS73.drewN | apply IsS73.drew | apply IsS73.set_1 | apply IsS73.set_2) | exact HI0.out))) : g ≠ gb424)); have n7_ := Aside0.mk ((by rw [hg]; exact Nat.ne_of_gt (IsS73.lt (show IsS73 w0 _ g s0_0 s0_1 s0_2 from by repeat (first | (with_reducible first | exact HI0.out | apply IsS73.alloc | apply IsS73.drewN | apply IsS73.drew | apply IsS73.set_1 | apply IsS73.set_2) | exact HI0.out))) : gb424 ≠ g)); clear HI0; clear HK; clear HB; have HI0 := n0_; have HK := n1_; have HB := n2_; have BK424 := n3_; have GW424 := n4_; have GE424 := n5_; have NB0_424 := n6_; have NB424_0 := n7_; clear n0_ n1_ n2_ n3_ n4_ n5_ n6_ n7_; clear hb hbox hg))
  (try simp only [Act.put, List.setIfInBounds_toArray, List.set_cons_zero, List.set_cons_succ])
  have H := HS_.out
  clear HS_
  replace H := Option.bind_eq_some_iff.mp H
  obtain ⟨⟨t425, t426, t429, t430, t431, t432⟩, A30, H⟩ := H
  (try dsimp only at H)
  have A3 := Aside0.mk A30
  clear A30
  have HS_ := Aside0.mk H
  clear H
  go_upto_region 2 with (first | ((with_reducible refine gate_callee (f := 69) rfl ?_); refine goesL_ (some 5) rfl rfl Try.func69 (by kernel_rfl) rfl #[.pointer (some ⟨g, 0, none⟩)] rfl mp_ ?_; (with_reducible refine (spec_l26Draw.calls k g s0_0 s0_1 s0_2 t425 t426 t429 t430 t431 t432 w0 _ ?side1 ?side2 A3.out).mono ?_); (case side1 => repeat (first | (with_reducible first | exact HI0.out | apply IsS73.alloc | apply IsS73.drewN | apply IsS73.drew | apply IsS73.set_1 | apply IsS73.set_2 | refine IsS73.far ?_ NB0_424.out _) | exact HI0.out)); (case side2 => repeat (first | (with_reducible first | exact HB.out | apply below_alloc | apply pw_below_drewN | apply below_drew1 | refine below_set ?_ (IsS73.ge HI0.out) | refine below_set ?_ GE424.out) | exact HB.out)); rintro e w4 ⟨v427, rfl, ho0, hi, hb, hk⟩; refine ⟨_, rfl, ?_⟩; have n0_ := Aside0.mk (KeepBut.blk hk (g' := gb424) (o := .cells #[.int .i64 0, .slice none 0 0, .int .i64 0, .bool false] 27 (0, 0)) (pk_ BK424.out) NB424_0.out (by simp)); have n1_ := Aside0.mk (Kd.R_lower ho0 (keep_size (w := w) (g := g) (row := none) (by repeat (first | (with_reducible first | exact HK.out | apply KeepBut.set_ | apply keep_drewN | apply keep_drew | apply keep_alloc | refine keep_far ?_ GW424.out _) | exact HK.out)))); have n2_ := Aside0.mk (KeepBut.trans (by repeat (first | (with_reducible first | exact HK.out | apply KeepBut.set_ | apply keep_drewN | apply keep_drew | apply keep_alloc | refine keep_far ?_ GW424.out _) | exact HK.out)) hk (.inl rfl)); have n3_ := Aside0.mk (hb); have n4_ := Aside0.mk (hi); clear BK424; clear HK; clear HB; clear HI0; have BK424 := n0_; have HO428 := n1_; have HK := n2_; have HB := n3_; have HI0 := n4_; clear n0_ n1_ n2_ n3_ n4_; (try clear hb); (try clear hb2); (try clear hk); (try clear hi); (try clear ho0)) | ((with_reducible refine gate_dst (N := 3) rfl ?_); refine box_event ?hg (N := 3) ?hd (cs := #[.int .i64 0, .slice none 0 0, .int .i64 0, .bool false]) (t := 27) ?hr ?_; (case hd => rfl); (case hg => rfl); (case hr => first | (go_simp; done) | (go_simp; rfl)); intro gb433 hg w5 hbox hb; have n0_ := Aside0.mk (Kd.R_below (pr_ HO428.out) hb); have n1_ := Aside0.mk (IsS73.below (by repeat (first | (with_reducible first | exact HI0.out | apply IsS73.alloc | apply IsS73.drewN | apply IsS73.drew | apply IsS73.set_1 | apply IsS73.set_2 | refine IsS73.far ?_ NB0_424.out _) | exact HI0.out)) hb); have n2_ := Aside0.mk (bb_ BK424.out hb); have n3_ := Aside0.mk (KeepBut.trans (by repeat (first | (with_reducible first | exact HK.out | apply KeepBut.set_ | apply keep_drewN | apply keep_drew | apply keep_alloc | refine keep_far ?_ GW424.out _) | exact HK.out)) (KeepBut.of_below hb g none) (.inl rfl)); have n4_ := Aside0.mk (below_step (by repeat (first | (with_reducible first | exact HB.out | apply below_alloc | apply pw_below_drewN | apply below_drew1 | refine below_set ?_ (IsS73.ge HI0.out) | refine below_set ?_ GE424.out) | exact HB.out)) hb); have n5_ := Aside0.mk (hbox); have n6_ := Aside0.mk ((by rw [hg]; exact (keep_size (w := w) (g := g) (row := none) (by repeat (first | (with_reducible first | exact HK.out | apply KeepBut.set_ | apply keep_drewN | apply keep_drew | apply keep_alloc | refine keep_far ?_ GW424.out _) | exact HK.out))) : w.heap.size ≤ gb433)); have n7_ := Aside0.mk ((Nat.le_trans HW0.out (by rw [hg]; exact (keep_size (w := w) (g := g) (row := none) (by repeat (first | (with_reducible first | exact HK.out | apply KeepBut.set_ | apply keep_drewN | apply keep_drew | apply keep_alloc | refine keep_far ?_ GW424.out _) | exact HK.out))) : w.heap.size ≤ gb433) : w0.heap.size ≤ gb433)); have n8_ := Aside0.mk ((by rw [hg]; exact Nat.ne_of_lt (blk_lt (pk_ BK424.out)) : gb424 ≠ gb433)); have n9_ := Aside0.mk ((by rw [hg]; exact Nat.ne_of_gt (blk_lt (pk_ BK424.out)) : gb433 ≠ gb424)); have n10_ := Aside0.mk ((by rw [hg]; exact Nat.ne_of_lt (IsS73.lt (show IsS73 w0 _ g s0_0 t431 t432 from by repeat (first | (with_reducible first | exact HI0.out | apply IsS73.alloc | apply IsS73.drewN | apply IsS73.drew | apply IsS73.set_1 | apply IsS73.set_2 | refine IsS73.far ?_ NB0_424.out _) | exact HI0.out))) : g ≠ gb433)); have n11_ := Aside0.mk ((by rw [hg]; exact Nat.ne_of_gt (IsS73.lt (show IsS73 w0 _ g s0_0 t431 t432 from by repeat (first | (with_reducible first | exact HI0.out | apply IsS73.alloc | apply IsS73.drewN | apply IsS73.drew | apply IsS73.set_1 | apply IsS73.set_2 | refine IsS73.far ?_ NB0_424.out _) | exact HI0.out))) : gb433 ≠ g)); clear HO428; clear HI0; clear BK424; clear HK; clear HB; have HO428 := n0_; have HI0 := n1_; have BK424 := n2_; have HK := n3_; have HB := n4_; have BK433 := n5_; have GW433 := n6_; have GE433 := n7_; have NB424_433 := n8_; have NB433_424 := n9_; have NB0_433 := n10_; have NB433_0 := n11_; clear n0_ n1_ n2_ n3_ n4_ n5_ n6_ n7_ n8_ n9_ n10_ n11_; clear hb hbox hg; have hnb6 := NB433_424.out; have hnc6 := NB424_433.out; have hnb7 := NB433_0.out; have hnc7 := NB0_433.out; have hcz8_0 : w5.cell? ⟨gb433, 0, none⟩ = some (.int .i64 0) := (blk_cell BK433.out 0).trans rfl; have hcz8_1 : w5.cell? ⟨gb433, 1, none⟩ = some (.slice none 0 0) := (blk_cell BK433.out 1).trans rfl; have hcz8_2 : w5.cell? ⟨gb433, 2, none⟩ = some (.int .i64 0) := (blk_cell BK433.out 2).trans rfl; have hcz8_3 : w5.cell? ⟨gb433, 3, none⟩ = some (.bool false) := (blk_cell BK433.out 3).trans rfl; have hfz8_0 := blk_frozen BK433.out 0; have hfz8_1 := blk_frozen BK433.out 1; have hfz8_2 := blk_frozen BK433.out 2; have hfz8_3 := blk_frozen BK433.out 3; obtain ⟨Ao9, co9, eo9⟩ := Kd.R_slice HO428.out; subst eo9))
  (try simp only [Act.put, List.setIfInBounds_toArray, List.set_cons_zero, List.set_cons_succ])
  have H := HS_.out
  clear HS_
  replace H := Option.bind_eq_some_iff.mp H
  obtain ⟨⟨t434, t435, t436⟩, A100, H⟩ := H
  (try dsimp only at H)
  have A10 := Aside0.mk A100
  clear A100
  have HS_ := Aside0.mk H
  clear H
  go_upto_if 8 with (first | ((with_reducible refine gate_callee (f := 66) rfl ?_); refine goesL_ (some 7) rfl rfl Try.func66 (by kernel_rfl) rfl #[.pointer (some ⟨g, 0, none⟩), .int .i64 10] rfl mp_ ?_; (with_reducible refine (spec_l1Below.calls g s0_0 t431 t432 10 t434 t435 t436 w0 _ ?side1 ?side2 A10.out).mono ?_); (case side1 => repeat (first | (with_reducible first | exact HI0.out | apply IsS73.alloc | apply IsS73.drewN | apply IsS73.drew | apply IsS73.set_1 | apply IsS73.set_2 | refine IsS73.far ?_ NB0_424.out _ | refine IsS73.far ?_ NB0_433.out _) | exact HI0.out)); (case side2 => repeat (first | (with_reducible first | exact HB.out | apply below_alloc | apply pw_below_drewN | apply below_drew1 | refine below_set ?_ (IsS73.ge HI0.out) | refine below_set ?_ GE424.out | refine below_set ?_ GE433.out) | exact HB.out)); rintro e w11 ⟨rfl, hi, hb, hk⟩; refine ⟨_, rfl, ?_⟩; have n0_ := Aside0.mk (KeepBut.blk hk (g' := gb424) (o := .cells #[.int .i64 0, .slice none 0 0, .int .i64 0, .bool false] 27 (0, 0)) (pp_ BK424.out) NB424_0.out (by simp)); have n1_ := Aside0.mk (Kd.R_mono (Kd.R_keep (IsS73.apart (show IsS73 w0 _ g s0_0 t431 t432 from by repeat (first | (with_reducible first | exact HI0.out | apply IsS73.alloc | apply IsS73.drewN | apply IsS73.drew | apply IsS73.set_1 | apply IsS73.set_2 | refine IsS73.far ?_ NB0_424.out _ | refine IsS73.far ?_ NB0_433.out _) | exact HI0.out)) (pr_ (rf4_ HO428.out BK433.out)) (by decide)) hk (fun _ h => h.2)) (fun _ h => h.1)); have n2_ := Aside0.mk (KeepBut.blk hk (g' := gb433) (o := .cells #[.int .i64 t425, .slice Ao9 t426.length co9, .int .i64 t429, .bool t430] 27 (0, 0)) (pp_ BK433.out) NB433_0.out (by simp)); have n3_ := Aside0.mk (KeepBut.trans (by repeat (first | (with_reducible first | exact HK.out | apply KeepBut.set_ | apply keep_drewN | apply keep_drew | apply keep_alloc | refine keep_far ?_ GW424.out _ | refine keep_far ?_ GW433.out _) | exact HK.out)) hk (.inl rfl)); have n4_ := Aside0.mk (hb); have n5_ := Aside0.mk (hi); clear BK424; clear HO428; clear BK433; clear HK; clear HB; clear HI0; have BK424 := n0_; have HO428 := n1_; have BK433 := n2_; have HK := n3_; have HB := n4_; have HI0 := n5_; clear n0_ n1_ n2_ n3_ n4_ n5_; (try clear hb); (try clear hb2); (try clear hk); (try clear hi)))
  (try simp only [Act.put, List.setIfInBounds_toArray, List.set_cons_zero, List.set_cons_succ])
  have H := HS_.out
  clear HS_
  by_cases c12 : t434 = 0
  · rw [if_pos c12] at H
    have c12b0 : (t434 == 0) = true := beq_iff_eq.mpr c12
    have c12b1 : (t434 != 0) = false := bne_eq_false_iff_eq.mpr c12
    clear c12
    (first | rw [c12b0] | (simp only [i64_w, i32_w]; rw [c12b0]) | rw [c12b1] | (have c_ := c12b1; rw [bne] at c_; rw [c_]; clear c_) | skip)
    obtain ⟨y437, hy437⟩ : ∃ y_ : List Int, y_ = (([0, 9, 10] : List Int)) := ⟨_, rfl⟩
    replace H : ((spec_l1Int.f s0_0 t435 t436 y437).bind fun bt440 => (some (bt440.1, t426, t429, t430, bt440.2.1, bt440.2.2))) = some (r1, r2, r3, r4, r5, r6) := by first | (rw [hy437]; with_reducible exact H) | (have H2_ := (Option.bind_some _ _).symm.trans H; rw [hy437]; with_reducible exact H2_) | (have H2_ := (Option.bind_some _ _).symm.trans H; with_reducible exact H2_) | with_reducible exact H | (rw [hy437]; exact H) | exact H
    have Ny437 := Aside0.mk hy437
    clear hy437
    replace H := Option.bind_eq_some_iff.mp H
    obtain ⟨⟨t440, t441, t442⟩, A130, H⟩ := H
    (try dsimp only at H)
    have A13 := Aside0.mk A130
    clear A130
    simp only [Option.some.injEq, Prod.mk.injEq] at H
    obtain ⟨rfl, rfl, rfl, rfl, rfl, rfl⟩ := H
    go_wp2_with (first | ((with_reducible refine gate_dst (N := 11) rfl ?_); refine Kd.R_lit (Kd.int .i64) _ 3 ?hg (N := 11) ?hd (xs := ([0, 9, 10] : List Int)) (inner := [.int .i64 0, .int .i64 9, .int .i64 10]) (ok := fun _ => True) (okp := fun _ => True) ?hr ?hp (fun _ hk => hk) trivial (Below.refl _ _) (Nat.le_refl _) (by simp) ?_; (case hd => rfl); (case hg => rfl); (case hr => first | (go_simp; done) | (go_simp; rfl)); (case hp => exact (Reps.one (show Kd.M (Kd.int .i64) _ _ _ 0 [.int .i64 0] from rfl) (Reps.one (show Kd.M (Kd.int .i64) _ _ _ 9 [.int .i64 9] from rfl) (Reps.one (show Kd.M (Kd.int .i64) _ _ _ 10 [.int .i64 10] from rfl) (Reps.none _ _))))); intro v438 w14 ho15 hb hg_ hnew_; clear hg_ hnew_; (first | rw [← Ny437.out] at ho15 | (simp only [Int.reduceToNat] at ho15; rw [← Ny437.out] at ho15)); have n0_ := Aside0.mk (Kd.R_elder' (pr_ HO428.out) (Kd.R_base ho15) hb); have n1_ := Aside0.mk (Kd.R_lower (Kd.R_new' ho15 (Kd.R_lt (pr_ HO428.out))) (keep_size (w := w) (g := g) (row := none) (by repeat (first | (with_reducible first | exact HK.out | apply KeepBut.set_ | apply keep_drewN | apply keep_drew | apply keep_alloc | refine keep_far ?_ GW424.out _ | refine keep_far ?_ GW433.out _) | exact HK.out)))); have n2_ := Aside0.mk (IsS73.below (by repeat (first | (with_reducible first | exact HI0.out | apply IsS73.alloc | apply IsS73.drewN | apply IsS73.drew | apply IsS73.set_1 | apply IsS73.set_2 | refine IsS73.far ?_ NB0_424.out _ | refine IsS73.far ?_ NB0_433.out _) | exact HI0.out)) hb); have n3_ := Aside0.mk (bb_ BK424.out hb); have n4_ := Aside0.mk (bb_ BK433.out hb); have n5_ := Aside0.mk (KeepBut.trans (by repeat (first | (with_reducible first | exact HK.out | apply KeepBut.set_ | apply keep_drewN | apply keep_drew | apply keep_alloc | refine keep_far ?_ GW424.out _ | refine keep_far ?_ GW433.out _) | exact HK.out)) (KeepBut.of_below hb g none) (.inl rfl)); have n6_ := Aside0.mk (below_step (by repeat (first | (with_reducible first | exact HB.out | apply below_alloc | apply pw_below_drewN | apply below_drew1 | refine below_set ?_ (IsS73.ge HI0.out) | refine below_set ?_ GE424.out | refine below_set ?_ GE433.out) | exact HB.out)) hb); clear HO428; clear HI0; clear BK424; clear BK433; clear HK; clear HB; have HO428 := n0_; have HO439 := n1_; have HI0 := n2_; have BK424 := n3_; have BK433 := n4_; have HK := n5_; have HB := n6_; clear n0_ n1_ n2_ n3_ n4_ n5_ n6_; clear hb ho15; obtain ⟨Ao16, co16, eo16⟩ := Kd.R_slice HO439.out; subst eo16) | ((with_reducible refine gate_callee (f := 63) rfl ?_); refine goesL_ (some 12) rfl rfl Try.func63 (by kernel_rfl) rfl #[.pointer (some ⟨g, 0, none⟩), .slice Ao16 y437.length co16] rfl mp_ ?_; (with_reducible refine (spec_l1Int.calls g s0_0 t435 t436 _ _ y437 t440 t441 t442 w0 _ ?side1 ?side2 ?side3 ?side4 ?side5 A13.out).mono ?_); (case side1 => repeat (first | (with_reducible first | exact HI0.out | apply IsS73.alloc | apply IsS73.drewN | apply IsS73.drew | apply IsS73.set_1 | apply IsS73.set_2 | refine IsS73.far ?_ NB0_424.out _ | refine IsS73.far ?_ NB0_433.out _) | exact HI0.out)); (case side2 => repeat (first | (with_reducible first | exact HB.out | apply below_alloc | apply pw_below_drewN | apply below_drew1 | refine below_set ?_ (IsS73.ge HI0.out) | refine below_set ?_ GE424.out | refine below_set ?_ GE433.out) | exact HB.out)); (case side3 => exact pc_ ((Kd.R_reads' HO439.out).2.2)); (case side4 => exact (Kd.R_reads' HO439.out).2.1); (case side5 => exact far_slice (IsS73.own_ne HI0.out HO439.out (by decide))); rintro e w17 ⟨rfl, hi, hb, hk⟩; refine ⟨_, rfl, ?_⟩; have n0_ := Aside0.mk (KeepBut.blk hk (g' := gb424) (o := .cells #[.int .i64 0, .slice none 0 0, .int .i64 0, .bool false] 27 (0, 0)) (pk_ BK424.out) NB424_0.out (by simp)); have n1_ := Aside0.mk (Kd.R_mono (Kd.R_keep (IsS73.apart (show IsS73 w0 _ g s0_0 t435 t436 from by repeat (first | (with_reducible first | exact HI0.out | apply IsS73.alloc | apply IsS73.drewN | apply IsS73.drew | apply IsS73.set_1 | apply IsS73.set_2 | refine IsS73.far ?_ NB0_424.out _ | refine IsS73.far ?_ NB0_433.out _) | exact HI0.out)) (pr_ HO428.out) (by decide)) hk (fun _ h => h.2)) (fun _ h => h.1)); have n2_ := Aside0.mk (KeepBut.blk hk (g' := gb433) (o := .cells #[.int .i64 t425, .slice Ao9 t426.length co9, .int .i64 t429, .bool t430] 27 (0, 0)) (pk_ BK433.out) NB433_0.out (by simp)); have n3_ := Aside0.mk (Kd.R_mono (Kd.R_keep (IsS73.apart (show IsS73 w0 _ g s0_0 t435 t436 from by repeat (first | (with_reducible first | exact HI0.out | apply IsS73.alloc | apply IsS73.drewN | apply IsS73.drew | apply IsS73.set_1 | apply IsS73.set_2 | refine IsS73.far ?_ NB0_424.out _ | refine IsS73.far ?_ NB0_433.out _) | exact HI0.out)) (pr_ HO439.out) (by decide)) hk (fun _ h => h.2)) (fun _ h => h.1)); have n4_ := Aside0.mk (KeepBut.trans (by repeat (first | (with_reducible first | exact HK.out | apply KeepBut.set_ | apply keep_drewN | apply keep_drew | apply keep_alloc | refine keep_far ?_ GW424.out _ | refine keep_far ?_ GW433.out _) | exact HK.out)) hk (.inl rfl)); have n5_ := Aside0.mk (hb); have n6_ := Aside0.mk (hi); clear BK424; clear HO428; clear BK433; clear HO439; clear HK; clear HB; clear HI0; have BK424 := n0_; have HO428 := n1_; have BK433 := n2_; have HO439 := n3_; have HK := n4_; have HB := n5_; have HI0 := n6_; clear n0_ n1_ n2_ n3_ n4_ n5_ n6_; (try clear hb); (try clear hb2); (try clear hk); (try clear hi); have hnb18 := NB433_424.out; have hnc18 := NB424_433.out; have hnb19 := NB433_0.out; have hnc19 := NB0_433.out; have hcz20_0 : w17.cell? ⟨gb433, 0, none⟩ = some (.int .i64 t425) := (blk_cell BK433.out 0).trans rfl; have hcz20_1 : w17.cell? ⟨gb433, 1, none⟩ = some (.slice Ao9 t426.length co9) := (blk_cell BK433.out 1).trans rfl; have hcz20_2 : w17.cell? ⟨gb433, 2, none⟩ = some (.int .i64 t429) := (blk_cell BK433.out 2).trans rfl; have hcz20_3 : w17.cell? ⟨gb433, 3, none⟩ = some (.bool t430) := (blk_cell BK433.out 3).trans rfl; have hfz20_0 := blk_frozen BK433.out 0; have hfz20_1 := blk_frozen BK433.out 1; have hfz20_2 := blk_frozen BK433.out 2; have hfz20_3 := blk_frozen BK433.out 3; have hnb21 := NB424_0.out; have hnc21 := NB0_424.out; have hcz22_0 : w17.cell? ⟨gb424, 0, none⟩ = some (.int .i64 0) := (blk_cell BK424.out 0).trans rfl; have hcz22_1 : w17.cell? ⟨gb424, 1, none⟩ = some (.slice none 0 0) := (blk_cell BK424.out 1).trans rfl; have hcz22_2 : w17.cell? ⟨gb424, 2, none⟩ = some (.int .i64 0) := (blk_cell BK424.out 2).trans rfl; have hcz22_3 : w17.cell? ⟨gb424, 3, none⟩ = some (.bool false) := (blk_cell BK424.out 3).trans rfl; have hfz22_0 := blk_frozen BK424.out 0; have hfz22_1 := blk_frozen BK424.out 1; have hfz22_2 := blk_frozen BK424.out 2; have hfz22_3 := blk_frozen BK424.out 3))
    refine bodyPost_ret (results_cell_row rfl _ _ gb424 27 #[.int .i64 t440, .slice Ao9 t426.length co9, .int .i64 t429, .bool t430] (0, 0) _ rfl (pp_ BK424.out) Try.underlying27 rfl (by kernel_rfl)) rfl ?_
    exact ⟨_, er_, pr_ (Kd.R_mono (Kd.R_far (p := ⟨gb424, 3, none⟩) (Kd.R_far (p := ⟨gb424, 2, none⟩) (Kd.R_far (p := ⟨gb424, 1, none⟩) (Kd.R_far (p := ⟨gb424, 0, none⟩) (Kd.R_far (p := ⟨gb433, 0, none⟩) (Kd.R_types (Kd.R_types HO428.out BK433.out (by decide)) BK424.out (by decide)) (fun _ hk => hk.1.2) (.int .i64 t440)) (fun _ hk => hk.2) (.int .i64 t440)) (fun _ hk => hk.2) (.slice Ao9 t426.length co9)) (fun _ hk => hk.2) (.int .i64 t429)) (fun _ hk => hk.2) (.bool t430)) (fun _ hk => trivial)), by repeat (first | (with_reducible first | exact HI0.out | apply IsS73.alloc | apply IsS73.drewN | apply IsS73.drew | apply IsS73.set_1 | apply IsS73.set_2 | refine IsS73.far ?_ NB0_424.out _ | refine IsS73.far ?_ NB0_433.out _) | exact HI0.out), by repeat (first | (with_reducible first | exact HB.out | apply below_alloc | apply pw_below_drewN | apply below_drew1 | refine below_set ?_ (IsS73.ge HI0.out) | refine below_set ?_ GE424.out | refine below_set ?_ GE433.out) | exact HB.out), by repeat (first | (with_reducible first | exact HK.out | apply KeepBut.set_ | apply keep_drewN | apply keep_drew | apply keep_alloc | refine keep_far ?_ GW424.out _ | refine keep_far ?_ GW433.out _) | exact HK.out)⟩
  rw [if_neg c12] at H
  have c12b0 : (t434 == 0) = false := beq_eq_false_iff_ne.mpr c12
  have c12b1 : (t434 != 0) = true := bne_iff_ne.mpr c12
  (first | rw [c12b0] | (simp only [i64_w, i32_w]; rw [c12b0]) | rw [c12b1] | (have c_ := c12b1; rw [bne] at c_; rw [c_]; clear c_) | skip)
  by_cases c23 : t434 = 1
  · rw [if_pos c23] at H
    have c23b0 : (t434 == 1) = true := beq_iff_eq.mpr c23
    have c23b1 : (t434 != 1) = false := bne_eq_false_iff_eq.mpr c23
    clear c23
    obtain ⟨y443, hy443⟩ : ∃ y_ : List Int, y_ = (([0, 101, 100] : List Int)) := ⟨_, rfl⟩
    replace H : ((spec_l1Int.f s0_0 t435 t436 y443).bind fun bt446 => (if 0 < (t426.length : Int) then (some (t425, (t426.set (0 : Int).toNat bt446.1), t429, t430, bt446.2.1, bt446.2.2)) else (none))) = some (r1, r2, r3, r4, r5, r6) := by first | (rw [hy443]; with_reducible exact H) | (have H2_ := (Option.bind_some _ _).symm.trans H; rw [hy443]; with_reducible exact H2_) | (have H2_ := (Option.bind_some _ _).symm.trans H; with_reducible exact H2_) | with_reducible exact H | (rw [hy443]; exact H) | exact H
    have Ny443 := Aside0.mk hy443
    clear hy443
    replace H := Option.bind_eq_some_iff.mp H
    obtain ⟨⟨t446, t447, t448⟩, A240, H⟩ := H
    (try dsimp only at H)
    have A24 := Aside0.mk A240
    clear A240
    by_cases c25 : 0 < (t426.length : Int)
    rotate_left
    · rw [if_neg c25] at H
      exact absurd H (by simp)
    rw [if_pos c25] at H
    have c25b0 : decide (0 < (t426.length : Int)) = true := decide_eq_true c25
    have c25b1 : decide (0 < t426.length) = true := decide_eq_true (by omega)
    clear c25
    obtain ⟨y449, hy449⟩ : ∃ y_ : List Int, y_ = (t426.set (0 : Int).toNat t446) := ⟨_, rfl⟩
    replace H : (some (t425, y449, t429, t430, t447, t448)) = some (r1, r2, r3, r4, r5, r6) := by first | (rw [hy449]; with_reducible exact H) | (have H2_ := (Option.bind_some _ _).symm.trans H; rw [hy449]; with_reducible exact H2_) | (have H2_ := (Option.bind_some _ _).symm.trans H; with_reducible exact H2_) | with_reducible exact H | (rw [hy449]; exact H) | exact H
    have Ny449 := Aside0.mk hy449
    clear hy449
    simp only [Option.some.injEq, Prod.mk.injEq] at H
    obtain ⟨rfl, rfl, rfl, rfl, rfl, rfl⟩ := H
    try go_wp2
    have n0_ := Aside0.mk (Kd.R_drew HO428.out)
    have n1_ := Aside0.mk (blk_drew BK424.out)
    have n2_ := Aside0.mk (blk_drew BK433.out)
    have n3_ := Aside0.mk (IsS73.drew HI0.out)
    have n4_ := Aside0.mk (keep_drew HK.out)
    have n5_ := Aside0.mk (below_drew1 HB.out)
    clear HO428
    clear BK424
    clear BK433
    clear HI0
    clear HK
    clear HB
    have HO428 := n0_
    have BK424 := n1_
    have BK433 := n2_
    have HI0 := n3_
    have HK := n4_
    have HB := n5_
    clear n0_ n1_ n2_ n3_ n4_ n5_
    refine start_ (n := 7) (S := fun w' => w'.cell? ⟨gb433, 0, none⟩ = some (.int .i64 t425) ∧ w'.cell? ⟨gb433, 1, none⟩ = some (.slice Ao9 t426.length co9) ∧ w'.cell? ⟨gb433, 2, none⟩ = some (.int .i64 t429) ∧ w'.cell? ⟨gb433, 3, none⟩ = some (.bool t430)) (ds := [6]) #[false, false, false, false, false, false, false] (by kernel_rfl) rfl rfl ⟨(blk_cell BK433.out 0).trans rfl, (blk_cell BK433.out 1).trans rfl, (blk_cell BK433.out 2).trans rfl, (blk_cell BK433.out 3).trans rfl⟩ (fun hHeld => ?_)
    generalize w11.drew = w27 at HO428 BK424 BK433 HI0 HK HB hHeld ⊢
    refine pure_ (i := 0) (N := some 16) (v := ?_) (a' := ?_) #[true, false, false, false, false, false, false] rfl rfl (by kernel_rfl) (fun _ _ _ h => h) (Or.inl ⟨by rfl, ?_⟩) ?_ ?_
    rotate_left
    · intro w'
      go_simp
      (try (simp only [Instr.field]; simp only [underlying, hu27]; go_simp; simp only [asAgg]; go_simp))
      with_reducible rfl
    rotate_left
    · simp only [Act.put, List.setIfInBounds_toArray, List.set_cons_zero, List.set_cons_succ, i64_w, i32_w]
      rfl
    refine pure_ (i := 2) (N := some 18) (v := ?_) (a' := ?_) #[true, false, true, false, false, false, false] rfl rfl (by kernel_rfl) (fun _ _ _ h => h) (Or.inl ⟨by rfl, ?_⟩) ?_ ?_
    rotate_left
    · intro w'
      go_simp
      (try (simp only [Instr.field]; simp only [underlying, hu27]; go_simp; simp only [asAgg]; go_simp))
      with_reducible rfl
    rotate_left
    · simp only [Act.put, List.setIfInBounds_toArray, List.set_cons_zero, List.set_cons_succ, i64_w, i32_w]
      rfl
    refine take_ (i := 1) (N := some 17) (v := ?_) (a' := ?_) #[true, true, true, false, false, false, false] rfl rfl (by kernel_rfl) (fun _ _ _ h => h) (Or.inl ⟨by rfl, ?_⟩) hHeld ?_ ?_
    rotate_left
    · rintro w' ⟨s0, s1, s2, s3⟩
      go_simp
      (try (simp only [Instr.field]; simp only [underlying, hu27]; go_simp; simp only [asAgg]; go_simp))
      with_reducible rfl
    rotate_left
    · simp only [Act.put, List.setIfInBounds_toArray, List.set_cons_zero, List.set_cons_succ, i64_w, i32_w]
      rfl
    refine one_ (i := 3) (N := some 19) #[true, true, true, true, false, false, false] rfl rfl (by kernel_rfl) (by decide) (fun K hK => ?_)
    refine Kd.R_lit_step (Kd.int .i64) _ 3 ?hg (N := 19) ?hd (xs := ([0, 101, 100] : List Int)) (inner := [.int .i64 0, .int .i64 101, .int .i64 100]) (ok := fun _ => True) (okp := fun _ => True) ?hr ?hp (fun _ hk => hk) trivial (Below.refl _ _) (Nat.le_refl _) (by simp) ?_; (case hd => rfl); (case hg => rfl); (case hr => first | (go_simp; done) | (go_simp; rfl)); (case hp => exact (Reps.one (show Kd.M (Kd.int .i64) _ _ _ 0 [.int .i64 0] from rfl) (Reps.one (show Kd.M (Kd.int .i64) _ _ _ 101 [.int .i64 101] from rfl) (Reps.one (show Kd.M (Kd.int .i64) _ _ _ 100 [.int .i64 100] from rfl) (Reps.none _ _)))))
    intro v444 w28 ho29 hb hg_ hnew_
    clear hg_ hnew_
    (first | rw [← Ny443.out] at ho29 | (simp only [Int.reduceToNat] at ho29; rw [← Ny443.out] at ho29))
    have n0_ := Aside0.mk (Kd.R_elder' (pr_ HO428.out) (Kd.R_base ho29) hb)
    have n1_ := Aside0.mk (Kd.R_lower (Kd.R_new' ho29 (Kd.R_lt (pr_ HO428.out))) (keep_size (w := w) (g := g) (row := none) (by repeat (first | (with_reducible first | exact HK.out | apply KeepBut.set_ | apply keep_drewN | apply keep_drew | apply keep_alloc | refine keep_far ?_ GW424.out _ | refine keep_far ?_ GW433.out _) | exact HK.out))))
    have n2_ := Aside0.mk (IsS73.below (by repeat (first | (with_reducible first | exact HI0.out | apply IsS73.alloc | apply IsS73.drewN | apply IsS73.drew | apply IsS73.set_1 | apply IsS73.set_2 | refine IsS73.far ?_ NB0_424.out _ | refine IsS73.far ?_ NB0_433.out _) | exact HI0.out)) hb)
    have n3_ := Aside0.mk (bb_ BK424.out hb)
    have n4_ := Aside0.mk (bb_ BK433.out hb)
    have n5_ := Aside0.mk (KeepBut.trans (by repeat (first | (with_reducible first | exact HK.out | apply KeepBut.set_ | apply keep_drewN | apply keep_drew | apply keep_alloc | refine keep_far ?_ GW424.out _ | refine keep_far ?_ GW433.out _) | exact HK.out)) (KeepBut.of_below hb g none) (.inl rfl))
    have n6_ := Aside0.mk (below_step (by repeat (first | (with_reducible first | exact HB.out | apply below_alloc | apply pw_below_drewN | apply below_drew1 | refine below_set ?_ (IsS73.ge HI0.out) | refine below_set ?_ GE424.out | refine below_set ?_ GE433.out) | exact HB.out)) hb)
    clear HO428
    clear HI0
    clear BK424
    clear BK433
    clear HK
    clear HB
    have HO428 := n0_
    have HO445 := n1_
    have HI0 := n2_
    have BK424 := n3_
    have BK433 := n4_
    have HK := n5_
    have HB := n6_
    clear n0_ n1_ n2_ n3_ n4_ n5_ n6_
    clear hb ho29
    obtain ⟨Ao30, co30, eo30⟩ := Kd.R_slice HO445.out
    (first | subst eo30 | (injection eo30 with f1_ f2_ f3_; have f4_ := f1_.symm; have f5_ := f3_.symm; clear f1_ f2_ f3_; subst f4_; subst f5_))
    refine hK.out _ _ ⟨(blk_cell BK433.out 0).trans rfl, (blk_cell BK433.out 1).trans rfl, (blk_cell BK433.out 2).trans rfl, (blk_cell BK433.out 3).trans rfl⟩ (fun hHeld => ?_)
    clear hK K
    refine norm_ (a' := ?_) ?_ ?_
    rotate_left
    · show Act.put _ (some 19) _ = _
      simp only [Act.put, List.setIfInBounds_toArray, List.set_cons_zero, List.set_cons_succ, i64_w, i32_w]
      rfl
    refine one_ (i := 4) (N := some 20) #[true, true, true, true, true, false, false] rfl rfl (by kernel_rfl) (by decide) (fun K hK => ?_)
    refine goes_ Try.func63 (by kernel_rfl) rfl #[.pointer (some ⟨g, 0, none⟩), .slice Ao30 y443.length co30] (by rfl) rfl rfl mp_ ?_
    with_reducible refine (spec_l1Int.calls g s0_0 t435 t436 _ _ y443 t446 t447 t448 w0 _ ?side1 ?side2 ?side3 ?side4 ?side5 A24.out).mono ?_
    (case side1 => repeat (first | (with_reducible first | exact HI0.out | apply IsS73.alloc | apply IsS73.drewN | apply IsS73.drew | apply IsS73.set_1 | apply IsS73.set_2 | refine IsS73.far ?_ NB0_424.out _ | refine IsS73.far ?_ NB0_433.out _) | exact HI0.out))
    (case side2 => repeat (first | (with_reducible first | exact HB.out | apply below_alloc | apply pw_below_drewN | apply below_drew1 | refine below_set ?_ (IsS73.ge HI0.out) | refine below_set ?_ GE424.out | refine below_set ?_ GE433.out) | exact HB.out))
    (case side3 => exact pc_ ((Kd.R_reads' HO445.out).2.2))
    (case side4 => exact (Kd.R_reads' HO445.out).2.1)
    (case side5 => exact far_slice (IsS73.own_ne HI0.out HO445.out (by decide)))
    rintro e w31 ⟨rfl, hi, hb, hk⟩
    refine ⟨_, rfl, ?_⟩
    have n0_ := Aside0.mk (KeepBut.blk hk (g' := gb424) (o := .cells #[.int .i64 0, .slice none 0 0, .int .i64 0, .bool false] 27 (0, 0)) (pk_ BK424.out) NB424_0.out (by simp))
    have n1_ := Aside0.mk (Kd.R_mono (Kd.R_keep (IsS73.apart (show IsS73 w0 _ g s0_0 t435 t436 from by repeat (first | (with_reducible first | exact HI0.out | apply IsS73.alloc | apply IsS73.drewN | apply IsS73.drew | apply IsS73.set_1 | apply IsS73.set_2 | refine IsS73.far ?_ NB0_424.out _ | refine IsS73.far ?_ NB0_433.out _) | exact HI0.out)) (pr_ HO428.out) (by decide)) hk (fun _ h => h.2)) (fun _ h => h.1))
    have n2_ := Aside0.mk (KeepBut.blk hk (g' := gb433) (o := .cells #[.int .i64 t425, .slice Ao9 t426.length co9, .int .i64 t429, .bool t430] 27 (0, 0)) (pk_ BK433.out) NB433_0.out (by simp))
    have n3_ := Aside0.mk (Kd.R_mono (Kd.R_keep (IsS73.apart (show IsS73 w0 _ g s0_0 t435 t436 from by repeat (first | (with_reducible first | exact HI0.out | apply IsS73.alloc | apply IsS73.drewN | apply IsS73.drew | apply IsS73.set_1 | apply IsS73.set_2 | refine IsS73.far ?_ NB0_424.out _ | refine IsS73.far ?_ NB0_433.out _) | exact HI0.out)) (pr_ HO445.out) (by decide)) hk (fun _ h => h.2)) (fun _ h => h.1))
    have n4_ := Aside0.mk (KeepBut.trans (by repeat (first | (with_reducible first | exact HK.out | apply KeepBut.set_ | apply keep_drewN | apply keep_drew | apply keep_alloc | refine keep_far ?_ GW424.out _ | refine keep_far ?_ GW433.out _) | exact HK.out)) hk (.inl rfl))
    have n5_ := Aside0.mk (hb)
    have n6_ := Aside0.mk (hi)
    clear BK424
    clear HO428
    clear BK433
    clear HO445
    clear HK
    clear HB
    clear HI0
    have BK424 := n0_
    have HO428 := n1_
    have BK433 := n2_
    have HO445 := n3_
    have HK := n4_
    have HB := n5_
    have HI0 := n6_
    clear n0_ n1_ n2_ n3_ n4_ n5_ n6_
    (try clear hb)
    (try clear hb2)
    (try clear hk)
    (try clear hi)
    have p26 : 0 ≤ (0 : Int) := (by omega)
    have q26 : (0 : Int) < ((t426.length : Int) : Int) := dt_
    have qi26 : (0 < t426.length) = True := eq_true (by omega)
    obtain ⟨go26, co26, eo26, gb26, gl26, cl26, HG26⟩ := Kd.R_form HO428.out (by omega)
    (first | cases eo26 | (injection eo26 with ea_ en_ ec_; (first | subst ea_ | (injection ea_ with ea_; subst ea_)); subst ec_; clear en_))
    have GB26 := Aside0.mk gb26
    have GG26 := Aside0.mk HG26
    clear gb26 gl26 HG26
    obtain ⟨hx26_0, hf26_0⟩ := Kd.R_celln 0 HO428.out (0 : Int) p26 q26
    (try rw [show ((0 : Int)).toNat = 0 from rfl] at hx26_0)
    (try simp only [Nat.reduceMul, Nat.zero_mul, Nat.zero_add, Nat.reduceAdd] at hx26_0)
    (try rw [show ((0 : Int)).toNat = 0 from rfl] at hf26_0)
    (try simp only [Nat.reduceMul, Nat.zero_mul, Nat.zero_add, Nat.reduceAdd] at hf26_0)
    replace p26 := eq_true p26
    replace q26 := eq_true q26
    have HN0_go26 := Aside0.mk (show g ≠ go26 from by have h_ := IsS73.own_ne HI0.out HO428.out (by decide); intro e_; exact h_ (by rw [e_]; rfl))
    have HP32 := Kd.R_putn HO428.out (0 : Int) t446
    rw [← Ny449.out] at HP32
    have HQ32 := Aside0.mk HP32
    clear HP32
    refine hK.out _ _ ⟨(blk_cell BK433.out 0).trans rfl, (blk_cell BK433.out 1).trans rfl, (blk_cell BK433.out 2).trans rfl, (blk_cell BK433.out 3).trans rfl⟩ (fun hHeld => ?_)
    clear hK K
    refine norm_ (a' := ?_) ?_ ?_
    rotate_left
    · show Act.put _ (some 20) _ = _
      simp only [Act.put, List.setIfInBounds_toArray, List.set_cons_zero, List.set_cons_succ, i64_w, i32_w]
      rfl
    refine pure_ (i := 5) (N := some 21) (v := ?_) (a' := ?_) #[true, true, true, true, true, true, false] rfl rfl (by kernel_rfl) (fun _ _ _ h => h) (Or.inl ⟨by rfl, ?_⟩) ?_ ?_
    rotate_left
    · intro w'
      go_simp
      (try (simp only [Instr.field]; simp only [underlying, hu27]; go_simp; simp only [asAgg]; go_simp))
      with_reducible rfl
    rotate_left
    · simp only [Act.put, List.setIfInBounds_toArray, List.set_cons_zero, List.set_cons_succ, i64_w, i32_w]
      rfl
    refine last_ (i := 6) (N := none) #[true, true, true, true, true, true, true] rfl rfl (by kernel_rfl) (by decide) (fun K hK => ?_)
    refine skip_ (w1 := ?_) (by rfl) rfl ?_ ?_
    rotate_left
    · go_simp
      rfl
    refine hK.out _ _ ?_
    clear hK K
    refine done_ (by kernel_rfl) ?_
    have n0_ : Aside0 (Kd.R (Kd.int .i64) 3 (w31.setCell ⟨go26, 0, none⟩ (.int .i64 t446)) w.heap.size (fun k_ => some k_ ≠ (.slice Ao30 y443.length co30 : Value).ownBlock) (.slice (some ⟨go26, 0, none⟩) t426.length co9) y449) := ⟨pr_ (Kd.R_mono HQ32.out (fun _ hk => hk.2))⟩
    have n1_ : Aside0 (Kd.R (Kd.int .i64) 3 (w31.setCell ⟨go26, 0, none⟩ (.int .i64 t446)) w.heap.size (fun k_ => some k_ ≠ (.slice (some ⟨go26, 0, none⟩) t426.length co9 : Value).ownBlock) (.slice Ao30 y443.length co30) y443) := ⟨by (with_reducible repeat (first | apply Kd.R_alloc | apply Kd.R_drewN | apply Kd.R_drew)); exact Kd.R_mono (Kd.R_far (p := ⟨go26, 0, none⟩) (Kd.R_mono HO445.out (fun k_ hk => (⟨hk, fun e_ => hk.2 (by rw [e_]; rfl)⟩ : _ ∧ k_ ≠ go26))) (fun _ hk => hk.2) (.int .i64 t446)) (fun _ hk => hk.1.2)⟩
    have n2_ : Aside0 ((w31.setCell ⟨go26, 0, none⟩ (.int .i64 t446)).heap[gb424]? = some (.cells #[.int .i64 0, .slice none 0 0, .int .i64 0, .bool false] 27 (0, 0))) := ⟨by (with_reducible repeat (first | refine blk_drewN ?_ _ | refine blk_drew ?_ | refine blk_alloc ?_ _)); refine blk_far ?_ (by have h_ := Kd.R_ne HO428.out BK424.out (by decide); intro e_; exact h_ (by rw [e_]; rfl)) _; exact pk_ BK424.out⟩
    have n3_ : Aside0 ((w31.setCell ⟨go26, 0, none⟩ (.int .i64 t446)).heap[gb433]? = some (.cells #[.int .i64 t425, .slice (some ⟨go26, 0, none⟩) t426.length co9, .int .i64 t429, .bool t430] 27 (0, 0))) := ⟨by (with_reducible repeat (first | refine blk_drewN ?_ _ | refine blk_drew ?_ | refine blk_alloc ?_ _)); refine blk_far ?_ (by have h_ := Kd.R_ne HO428.out BK433.out (by decide); intro e_; exact h_ (by rw [e_]; rfl)) _; exact pk_ BK433.out⟩
    have n4_ : Aside0 (IsS73 w0 (w31.setCell ⟨go26, 0, none⟩ (.int .i64 t446)) g s0_0 t447 t448) := ⟨by repeat (first | (with_reducible first | exact HI0.out | apply IsS73.alloc | apply IsS73.drewN | apply IsS73.drew | apply IsS73.set_1 | apply IsS73.set_2 | refine IsS73.far ?_ HN0_go26.out _ | refine IsS73.far ?_ NB0_424.out _ | refine IsS73.far ?_ NB0_433.out _) | exact HI0.out)⟩
    have n5_ : Aside0 (KeepBut w (w31.setCell ⟨go26, 0, none⟩ (.int .i64 t446)) g none) := ⟨by repeat (first | (with_reducible first | exact HK.out | apply KeepBut.set_ | apply keep_drewN | apply keep_drew | apply keep_alloc | refine keep_far ?_ GB26.out _ | refine keep_far ?_ GW424.out _ | refine keep_far ?_ GW433.out _) | exact HK.out)⟩
    have n6_ : Aside0 (Below w0.heap.size w0 (w31.setCell ⟨go26, 0, none⟩ (.int .i64 t446))) := ⟨by repeat (first | (with_reducible first | exact HB.out | apply below_alloc | apply pw_below_drewN | apply below_drew1 | refine below_set ?_ (Nat.le_trans HL.out GB26.out) | refine below_set ?_ (IsS73.ge HI0.out) | refine below_set ?_ GE424.out | refine below_set ?_ GE433.out) | exact HB.out)⟩
    (try clear HO428)
    (try clear HO445)
    (try clear BK424)
    (try clear BK433)
    (try clear HI0)
    (try clear HK)
    (try clear HB)
    generalize (w31.setCell ⟨go26, 0, none⟩ (.int .i64 t446)) = w33 at n0_ n1_ n2_ n3_ n4_ n5_ n6_ ⊢
    have HO428 := n0_
    have HO445 := n1_
    have BK424 := n2_
    have BK433 := n3_
    have HI0 := n4_
    have HK := n5_
    have HB := n6_
    clear n0_ n1_ n2_ n3_ n4_ n5_ n6_
    have hnb34 := NB433_424.out
    have hnc34 := NB424_433.out
    have hnb35 := NB433_0.out
    have hnc35 := NB0_433.out
    obtain ⟨hcz36_0, hcz36_1, hcz36_2, hcz36_3, hfz36_0, hfz36_1, hfz36_2, hfz36_3⟩ := bc4_ BK433.out
    have hnb37 := NB424_0.out
    have hnc37 := NB0_424.out
    obtain ⟨hcz38_0, hcz38_1, hcz38_2, hcz38_3, hfz38_0, hfz38_1, hfz38_2, hfz38_3⟩ := bc4_ BK424.out
    try go_wp2
    refine bodyPost_ret (results_cell_row rfl _ _ gb424 27 #[.int .i64 t425, .slice (some ⟨go26, 0, none⟩) t426.length co9, .int .i64 t429, .bool t430] (0, 0) _ rfl (pp_ BK424.out) Try.underlying27 rfl (by kernel_rfl)) rfl ?_
    exact ⟨_, er_, pr_ (Kd.R_mono (rf4_ HO428.out BK424.out) (fun _ hk => trivial)), by repeat (first | (with_reducible first | exact HI0.out | apply IsS73.alloc | apply IsS73.drewN | apply IsS73.drew | apply IsS73.set_1 | apply IsS73.set_2 | refine IsS73.far ?_ NB0_424.out _ | refine IsS73.far ?_ NB0_433.out _) | exact HI0.out), by repeat (first | (with_reducible first | exact HB.out | apply below_alloc | apply pw_below_drewN | apply below_drew1 | refine below_set ?_ (IsS73.ge HI0.out) | refine below_set ?_ GE424.out | refine below_set ?_ GE433.out) | exact HB.out), by repeat (first | (with_reducible first | exact HK.out | apply KeepBut.set_ | apply keep_drewN | apply keep_drew | apply keep_alloc | refine keep_far ?_ GW424.out _ | refine keep_far ?_ GW433.out _) | exact HK.out)⟩
  rw [if_neg c23] at H
  have c23b0 : (t434 == 1) = false := beq_eq_false_iff_ne.mpr c23
  have c23b1 : (t434 != 1) = true := bne_iff_ne.mpr c23
  by_cases c39 : t434 = 2
  · rw [if_pos c39] at H
    have c39b0 : (t434 == 2) = true := beq_iff_eq.mpr c39
    have c39b1 : (t434 != 2) = false := bne_eq_false_iff_eq.mpr c39
    clear c39
    obtain ⟨y450, hy450⟩ : ∃ y_ : List Int, y_ = (([(-1), (t426.length : Int), 9223372036854775807] : List Int)) := ⟨_, rfl⟩
    replace H : ((spec_l1Int.f s0_0 t435 t436 y450).bind fun bt453 => (some (t425, t426, bt453.1, t430, bt453.2.1, bt453.2.2))) = some (r1, r2, r3, r4, r5, r6) := by first | (rw [hy450]; with_reducible exact H) | (have H2_ := (Option.bind_some _ _).symm.trans H; rw [hy450]; with_reducible exact H2_) | (have H2_ := (Option.bind_some _ _).symm.trans H; with_reducible exact H2_) | with_reducible exact H | (rw [hy450]; exact H) | exact H
    have Ny450 := Aside0.mk hy450
    clear hy450
    replace H := Option.bind_eq_some_iff.mp H
    obtain ⟨⟨t453, t454, t455⟩, A400, H⟩ := H
    (try dsimp only at H)
    have A40 := Aside0.mk A400
    clear A400
    simp only [Option.some.injEq, Prod.mk.injEq] at H
    obtain ⟨rfl, rfl, rfl, rfl, rfl, rfl⟩ := H
    have hnb41 := NB433_424.out
    have hnc41 := NB424_433.out
    have hnb42 := NB433_0.out
    have hnc42 := NB0_433.out
    obtain ⟨hcz43_0, hcz43_1, hcz43_2, hcz43_3, hfz43_0, hfz43_1, hfz43_2, hfz43_3⟩ := bc4_ BK433.out
    go_wp2_with (first | ((with_reducible refine gate_dst (N := 28) rfl ?_); refine Kd.R_lit (Kd.int .i64) _ 3 ?hg (N := 28) ?hd (xs := ([(-1), (t426.length : Int), 9223372036854775807] : List Int)) (inner := [.int .i64 (-1), .int .i64 (t426.length : Int), .int .i64 9223372036854775807]) (ok := fun _ => True) (okp := fun _ => True) ?hr ?hp (fun _ hk => hk) trivial (Below.refl _ _) (Nat.le_refl _) (by simp) ?_; (case hd => rfl); (case hg => rfl); (case hr => first | (go_simp; done) | (go_simp; rfl)); (case hp => exact (Reps.one (show Kd.M (Kd.int .i64) _ _ _ (-1) [.int .i64 (-1)] from rfl) (Reps.one (show Kd.M (Kd.int .i64) _ _ _ (t426.length : Int) [.int .i64 (t426.length : Int)] from rfl) (Reps.one (show Kd.M (Kd.int .i64) _ _ _ 9223372036854775807 [.int .i64 9223372036854775807] from rfl) (Reps.none _ _))))); intro v451 w44 ho45 hb hg_ hnew_; clear hg_ hnew_; (first | rw [← Ny450.out] at ho45 | (simp only [Int.reduceToNat] at ho45; rw [← Ny450.out] at ho45)); have n0_ := Aside0.mk (Kd.R_elder' (pr_ HO428.out) (Kd.R_base ho45) hb); have n1_ := Aside0.mk (Kd.R_lower (Kd.R_new' ho45 (Kd.R_lt (pr_ HO428.out))) (keep_size (w := w) (g := g) (row := none) (by repeat (first | (with_reducible first | exact HK.out | apply KeepBut.set_ | apply keep_drewN | apply keep_drew | apply keep_alloc | refine keep_far ?_ GW424.out _ | refine keep_far ?_ GW433.out _) | exact HK.out)))); have n2_ := Aside0.mk (IsS73.below (by repeat (first | (with_reducible first | exact HI0.out | apply IsS73.alloc | apply IsS73.drewN | apply IsS73.drew | apply IsS73.set_1 | apply IsS73.set_2 | refine IsS73.far ?_ NB0_424.out _ | refine IsS73.far ?_ NB0_433.out _) | exact HI0.out)) hb); have n3_ := Aside0.mk (bb_ BK424.out hb); have n4_ := Aside0.mk (bb_ BK433.out hb); have n5_ := Aside0.mk (KeepBut.trans (by repeat (first | (with_reducible first | exact HK.out | apply KeepBut.set_ | apply keep_drewN | apply keep_drew | apply keep_alloc | refine keep_far ?_ GW424.out _ | refine keep_far ?_ GW433.out _) | exact HK.out)) (KeepBut.of_below hb g none) (.inl rfl)); have n6_ := Aside0.mk (below_step (by repeat (first | (with_reducible first | exact HB.out | apply below_alloc | apply pw_below_drewN | apply below_drew1 | refine below_set ?_ (IsS73.ge HI0.out) | refine below_set ?_ GE424.out | refine below_set ?_ GE433.out) | exact HB.out)) hb); clear HO428; clear HI0; clear BK424; clear BK433; clear HK; clear HB; have HO428 := n0_; have HO452 := n1_; have HI0 := n2_; have BK424 := n3_; have BK433 := n4_; have HK := n5_; have HB := n6_; clear n0_ n1_ n2_ n3_ n4_ n5_ n6_; clear hb ho45; obtain ⟨Ao46, co46, eo46⟩ := Kd.R_slice HO452.out; subst eo46) | ((with_reducible refine gate_callee (f := 63) rfl ?_); refine goesL_ (some 29) rfl rfl Try.func63 (by kernel_rfl) rfl #[.pointer (some ⟨g, 0, none⟩), .slice Ao46 y450.length co46] rfl mp_ ?_; (with_reducible refine (spec_l1Int.calls g s0_0 t435 t436 _ _ y450 t453 t454 t455 w0 _ ?side1 ?side2 ?side3 ?side4 ?side5 A40.out).mono ?_); (case side1 => repeat (first | (with_reducible first | exact HI0.out | apply IsS73.alloc | apply IsS73.drewN | apply IsS73.drew | apply IsS73.set_1 | apply IsS73.set_2 | refine IsS73.far ?_ NB0_424.out _ | refine IsS73.far ?_ NB0_433.out _) | exact HI0.out)); (case side2 => repeat (first | (with_reducible first | exact HB.out | apply below_alloc | apply pw_below_drewN | apply below_drew1 | refine below_set ?_ (IsS73.ge HI0.out) | refine below_set ?_ GE424.out | refine below_set ?_ GE433.out) | exact HB.out)); (case side3 => exact pc_ ((Kd.R_reads' HO452.out).2.2)); (case side4 => exact (Kd.R_reads' HO452.out).2.1); (case side5 => exact far_slice (IsS73.own_ne HI0.out HO452.out (by decide))); rintro e w47 ⟨rfl, hi, hb, hk⟩; refine ⟨_, rfl, ?_⟩; have n0_ := Aside0.mk (KeepBut.blk hk (g' := gb424) (o := .cells #[.int .i64 0, .slice none 0 0, .int .i64 0, .bool false] 27 (0, 0)) (pk_ BK424.out) NB424_0.out (by simp)); have n1_ := Aside0.mk (Kd.R_mono (Kd.R_keep (IsS73.apart (show IsS73 w0 _ g s0_0 t435 t436 from by repeat (first | (with_reducible first | exact HI0.out | apply IsS73.alloc | apply IsS73.drewN | apply IsS73.drew | apply IsS73.set_1 | apply IsS73.set_2 | refine IsS73.far ?_ NB0_424.out _ | refine IsS73.far ?_ NB0_433.out _) | exact HI0.out)) (pr_ HO428.out) (by decide)) hk (fun _ h => h.2)) (fun _ h => h.1)); have n2_ := Aside0.mk (KeepBut.blk hk (g' := gb433) (o := .cells #[.int .i64 t425, .slice Ao9 t426.length co9, .int .i64 t429, .bool t430] 27 (0, 0)) (pk_ BK433.out) NB433_0.out (by simp)); have n3_ := Aside0.mk (Kd.R_mono (Kd.R_keep (IsS73.apart (show IsS73 w0 _ g s0_0 t435 t436 from by repeat (first | (with_reducible first | exact HI0.out | apply IsS73.alloc | apply IsS73.drewN | apply IsS73.drew | apply IsS73.set_1 | apply IsS73.set_2 | refine IsS73.far ?_ NB0_424.out _ | refine IsS73.far ?_ NB0_433.out _) | exact HI0.out)) (pr_ HO452.out) (by decide)) hk (fun _ h => h.2)) (fun _ h => h.1)); have n4_ := Aside0.mk (KeepBut.trans (by repeat (first | (with_reducible first | exact HK.out | apply KeepBut.set_ | apply keep_drewN | apply keep_drew | apply keep_alloc | refine keep_far ?_ GW424.out _ | refine keep_far ?_ GW433.out _) | exact HK.out)) hk (.inl rfl)); have n5_ := Aside0.mk (hb); have n6_ := Aside0.mk (hi); clear BK424; clear HO428; clear BK433; clear HO452; clear HK; clear HB; clear HI0; have BK424 := n0_; have HO428 := n1_; have BK433 := n2_; have HO452 := n3_; have HK := n4_; have HB := n5_; have HI0 := n6_; clear n0_ n1_ n2_ n3_ n4_ n5_ n6_; (try clear hb); (try clear hb2); (try clear hk); (try clear hi); have hcz48_0 : w47.cell? ⟨gb433, 0, none⟩ = some (.int .i64 t425) := (blk_cell BK433.out 0).trans rfl; have hcz48_1 : w47.cell? ⟨gb433, 1, none⟩ = some (.slice Ao9 t426.length co9) := (blk_cell BK433.out 1).trans rfl; have hcz48_2 : w47.cell? ⟨gb433, 2, none⟩ = some (.int .i64 t429) := (blk_cell BK433.out 2).trans rfl; have hcz48_3 : w47.cell? ⟨gb433, 3, none⟩ = some (.bool t430) := (blk_cell BK433.out 3).trans rfl; have hfz48_0 := blk_frozen BK433.out 0; have hfz48_1 := blk_frozen BK433.out 1; have hfz48_2 := blk_frozen BK433.out 2; have hfz48_3 := blk_frozen BK433.out 3; have hnb49 := NB424_0.out; have hnc49 := NB0_424.out; have hcz50_0 : w47.cell? ⟨gb424, 0, none⟩ = some (.int .i64 0) := (blk_cell BK424.out 0).trans rfl; have hcz50_1 : w47.cell? ⟨gb424, 1, none⟩ = some (.slice none 0 0) := (blk_cell BK424.out 1).trans rfl; have hcz50_2 : w47.cell? ⟨gb424, 2, none⟩ = some (.int .i64 0) := (blk_cell BK424.out 2).trans rfl; have hcz50_3 : w47.cell? ⟨gb424, 3, none⟩ = some (.bool false) := (blk_cell BK424.out 3).trans rfl; have hfz50_0 := blk_frozen BK424.out 0; have hfz50_1 := blk_frozen BK424.out 1; have hfz50_2 := blk_frozen BK424.out 2; have hfz50_3 := blk_frozen BK424.out 3))
    refine bodyPost_ret (results_cell_row rfl _ _ gb424 27 #[.int .i64 t425, .slice Ao9 t426.length co9, .int .i64 t453, .bool t430] (0, 0) _ rfl (pp_ BK424.out) Try.underlying27 rfl (by kernel_rfl)) rfl ?_
    exact ⟨_, er_, pr_ (Kd.R_mono (Kd.R_far (p := ⟨gb424, 3, none⟩) (Kd.R_far (p := ⟨gb424, 2, none⟩) (Kd.R_far (p := ⟨gb424, 1, none⟩) (Kd.R_far (p := ⟨gb424, 0, none⟩) (Kd.R_far (p := ⟨gb433, 2, none⟩) (Kd.R_types (Kd.R_types HO428.out BK433.out (by decide)) BK424.out (by decide)) (fun _ hk => hk.1.2) (.int .i64 t453)) (fun _ hk => hk.2) (.int .i64 t425)) (fun _ hk => hk.2) (.slice Ao9 t426.length co9)) (fun _ hk => hk.2) (.int .i64 t453)) (fun _ hk => hk.2) (.bool t430)) (fun _ hk => trivial)), by repeat (first | (with_reducible first | exact HI0.out | apply IsS73.alloc | apply IsS73.drewN | apply IsS73.drew | apply IsS73.set_1 | apply IsS73.set_2 | refine IsS73.far ?_ NB0_424.out _ | refine IsS73.far ?_ NB0_433.out _) | exact HI0.out), by repeat (first | (with_reducible first | exact HB.out | apply below_alloc | apply pw_below_drewN | apply below_drew1 | refine below_set ?_ (IsS73.ge HI0.out) | refine below_set ?_ GE424.out | refine below_set ?_ GE433.out) | exact HB.out), by repeat (first | (with_reducible first | exact HK.out | apply KeepBut.set_ | apply keep_drewN | apply keep_drew | apply keep_alloc | refine keep_far ?_ GW424.out _ | refine keep_far ?_ GW433.out _) | exact HK.out)⟩
  rw [if_neg c39] at H
  have c39b0 : (t434 == 2) = false := beq_eq_false_iff_ne.mpr c39
  have c39b1 : (t434 != 2) = true := bne_iff_ne.mpr c39
  by_cases c51 : t434 = 3
  · rw [if_pos c51] at H
    have c51b0 : (t434 == 3) = true := beq_iff_eq.mpr c51
    have c51b1 : (t434 != 3) = false := bne_eq_false_iff_eq.mpr c51
    clear c51
    simp only [Option.some.injEq, Prod.mk.injEq] at H
    obtain ⟨rfl, rfl, rfl, rfl, rfl, rfl⟩ := H
    have hnb52 := NB433_424.out
    have hnc52 := NB424_433.out
    have hnb53 := NB433_0.out
    have hnc53 := NB0_433.out
    obtain ⟨hcz54_0, hcz54_1, hcz54_2, hcz54_3, hfz54_0, hfz54_1, hfz54_2, hfz54_3⟩ := bc4_ BK433.out
    have hnb55 := NB424_0.out
    have hnc55 := NB0_424.out
    obtain ⟨hcz56_0, hcz56_1, hcz56_2, hcz56_3, hfz56_0, hfz56_1, hfz56_2, hfz56_3⟩ := bc4_ BK424.out
    go_wp2
    refine bodyPost_ret (results_cell_row rfl _ _ gb424 27 #[.int .i64 t425, .slice Ao9 t426.length co9, .int .i64 t429, .bool true] (0, 0) _ rfl (pp_ BK424.out) Try.underlying27 rfl (by kernel_rfl)) rfl ?_
    exact ⟨_, er_, pr_ (Kd.R_mono (Kd.R_far (p := ⟨gb424, 3, none⟩) (Kd.R_far (p := ⟨gb424, 2, none⟩) (Kd.R_far (p := ⟨gb424, 1, none⟩) (Kd.R_far (p := ⟨gb424, 0, none⟩) (Kd.R_far (p := ⟨gb433, 3, none⟩) (Kd.R_types (Kd.R_types HO428.out BK433.out (by decide)) BK424.out (by decide)) (fun _ hk => hk.1.2) (.bool true)) (fun _ hk => hk.2) (.int .i64 t425)) (fun _ hk => hk.2) (.slice Ao9 t426.length co9)) (fun _ hk => hk.2) (.int .i64 t429)) (fun _ hk => hk.2) (.bool true)) (fun _ hk => trivial)), by repeat (first | (with_reducible first | exact HI0.out | apply IsS73.alloc | apply IsS73.drewN | apply IsS73.drew | apply IsS73.set_1 | apply IsS73.set_2 | refine IsS73.far ?_ NB0_424.out _ | refine IsS73.far ?_ NB0_433.out _) | exact HI0.out), by repeat (first | (with_reducible first | exact HB.out | apply below_alloc | apply pw_below_drewN | apply below_drew1 | refine below_set ?_ (IsS73.ge HI0.out) | refine below_set ?_ GE424.out | refine below_set ?_ GE433.out) | exact HB.out), by repeat (first | (with_reducible first | exact HK.out | apply KeepBut.set_ | apply keep_drewN | apply keep_drew | apply keep_alloc | refine keep_far ?_ GW424.out _ | refine keep_far ?_ GW433.out _) | exact HK.out)⟩
  rw [if_neg c51] at H
  have c51b0 : (t434 == 3) = false := beq_eq_false_iff_ne.mpr c51
  have c51b1 : (t434 != 3) = true := bne_iff_ne.mpr c51
  by_cases c57 : t434 = 4
  rotate_left
  · rw [if_neg c57] at H
    have c57b0 : (t434 == 4) = false := beq_eq_false_iff_ne.mpr c57
    have c57b1 : (t434 != 4) = true := bne_iff_ne.mpr c57
    simp only [Option.some.injEq, Prod.mk.injEq] at H
    obtain ⟨rfl, rfl, rfl, rfl, rfl, rfl⟩ := H
    have hnb58 := NB433_424.out
    have hnc58 := NB424_433.out
    have hnb59 := NB433_0.out
    have hnc59 := NB0_433.out
    obtain ⟨hcz60_0, hcz60_1, hcz60_2, hcz60_3, hfz60_0, hfz60_1, hfz60_2, hfz60_3⟩ := bc4_ BK433.out
    have hnb61 := NB424_0.out
    have hnc61 := NB0_424.out
    obtain ⟨hcz62_0, hcz62_1, hcz62_2, hcz62_3, hfz62_0, hfz62_1, hfz62_2, hfz62_3⟩ := bc4_ BK424.out
    go_wp2
    refine bodyPost_ret (results_cell_row rfl _ _ gb424 27 #[.int .i64 t425, .slice Ao9 t426.length co9, .int .i64 t429, .bool t430] (0, 0) _ rfl (pp_ BK424.out) Try.underlying27 rfl (by kernel_rfl)) rfl ?_
    exact ⟨_, er_, pr_ (Kd.R_mono (rf4_ HO428.out BK424.out) (fun _ hk => trivial)), by repeat (first | (with_reducible first | exact HI0.out | apply IsS73.alloc | apply IsS73.drewN | apply IsS73.drew | apply IsS73.set_1 | apply IsS73.set_2 | refine IsS73.far ?_ NB0_424.out _ | refine IsS73.far ?_ NB0_433.out _) | exact HI0.out), by repeat (first | (with_reducible first | exact HB.out | apply below_alloc | apply pw_below_drewN | apply below_drew1 | refine below_set ?_ (IsS73.ge HI0.out) | refine below_set ?_ GE424.out | refine below_set ?_ GE433.out) | exact HB.out), by repeat (first | (with_reducible first | exact HK.out | apply KeepBut.set_ | apply keep_drewN | apply keep_drew | apply keep_alloc | refine keep_far ?_ GW424.out _ | refine keep_far ?_ GW433.out _) | exact HK.out)⟩
  rw [if_pos c57] at H
  have c57b0 : (t434 == 4) = true := beq_iff_eq.mpr c57
  have c57b1 : (t434 != 4) = false := bne_eq_false_iff_eq.mpr c57
  clear c57
  simp only [Option.some.injEq, Prod.mk.injEq] at H
  obtain ⟨rfl, rfl, rfl, rfl, rfl, rfl⟩ := H
  have hnb63 := NB433_424.out
  have hnc63 := NB424_433.out
  have hnb64 := NB433_0.out
  have hnc64 := NB0_433.out
  obtain ⟨hcz65_0, hcz65_1, hcz65_2, hcz65_3, hfz65_0, hfz65_1, hfz65_2, hfz65_3⟩ := bc4_ BK433.out
  have hnb66 := NB424_0.out
  have hnc66 := NB0_424.out
  obtain ⟨hcz67_0, hcz67_1, hcz67_2, hcz67_3, hfz67_0, hfz67_1, hfz67_2, hfz67_3⟩ := bc4_ BK424.out
  go_wp2
  refine bodyPost_ret (results_cell_row rfl _ _ gb424 27 #[.int .i64 t425, .slice none 0 0, .int .i64 t429, .bool t430] (0, 0) _ rfl (pp_ BK424.out) Try.underlying27 rfl (by kernel_rfl)) rfl ?_
  exact ⟨_, er_, by first | exact Kd.R_nil _ _ _ _ _ | exact Kd.N_nil _ _ _ _ _ | exact Kd.V_nil _ _ _ _ _ | exact Kd.Q_nil _ _ _ _ _ | exact Kd.S_nil _ _ _ _ _, by repeat (first | (with_reducible first | exact HI0.out | apply IsS73.alloc | apply IsS73.drewN | apply IsS73.drew | apply IsS73.set_1 | apply IsS73.set_2 | refine IsS73.far ?_ NB0_424.out _ | refine IsS73.far ?_ NB0_433.out _) | exact HI0.out), by repeat (first | (with_reducible first | exact HB.out | apply below_alloc | apply pw_below_drewN | apply below_drew1 | refine below_set ?_ (IsS73.ge HI0.out) | refine below_set ?_ GE424.out | refine below_set ?_ GE433.out) | exact HB.out), by repeat (first | (with_reducible first | exact HK.out | apply KeepBut.set_ | apply keep_drewN | apply keep_drew | apply keep_alloc | refine keep_far ?_ GW424.out _ | refine keep_far ?_ GW433.out _) | exact HK.out)⟩

end Go.Proofs.Ytlcmkgbabffmeaa.Print
