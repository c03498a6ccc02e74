-- Written by a program of this session (printx.py) out of the translation; Lean checks it.
import Derived.Test.YtpoandlbmaljhaaPrint0
import Derived.Test.YtpoandlbmaljhaaPrint9
import Derived.Test.YtpoandlbmaljhaaPrint12
import Derived.Test.YtpoandlbmaljhaaPrint13
namespace Go.Proofs.Ytpoandlbmaljhaa.Print
open Go.RowKit Go.Proofs.YtpoandlbmaljhaaW.PrintWords Go.Proofs.YtpoandlbmaljhaaW.PrintLast Go.Proofs.YtpoandlbmaljhaaW.PrintMore Go.Proofs.Ytpoandlbmaljhaa.Short
attribute [local go_sem] max2_int min2_int max_two min_two max_three min_three max_four min_four   -- for this text's walks alone
set_option linter.unusedVariables false
set_option linter.unusedSimpArgs false

/-! ### impl_PassBox: function 86 -/
def impl_PassBox.j0 : Nat → Bool → Int → List Int → List Int → Bool → List Int → List (S69) → Option (List Int × (List (S69)) × Bool)
  | 0, _, _, _, _, _, _, _ => none
  | k + 1, x18, x477000, x477001, x477002, x477003, x478000, x478001 => if x18 = true then (some (([] : List Int), ([] : List (S69)), false)) else ((slices_Clone_int_int.f x478000).bind fun t482 => ((impl_keptExts_with_impl_PassBox_1.f k x478001 x477000 x477001 x477002 x477003).bind fun t485 => (some (t482, t485, true))))
def impl_PassBox.f (k : Nat) (a0_0 : Int) (l0_1 : List Int) (l0_2 : List Int) (a0_3 : Bool) (l1_0 : List Int) (l1_1 : List (S69)) : Option (List Int × (List (S69)) × Bool) := (impl_IsBox.f k a0_0 l0_1 l0_2 a0_3).bind fun t479 => (if t479 = true then ((impl_IsHello.f k l1_0 l1_1).bind fun t480 => (if t480 = true then ((impl_loses.f k a0_0 l0_1 l0_2 a0_3 l1_0 l1_1).bind fun t481 => (impl_PassBox.j0 k t481 a0_0 l0_1 l0_2 a0_3 l1_0 l1_1)) else (impl_PassBox.j0 k true a0_0 l0_1 l0_2 a0_3 l1_0 l1_1))) else (impl_PassBox.j0 k true a0_0 l0_1 l0_2 a0_3 l1_0 l1_1))
theorem impl_PassBox.mono_l : ∀ k, (∀ y0 y1 y2 y3 y4 y5 y6, LeO (impl_PassBox.j0 k y0 y1 y2 y3 y4 y5 y6) (impl_PassBox.j0 (k + 1) y0 y1 y2 y3 y4 y5 y6))
  | 0 => fun _ _ _ _ _ _ _ r h => by simp [impl_PassBox.j0] at h
  | k + 1 => by
    have ih0 := impl_PassBox.mono_l k
    · intro y0 y1 y2 y3 y4 y5 y6
      unfold impl_PassBox.j0
      repeat' first
      | (with_reducible exact ih0 _ _ _ _ _ _ _)
      | (with_reducible exact impl_IsBox.mono _ _ _ _ _)
      | (with_reducible exact impl_IsHello.mono _ _ _)
      | (with_reducible exact impl_keptExts_with_impl_PassBox_1.mono _ _ _ _ _ _)
      | (with_reducible exact impl_loses.mono _ _ _ _ _ _ _)
      | (with_reducible exact LeO.refl _)
      | (with_reducible exact LeO.none _)
      | (with_reducible refine LeO.ite ?_ ?_)
      | (with_reducible refine LeO.bind ?_ (fun _ => ?_))
      | exact ih0 _ _ _ _ _ _ _
      | exact impl_IsBox.mono _ _ _ _ _
      | exact impl_IsHello.mono _ _ _
      | exact impl_keptExts_with_impl_PassBox_1.mono _ _ _ _ _ _
      | exact impl_loses.mono _ _ _ _ _ _ _
      | exact LeO.none _
      | refine LeO.ite ?_ ?_
      | refine LeO.bind ?_ (fun _ => ?_)
theorem impl_PassBox.mono : ∀ a0 a1 a2 a3 a4 a5 k, LeO (impl_PassBox.f k a0 a1 a2 a3 a4 a5) (impl_PassBox.f (k + 1) a0 a1 a2 a3 a4 a5) := by
  intro a0 a1 a2 a3 a4 a5 k
  have ih0 := impl_PassBox.mono_l k
  unfold impl_PassBox.f
  repeat' first
      | (with_reducible exact ih0 _ _ _ _ _ _ _)
      | (with_reducible exact impl_IsBox.mono _ _ _ _ _)
      | (with_reducible exact impl_IsHello.mono _ _ _)
      | (with_reducible exact impl_keptExts_with_impl_PassBox_1.mono _ _ _ _ _ _)
      | (with_reducible exact impl_loses.mono _ _ _ _ _ _ _)
      | (with_reducible exact LeO.refl _)
      | (with_reducible exact LeO.none _)
      | (with_reducible refine LeO.ite ?_ ?_)
      | (with_reducible refine LeO.bind ?_ (fun _ => ?_))
      | exact ih0 _ _ _ _ _ _ _
      | exact impl_IsBox.mono _ _ _ _ _
      | exact impl_IsHello.mono _ _ _
      | exact impl_keptExts_with_impl_PassBox_1.mono _ _ _ _ _ _
      | exact impl_loses.mono _ _ _ _ _ _ _
      | exact LeO.none _
      | refine LeO.ite ?_ ?_
      | refine LeO.bind ?_ (fun _ => ?_)
def impl_PassBox.T3 : Bool × List (List Nat × List Nat) := (true, [([], []), ([0], [0]), ([1], [1]), ([], []), ([3], [3]), ([], []), ([4, 5, 2], [4, 5]), ([2, 6], [2, 6]), ([7, 6, 0, 1, 2, 3, 4, 5, 6, 7], [7]), ([8, 0, 1, 2, 3, 4, 5, 6, 7, 8], [])])
def impl_PassBox.B3 : List Nat := [0, 1, 3, 0, 8, 0, 63, 127, 255, 511]
theorem impl_PassBox.tab3 : rtab .any (opsOf Try.f86 3) = impl_PassBox.T3 := by kernel_rfl
theorem impl_PassBox.bits3 : waitsOk impl_PassBox.T3.2 impl_PassBox.B3 = true := by kernel_rfl
set_option maxHeartbeats 8000000 in
set_option maxRecDepth 100000 in
theorem impl_PassBox.calls (k : Nat) (a0_0 : Int) (A0_1 : Option Addr) (c0_1 : Nat) (l0_1 : List Int) (A0_2 : Option Addr) (c0_2 : Nat) (l0_2 : List Int) (a0_3 : Bool) (A1_0 : Option Addr) (c1_0 : Nat) (l1_0 : List Int) (A1_1 : Option Addr) (c1_1 : Nat) (l1_1 : List (S69)) (r1 : List Int) (r2 : List (S69)) (r3 : Bool) (w : World) (hr0_1 : Kd.C (Kd.int .i64) w A0_1 l0_1.length l0_1) (hc0_1 : l0_1.length ≤ c0_1) (hr0_2 : Kd.C (Kd.int .i64) w A0_2 l0_2.length l0_2) (hc0_2 : l0_2.length ≤ c0_2) (hr1_0 : Kd.C (Kd.int .i64) w A1_0 l1_0.length l1_0) (hc1_0 : l1_0.length ≤ c1_0) (hr1_1 : Kd.C k69 w A1_1 l1_1.length l1_1) (hc1_1 : l1_1.length ≤ c1_1) (h : impl_PassBox.f k a0_0 l0_1 l0_2 a0_3 l1_0 l1_1 = some (r1, r2, r3)) :
    Calls Try.prog 86 #[.agg #[.int .i64 a0_0, .slice A0_1 l0_1.length c0_1, .slice A0_2 l0_2.length c0_2, .bool a0_3], .agg #[.slice A1_0 l1_0.length c1_0, .slice A1_1 l1_1.length c1_1]] w fun e w' => ∃ v0_ v1_ : Value, e = .returned (.tuple #[.agg #[v0_, v1_], .bool r3]) ∧ Kd.R (Kd.int .i64) 3 w' w.heap.size (fun _ => True) v0_ r1 ∧ Kd.S k69 69 w' w.heap.size (fun k_ => some k_ ≠ (v0_ : Value).ownBlock) v1_ r2 ∧ Below w.heap.size w w' := by
  have hu50 := Try.underlying50
  have hu63 := Try.underlying63
  have HR0_1 := Aside0.mk hr0_1
  have HC0_1 := Aside0.mk hc0_1
  clear hr0_1 hc0_1
  have HR0_2 := Aside0.mk hr0_2
  have HC0_2 := Aside0.mk hc0_2
  clear hr0_2 hc0_2
  have HR1_0 := Aside0.mk hr1_0
  have HC1_0 := Aside0.mk hc1_0
  clear hr1_0 hc1_0
  have HR1_1 := Aside0.mk hr1_1
  have HC1_1 := Aside0.mk hc1_1
  clear hr1_1 hc1_1
  have HB := Aside0.mk (Below.refl w.heap.size w)
  have H : ((impl_IsBox.f k a0_0 l0_1 l0_2 a0_3).bind fun t479 => (if t479 = true then ((impl_IsHello.f k l1_0 l1_1).bind fun t480 => (if t480 = true then ((impl_loses.f k a0_0 l0_1 l0_2 a0_3 l1_0 l1_1).bind fun t481 => (impl_PassBox.j0 k t481 a0_0 l0_1 l0_2 a0_3 l1_0 l1_1)) else (impl_PassBox.j0 k true a0_0 l0_1 l0_2 a0_3 l1_0 l1_1))) else (impl_PassBox.j0 k true a0_0 l0_1 l0_2 a0_3 l1_0 l1_1))) = some (r1, r2, r3) := h
  clear h
  have HC3 := Aside0.mk H
  clear H
  go_enter Try.func86, Try.ntmps86
  go_upto_region 1 with (first | ((with_reducible refine gate_dst (N := 2) rfl ?_); refine box_event ?hg (N := 2) ?hd (cs := #[.int .i64 a0_0, .slice A0_1 l0_1.length c0_1, .slice A0_2 l0_2.length c0_2, .bool a0_3]) (t := 50) ?hr ?_; (case hd => rfl); (case hg => rfl); (case hr => first | (go_simp; done) | (go_simp; rfl)); intro gb476 hg w4 hbox hb; have n0_ := Aside0.mk (below_step (pb_ HB.out) hb); have n1_ := Aside0.mk (hbox); have n2_ := Aside0.mk ((by rw [hg]; exact (below_size (pb_ HB.out)) : w.heap.size ≤ gb476)); have n3_ := Aside0.mk ((by rw [hg]; exact (below_size (pb_ HB.out)) : w.heap.size ≤ gb476)); clear HB; have HB := n0_; have BK476 := n1_; have GW476 := n2_; have GE476 := n3_; clear n0_ n1_ n2_ n3_; clear hb hbox hg) | ((with_reducible refine gate_dst (N := 3) rfl ?_); refine box_event ?hg (N := 3) ?hd (cs := #[.slice A1_0 l1_0.length c1_0, .slice A1_1 l1_1.length c1_1]) (t := 63) ?hr ?_; (case hd => rfl); (case hg => rfl); (case hr => first | (go_simp; done) | (go_simp; rfl)); intro gb477 hg w5 hbox hb; have n0_ := Aside0.mk (bb_ BK476.out hb); have n1_ := Aside0.mk (below_step (pb1_ HB.out GE476.out) hb); have n2_ := Aside0.mk (hbox); have n3_ := Aside0.mk ((by rw [hg]; exact (below_size (pb1_ HB.out GE476.out)) : w.heap.size ≤ gb477)); have n4_ := Aside0.mk ((by rw [hg]; exact (below_size (pb1_ HB.out GE476.out)) : w.heap.size ≤ gb477)); have n5_ := Aside0.mk ((by rw [hg]; exact Nat.ne_of_lt (blk_lt (pk_ BK476.out)) : gb476 ≠ gb477)); have n6_ := Aside0.mk ((by rw [hg]; exact Nat.ne_of_gt (blk_lt (pk_ BK476.out)) : gb477 ≠ gb476)); clear BK476; clear HB; have BK476 := n0_; have HB := n1_; have BK477 := n2_; have GW477 := n3_; have GE477 := n4_; have NB476_477 := n5_; have NB477_476 := n6_; clear n0_ n1_ n2_ n3_ n4_ n5_ n6_; clear hb hbox hg) | ((with_reducible refine gate_dst (N := 4) rfl ?_); refine box_event ?hg (N := 4) ?hd (cs := #[.slice none 0 0, .slice none 0 0]) (t := 63) ?hr ?_; (case hd => rfl); (case hg => rfl); (case hr => first | (go_simp; done) | (go_simp; rfl)); intro gb478 hg w6 hbox hb; have n0_ := Aside0.mk (bb_ BK476.out hb); have n1_ := Aside0.mk (bb_ BK477.out hb); have n2_ := Aside0.mk (below_step (pb2_ HB.out GE476.out GE477.out) hb); have n3_ := Aside0.mk (hbox); have n4_ := Aside0.mk ((by rw [hg]; exact (below_size (pb2_ HB.out GE476.out GE477.out)) : w.heap.size ≤ gb478)); have n5_ := Aside0.mk ((by rw [hg]; exact (below_size (pb2_ HB.out GE476.out GE477.out)) : w.heap.size ≤ gb478)); have n6_ := Aside0.mk ((by rw [hg]; exact Nat.ne_of_lt (blk_lt (pk_ BK476.out)) : gb476 ≠ gb478)); have n7_ := Aside0.mk ((by rw [hg]; exact Nat.ne_of_gt (blk_lt (pk_ BK476.out)) : gb478 ≠ gb476)); have n8_ := Aside0.mk ((by rw [hg]; exact Nat.ne_of_lt (blk_lt (pk_ BK477.out)) : gb477 ≠ gb478)); have n9_ := Aside0.mk ((by rw [hg]; exact Nat.ne_of_gt (blk_lt (pk_ BK477.out)) : gb478 ≠ gb477)); clear BK476; clear BK477; clear HB; have BK476 := n0_; have BK477 := n1_; have HB := n2_; have BK478 := n3_; have GW478 := n4_; have GE478 := n5_; have NB476_478 := n6_; have NB478_476 := n7_; have NB477_478 := n8_; have NB478_477 := n9_; clear n0_ n1_ n2_ n3_ n4_ n5_ n6_ n7_ n8_ n9_; clear hb hbox hg))
  (try simp only [Act.put, List.setIfInBounds_toArray, List.set_cons_zero, List.set_cons_succ])
  go_cut [18] (fun v18 wc => ∃ (kq : Nat) (x18_2 : Bool), v18 = .bool x18_2 ∧ Aside0 (impl_PassBox.j0 kq x18_2 a0_0 l0_1 l0_2 a0_3 l1_0 l1_1 = some (r1, r2, r3)) ∧ Aside0 (kq ≤ k) ∧ Aside0 (wc.heap[gb476]? = some (.cells #[.int .i64 a0_0, (.slice A0_1 l0_1.length c0_1), (.slice A0_2 l0_2.length c0_2), .bool a0_3] 50 (0, 0))) ∧ Aside0 (wc.heap[gb477]? = some (.cells #[(.slice A1_0 l1_0.length c1_0), (.slice A1_1 l1_1.length c1_1)] 63 (0, 0))) ∧ Aside0 (wc.heap[gb478]? = some (.cells #[(.slice none 0 0), (.slice none 0 0)] 63 (0, 0))) ∧ Aside0 (Below w.heap.size w wc))
  case first =>
    have H := HC3.out
    clear HC3
    replace H := Option.bind_eq_some_iff.mp H
    obtain ⟨t479, A70, H⟩ := H
    (try dsimp only at H)
    have A7 := Aside0.mk A70
    clear A70
    by_cases c8 : t479 = true
    rotate_left
    · replace c8 := Bool.eq_false_iff.mpr c8
      subst c8
      rw [if_neg (show ¬ (false = true) by decide)] at H
      have H' := Aside0.mk H
      clear H
      have hnb9 := NB476_477.out
      have hnc9 := NB477_476.out
      have hnb10 := NB476_478.out
      have hnc10 := NB478_476.out
      obtain ⟨hcz11_0, hcz11_1, hcz11_2, hcz11_3, hfz11_0, hfz11_1, hfz11_2, hfz11_3⟩ := bc4_ BK476.out
      go_wp2_with (first | ((with_reducible refine gate_callee (f := 60) rfl ?_); refine goesL_ (some 7) rfl rfl Try.func60 (by kernel_rfl) rfl #[.agg #[.int .i64 a0_0, .slice A0_1 l0_1.length c0_1, .slice A0_2 l0_2.length c0_2, .bool a0_3]] rfl mp_ ?_; (with_reducible refine (impl_IsBox.calls k a0_0 _ _ l0_1 _ _ l0_2 a0_3 false _ ?side1 ?side2 ?side3 ?side4 A7.out).mono ?_); (case side1 => exact pc_ (Kd.C_below HR0_1.out HB.out)); (case side2 => exact HC0_1.out); (case side3 => exact pc_ (Kd.C_below HR0_2.out HB.out)); (case side4 => exact HC0_2.out); rintro e w12 ⟨rfl, hb⟩; refine ⟨_, rfl, ?_⟩; have n0_ := Aside0.mk (bb_ BK476.out hb); have n1_ := Aside0.mk (bb_ BK477.out hb); have n2_ := Aside0.mk (bb_ BK478.out hb); have n3_ := Aside0.mk (below_step (pb3_ HB.out GE476.out GE477.out GE478.out) hb); clear BK476; clear BK477; clear BK478; clear HB; have BK476 := n0_; have BK477 := n1_; have BK478 := n2_; have HB := n3_; clear n0_ n1_ n2_ n3_; (try clear hb); (try clear hb2); (try clear hk); (try clear hi)))
      go_meet
      case rel => exact ⟨_, (true), el_, H', ⟨by first | omega | exact Nat.le_refl _⟩, ⟨pk_ BK476.out⟩, ⟨pk_ BK477.out⟩, ⟨pk_ BK478.out⟩, ⟨pb3_ HB.out GE476.out GE477.out GE478.out⟩⟩
    subst c8
    rw [if_pos rfl] at H
    replace H := Option.bind_eq_some_iff.mp H
    obtain ⟨t480, A130, H⟩ := H
    (try dsimp only at H)
    have A13 := Aside0.mk A130
    clear A130
    by_cases c14 : t480 = true
    rotate_left
    · replace c14 := Bool.eq_false_iff.mpr c14
      subst c14
      rw [if_neg (show ¬ (false = true) by decide)] at H
      have H' := Aside0.mk H
      clear H
      have hnb15 := NB476_477.out
      have hnc15 := NB477_476.out
      have hnb16 := NB476_478.out
      have hnc16 := NB478_476.out
      obtain ⟨hcz17_0, hcz17_1, hcz17_2, hcz17_3, hfz17_0, hfz17_1, hfz17_2, hfz17_3⟩ := bc4_ BK476.out
      go_wp2_with (first | ((with_reducible refine gate_callee (f := 60) rfl ?_); refine goesL_ (some 7) rfl rfl Try.func60 (by kernel_rfl) rfl #[.agg #[.int .i64 a0_0, .slice A0_1 l0_1.length c0_1, .slice A0_2 l0_2.length c0_2, .bool a0_3]] rfl mp_ ?_; (with_reducible refine (impl_IsBox.calls k a0_0 _ _ l0_1 _ _ l0_2 a0_3 true _ ?side1 ?side2 ?side3 ?side4 A7.out).mono ?_); (case side1 => exact pc_ (Kd.C_below HR0_1.out HB.out)); (case side2 => exact HC0_1.out); (case side3 => exact pc_ (Kd.C_below HR0_2.out HB.out)); (case side4 => exact HC0_2.out); rintro e w18 ⟨rfl, hb⟩; refine ⟨_, rfl, ?_⟩; have n0_ := Aside0.mk (bb_ BK476.out hb); have n1_ := Aside0.mk (bb_ BK477.out hb); have n2_ := Aside0.mk (bb_ BK478.out hb); have n3_ := Aside0.mk (below_step (pb3_ HB.out GE476.out GE477.out GE478.out) hb); clear BK476; clear BK477; clear BK478; clear HB; have BK476 := n0_; have BK477 := n1_; have BK478 := n2_; have HB := n3_; clear n0_ n1_ n2_ n3_; (try clear hb); (try clear hb2); (try clear hk); (try clear hi); have hnb19 := NB477_478.out; have hnc19 := NB478_477.out; have hcz20_0 : w18.cell? ⟨gb477, 0, none⟩ = some (.slice A1_0 l1_0.length c1_0) := (blk_cell BK477.out 0).trans rfl; have hcz20_1 : w18.cell? ⟨gb477, 1, none⟩ = some (.slice A1_1 l1_1.length c1_1) := (blk_cell BK477.out 1).trans rfl; have hfz20_0 := blk_frozen BK477.out 0; have hfz20_1 := blk_frozen BK477.out 1) | (go_at_call 84; (with_reducible refine (impl_IsHello.calls k _ _ l1_0 _ _ l1_1 false _ ?side1 ?side2 ?side3 ?side4 A13.out).mono ?_); (case side1 => exact pc_ (Kd.C_below HR1_0.out HB.out)); (case side2 => exact HC1_0.out); (case side3 => exact pc_ (Kd.C_below HR1_1.out HB.out)); (case side4 => exact HC1_1.out); rintro e w21 ⟨rfl, hb⟩; have n0_ := Aside0.mk (bb_ BK476.out hb); have n1_ := Aside0.mk (bb_ BK477.out hb); have n2_ := Aside0.mk (bb_ BK478.out hb); have n3_ := Aside0.mk (below_step (pb3_ HB.out GE476.out GE477.out GE478.out) hb); clear BK476; clear BK477; clear BK478; clear HB; have BK476 := n0_; have BK477 := n1_; have BK478 := n2_; have HB := n3_; clear n0_ n1_ n2_ n3_; (try clear hb); (try clear hb2); (try clear hk); (try clear hi)))
      go_meet
      case rel => exact ⟨_, (true), el_, H', ⟨by first | omega | exact Nat.le_refl _⟩, ⟨pk_ BK476.out⟩, ⟨pk_ BK477.out⟩, ⟨pk_ BK478.out⟩, ⟨pb3_ HB.out GE476.out GE477.out GE478.out⟩⟩
    subst c14
    rw [if_pos rfl] at H
    replace H := Option.bind_eq_some_iff.mp H
    obtain ⟨t481, A220, H⟩ := H
    (try dsimp only at H)
    have A22 := Aside0.mk A220
    clear A220
    have H' := Aside0.mk H
    clear H
    have hnb23 := NB476_477.out
    have hnc23 := NB477_476.out
    have hnb24 := NB476_478.out
    have hnc24 := NB478_476.out
    obtain ⟨hcz25_0, hcz25_1, hcz25_2, hcz25_3, hfz25_0, hfz25_1, hfz25_2, hfz25_3⟩ := bc4_ BK476.out
    go_wp2_with (first | ((with_reducible refine gate_callee (f := 60) rfl ?_); refine goesL_ (some 7) rfl rfl Try.func60 (by kernel_rfl) rfl #[.agg #[.int .i64 a0_0, .slice A0_1 l0_1.length c0_1, .slice A0_2 l0_2.length c0_2, .bool a0_3]] rfl mp_ ?_; (with_reducible refine (impl_IsBox.calls k a0_0 _ _ l0_1 _ _ l0_2 a0_3 true _ ?side1 ?side2 ?side3 ?side4 A7.out).mono ?_); (case side1 => exact pc_ (Kd.C_below HR0_1.out HB.out)); (case side2 => exact HC0_1.out); (case side3 => exact pc_ (Kd.C_below HR0_2.out HB.out)); (case side4 => exact HC0_2.out); rintro e w26 ⟨rfl, hb⟩; refine ⟨_, rfl, ?_⟩; have n0_ := Aside0.mk (bb_ BK476.out hb); have n1_ := Aside0.mk (bb_ BK477.out hb); have n2_ := Aside0.mk (bb_ BK478.out hb); have n3_ := Aside0.mk (below_step (pb3_ HB.out GE476.out GE477.out GE478.out) hb); clear BK476; clear BK477; clear BK478; clear HB; have BK476 := n0_; have BK477 := n1_; have BK478 := n2_; have HB := n3_; clear n0_ n1_ n2_ n3_; (try clear hb); (try clear hb2); (try clear hk); (try clear hi); have hnb27 := NB477_478.out; have hnc27 := NB478_477.out; have hcz28_0 : w26.cell? ⟨gb477, 0, none⟩ = some (.slice A1_0 l1_0.length c1_0) := (blk_cell BK477.out 0).trans rfl; have hcz28_1 : w26.cell? ⟨gb477, 1, none⟩ = some (.slice A1_1 l1_1.length c1_1) := (blk_cell BK477.out 1).trans rfl; have hfz28_0 := blk_frozen BK477.out 0; have hfz28_1 := blk_frozen BK477.out 1) | (go_at_call 84; (with_reducible refine (impl_IsHello.calls k _ _ l1_0 _ _ l1_1 true _ ?side1 ?side2 ?side3 ?side4 A13.out).mono ?_); (case side1 => exact pc_ (Kd.C_below HR1_0.out HB.out)); (case side2 => exact HC1_0.out); (case side3 => exact pc_ (Kd.C_below HR1_1.out HB.out)); (case side4 => exact HC1_1.out); rintro e w29 ⟨rfl, hb⟩; have n0_ := Aside0.mk (bb_ BK476.out hb); have n1_ := Aside0.mk (bb_ BK477.out hb); have n2_ := Aside0.mk (bb_ BK478.out hb); have n3_ := Aside0.mk (below_step (pb3_ HB.out GE476.out GE477.out GE478.out) hb); clear BK476; clear BK477; clear BK478; clear HB; have BK476 := n0_; have BK477 := n1_; have BK478 := n2_; have HB := n3_; clear n0_ n1_ n2_ n3_; (try clear hb); (try clear hb2); (try clear hk); (try clear hi); have hcz30_0 : w29.cell? ⟨gb476, 0, none⟩ = some (.int .i64 a0_0) := (blk_cell BK476.out 0).trans rfl; have hcz30_1 : w29.cell? ⟨gb476, 1, none⟩ = some (.slice A0_1 l0_1.length c0_1) := (blk_cell BK476.out 1).trans rfl; have hcz30_2 : w29.cell? ⟨gb476, 2, none⟩ = some (.slice A0_2 l0_2.length c0_2) := (blk_cell BK476.out 2).trans rfl; have hcz30_3 : w29.cell? ⟨gb476, 3, none⟩ = some (.bool a0_3) := (blk_cell BK476.out 3).trans rfl; have hfz30_0 := blk_frozen BK476.out 0; have hfz30_1 := blk_frozen BK476.out 1; have hfz30_2 := blk_frozen BK476.out 2; have hfz30_3 := blk_frozen BK476.out 3; have hcz31_0 : w29.cell? ⟨gb477, 0, none⟩ = some (.slice A1_0 l1_0.length c1_0) := (blk_cell BK477.out 0).trans rfl; have hcz31_1 : w29.cell? ⟨gb477, 1, none⟩ = some (.slice A1_1 l1_1.length c1_1) := (blk_cell BK477.out 1).trans rfl; have hfz31_0 := blk_frozen BK477.out 0; have hfz31_1 := blk_frozen BK477.out 1) | (go_at_call 93; (with_reducible refine (impl_loses.calls k a0_0 _ _ l0_1 _ _ l0_2 a0_3 _ _ l1_0 _ _ l1_1 t481 _ ?side1 ?side2 ?side3 ?side4 ?side5 ?side6 ?side7 ?side8 A22.out).mono ?_); (case side1 => exact pc_ (Kd.C_below HR0_1.out HB.out)); (case side2 => exact HC0_1.out); (case side3 => exact pc_ (Kd.C_below HR0_2.out HB.out)); (case side4 => exact HC0_2.out); (case side5 => exact pc_ (Kd.C_below HR1_0.out HB.out)); (case side6 => exact HC1_0.out); (case side7 => exact pc_ (Kd.C_below HR1_1.out HB.out)); (case side8 => exact HC1_1.out); rintro e w32 ⟨rfl, hb⟩; have n0_ := Aside0.mk (bb_ BK476.out hb); have n1_ := Aside0.mk (bb_ BK477.out hb); have n2_ := Aside0.mk (bb_ BK478.out hb); have n3_ := Aside0.mk (below_step (pb3_ HB.out GE476.out GE477.out GE478.out) hb); clear BK476; clear BK477; clear BK478; clear HB; have BK476 := n0_; have BK477 := n1_; have BK478 := n2_; have HB := n3_; clear n0_ n1_ n2_ n3_; (try clear hb); (try clear hb2); (try clear hk); (try clear hi)))
    go_meet
    case rel => exact ⟨_, (t481), el_, H', ⟨by first | omega | exact Nat.le_refl _⟩, ⟨pk_ BK476.out⟩, ⟨pk_ BK477.out⟩, ⟨pk_ BK478.out⟩, ⟨pb3_ HB.out GE476.out GE477.out GE478.out⟩⟩
  clear HC3
  try clear c1
  try clear c2
  try clear p2
  try clear c6
  try clear c8
  try clear c9
  try clear c10
  try clear c14
  try clear c15
  try clear c16
  try clear c19
  try clear c23
  try clear c24
  try clear c27
  try clear hcz11_0
  try clear hcz11_1
  try clear hcz11_2
  try clear hcz11_3
  try clear hcz17_0
  try clear hcz17_1
  try clear hcz17_2
  try clear hcz17_3
  try clear hcz20_0
  try clear hcz20_1
  try clear hcz25_0
  try clear hcz25_1
  try clear hcz25_2
  try clear hcz25_3
  try clear hcz28_0
  try clear hcz28_1
  try clear hcz30_0
  try clear hcz30_1
  try clear hcz30_2
  try clear hcz30_3
  try clear hcz31_0
  try clear hcz31_1
  try clear hfz11_0
  try clear hfz11_1
  try clear hfz11_2
  try clear hfz11_3
  try clear hfz17_0
  try clear hfz17_1
  try clear hfz17_2
  try clear hfz17_3
  try clear hfz20_0
  try clear hfz20_1
  try clear hfz25_0
  try clear hfz25_1
  try clear hfz25_2
  try clear hfz25_3
  try clear hfz28_0
  try clear hfz28_1
  try clear hfz30_0
  try clear hfz30_1
  try clear hfz30_2
  try clear hfz30_3
  try clear hfz31_0
  try clear hfz31_1
  obtain ⟨kq, x18_2, rfl, HA, HJ2, BK476, BK477, BK478, HB⟩ := hcut
  rcases kq with _ | kj2
  · exact absurd HA.out (by simp [impl_PassBox.j0])
  have H := HA.out
  clear HA
  simp only [impl_PassBox.j0] at H
  by_cases c33 : x18_2 = true
  · subst c33
    rw [if_pos rfl] at H
    simp only [Option.some.injEq, Prod.mk.injEq] at H
    obtain ⟨rfl, rfl, rfl⟩ := H
    have hnb34 := NB478_476.out
    have hnc34 := NB476_478.out
    have hnb35 := NB478_477.out
    have hnc35 := NB477_478.out
    obtain ⟨hcz36_0, hcz36_1, hfz36_0, hfz36_1⟩ := bc2_ BK478.out
    go_wp2
    refine bodyPost_ret (results_ct rfl _ _ gb478 63 #[.slice none 0 0, .slice none 0 0] (0, 0) _ rfl (pp_ BK478.out) Try.underlying63 rfl (by kernel_rfl)) rfl ?_
    exact ⟨_, _, er_, by first | exact Kd.R_nil _ _ _ _ _ | exact Kd.N_nil _ _ _ _ _ | exact Kd.V_nil _ _ _ _ _ | exact Kd.Q_nil _ _ _ _ _ | exact Kd.S_nil _ _ _ _ _, by first | exact Kd.S_nil _ _ _ _ _ | exact Kd.N_nil _ _ _ _ _ | exact Kd.V_nil _ _ _ _ _ | exact Kd.Q_nil _ _ _ _ _ | exact Kd.R_nil _ _ _ _ _, pb3_ HB.out GE476.out GE477.out GE478.out⟩
  replace c33 := Bool.eq_false_iff.mpr c33
  subst c33
  rw [if_neg (show ¬ (false = true) by decide)] at H
  replace H := Option.bind_eq_some_iff.mp H
  obtain ⟨t482, A370, H⟩ := H
  (try dsimp only at H)
  have A37 := Aside0.mk A370
  clear A370
  replace H := Option.bind_eq_some_iff.mp H
  obtain ⟨t485, A380, H⟩ := H
  replace H : (some (t482, t485, true)) = some (r1, r2, r3) := H
  have A38 := Aside0.mk A380
  clear A380
  simp only [Option.some.injEq, Prod.mk.injEq] at H
  obtain ⟨rfl, rfl, rfl⟩ := H
  try go_wp2
  have n0_ := Aside0.mk (blk_drew BK476.out)
  have n1_ := Aside0.mk (blk_drew BK477.out)
  have n2_ := Aside0.mk (blk_drew BK478.out)
  have n3_ := Aside0.mk (below_drew1 HB.out)
  clear BK476
  clear BK477
  clear BK478
  clear HB
  have BK476 := n0_
  have BK477 := n1_
  have BK478 := n2_
  have HB := n3_
  clear n0_ n1_ n2_ n3_
  refine start_ (n := 10) (S := fun w' => w'.cell? ⟨gb477, 0, none⟩ = some (.slice A1_0 l1_0.length c1_0) ∧ w'.cell? ⟨gb477, 1, none⟩ = some (.slice A1_1 l1_1.length c1_1)) (ds := []) #[false, false, false, false, false, false, false, false, false, false] (by kernel_rfl) rfl rfl ⟨(blk_cell BK477.out 0).trans rfl, (blk_cell BK477.out 1).trans rfl⟩ (fun hHeld => ?_); refine with_tabW impl_PassBox.tab3 impl_PassBox.bits3 (fun HT_ HW_ => ?_)
  generalize wc.drew = w39 at BK476 BK477 BK478 HB hHeld ⊢
  refine pu_ 0 (some 20) (tf_ 1 10) HT_ ?_
  refine pu_ 3 (some 23) #[true, false, false, true, false, false, false, false, false, false] HT_ ?_
  refine pu_ 5 (some 25) #[true, false, false, true, false, true, false, false, false, false] HT_ ?_
  refine ta_ 1 (some 21) #[true, true, false, true, false, true, false, false, false, false] HT_ HW_ hHeld ?_
  refine ta_ 4 (some 24) #[true, true, false, true, true, true, false, false, false, false] HT_ HW_ hHeld ?_
  refine on_ 2 (some 22) (tf_ 6 10) HT_ (fun K hK => ?_)
  refine goes_ Try.func94 (by kernel_rfl) rfl #[.slice A1_0 l1_0.length c1_0] (by rfl) rfl rfl mp_ ?_
  with_reducible refine (slices_Clone_int_int.calls _ _ l1_0 t482 _ ?side1 ?side2 A37.out).mono ?_
  (case side1 => exact pc_ (Kd.C_below HR1_0.out HB.out))
  (case side2 => exact HC1_0.out)
  rintro e w40 ⟨v483, rfl, ho0, hb⟩
  refine ⟨_, rfl, ?_⟩
  have n0_ := Aside0.mk (Kd.R_lower ho0 (below_size (pb3_ HB.out GE476.out GE477.out GE478.out)))
  have n1_ := Aside0.mk (bb_ BK476.out hb)
  have n2_ := Aside0.mk (bb_ BK477.out hb)
  have n3_ := Aside0.mk (bb_ BK478.out hb)
  have n4_ := Aside0.mk (below_step (pb3_ HB.out GE476.out GE477.out GE478.out) hb)
  clear BK476
  clear BK477
  clear BK478
  clear HB
  have HO484 := n0_
  have BK476 := n1_
  have BK477 := n2_
  have BK478 := n3_
  have HB := n4_
  clear n0_ n1_ n2_ n3_ n4_
  (try clear hb)
  (try clear hb2)
  (try clear hk)
  (try clear hi)
  (try clear ho0)
  (try (obtain ⟨Ao_, co_, eo_⟩ := Kd.R_slice HO484.out; subst eo_))
  refine hK.out _ _ ⟨(blk_cell BK477.out 0).trans rfl, (blk_cell BK477.out 1).trans rfl⟩ (fun hHeld => ?_)
  clear hK K
  refine no_ (some 22) ?_
  refine on_ 6 (some 26) (tf_ 7 10) HT_ (fun K hK => ?_)
  refine goes_ Try.func95 (by kernel_rfl) rfl #[.slice A1_1 l1_1.length c1_1, .func (.func 96) #[] #[.pointer (some ⟨gb476, 0, none⟩)]] (by rfl) rfl rfl mp_ ?_
  with_reducible refine (impl_keptExts_with_impl_PassBox_1.calls kj2 _ _ l1_1 _ a0_0 A0_1 c0_1 l0_1 A0_2 c0_2 l0_2 a0_3 t485 _ ?side1 ?side2 ?side3 ?side4 ?side5 ?side6 ?side7 A38.out).mono ?_
  (case side1 => exact pc_ (Kd.C_below HR1_1.out HB.out))
  (case side2 => exact HC1_1.out)
  (case side3 => exact pc_ (Kd.C_below HR0_1.out HB.out))
  (case side4 => exact HC0_1.out)
  (case side5 => exact pc_ (Kd.C_below HR0_2.out HB.out))
  (case side6 => exact HC0_2.out)
  (case side7 => exact pk_ BK476.out)
  rintro e w41 ⟨v486, rfl, ho0, hb⟩
  refine ⟨_, rfl, ?_⟩
  have n0_ := Aside0.mk (Kd.R_below (pr_ HO484.out) hb)
  have n1_ := Aside0.mk (Kd.S_lower (Kd.S_new' ho0 (Kd.R_lt (pr_ HO484.out))) (below_size (pb3_ HB.out GE476.out GE477.out GE478.out)))
  have n2_ := Aside0.mk (bb_ BK476.out hb)
  have n3_ := Aside0.mk (bb_ BK477.out hb)
  have n4_ := Aside0.mk (bb_ BK478.out hb)
  have n5_ := Aside0.mk (below_step (pb3_ HB.out GE476.out GE477.out GE478.out) hb)
  clear HO484
  clear BK476
  clear BK477
  clear BK478
  clear HB
  have HO484 := n0_
  have HO487 := n1_
  have BK476 := n2_
  have BK477 := n3_
  have BK478 := n4_
  have HB := n5_
  clear n0_ n1_ n2_ n3_ n4_ n5_
  (try clear hb)
  (try clear hb2)
  (try clear hk)
  (try clear hi)
  (try clear ho0)
  obtain ⟨Ao42, co42, eo42⟩ := Kd.S_slice HO487.out
  (first | subst eo42 | (injection eo42 with f1_ f2_ f3_; have f4_ := f1_.symm; have f5_ := f3_.symm; clear f1_ f2_ f3_; subst f4_; subst f5_))
  obtain ⟨Ao43, co43, eo43⟩ := Kd.R_slice HO484.out
  (first | subst eo43 | (injection eo43 with f1_ f2_ f3_; have f4_ := f1_.symm; have f5_ := f3_.symm; clear f1_ f2_ f3_; subst f4_; subst f5_))
  refine hK.out _ _ ⟨(blk_cell BK477.out 0).trans rfl, (blk_cell BK477.out 1).trans rfl⟩ (fun hHeld => ?_)
  clear hK K
  refine no_ (some 26) ?_
  refine pu_ 7 (some 27) (tf_ 8 10) HT_ ?_
  refine on_ 8 (none) (tf_ 9 10) HT_ (fun K hK => ?_)
  have hs44 : w41.cell? ⟨gb478, 0, none⟩ = some (.slice none 0 0) := (blk_cell BK478.out 0).trans rfl
  have hfs44 := blk_frozen BK478.out 0
  have hns44_0 := NB476_478.out
  have hns44_1 := NB477_478.out
  have hms44_0 := NB478_476.out
  have hms44_1 := NB478_477.out
  have hs45 : w41.cell? ⟨gb478, 1, none⟩ = some (.slice none 0 0) := (blk_cell BK478.out 1).trans rfl
  have hfs45 := blk_frozen BK478.out 1
  have hns45_0 := NB476_478.out
  have hns45_1 := NB477_478.out
  have hms45_0 := NB478_476.out
  have hms45_1 := NB478_477.out
  refine skip_ (w1 := ?_) (by rfl) rfl ?_ ?_
  rotate_left
  · go_simp
    rfl
  refine hK.out _ _ ⟨((cell_far (p := ⟨gb478, _, none⟩) NB477_478.out _).trans (((cell_far (p := ⟨gb478, _, none⟩) NB477_478.out _).trans (hHeld.1)))), ((cell_far (p := ⟨gb478, _, none⟩) NB477_478.out _).trans (((cell_far (p := ⟨gb478, _, none⟩) NB477_478.out _).trans (hHeld.2))))⟩ (fun hHeld => ?_)
  clear hK K
  refine pu_ 9 (some 5) (tf_ 10 10) HT_ ?_
  refine done_ (done_of HT_.out (by kernel_rfl)) ?_
  try go_wp2
  refine bodyPost_ret (results_ct rfl _ _ gb478 63 #[.slice Ao43 t482.length co43, .slice Ao42 t485.length co42] (0, 0) _ rfl (pp_ BK478.out) Try.underlying63 rfl (by kernel_rfl)) rfl ?_
  exact ⟨_, _, er_, pr_ (Kd.R_mono (rf2_ HO484.out BK478.out) (fun _ hk => trivial)), ps_ (Kd.S_mono (Kd.S_far (p := ⟨gb478, 1, none⟩) (Kd.S_far (p := ⟨gb478, 0, none⟩) (Kd.S_types HO487.out BK478.out (by decide)) (fun _ hk => hk.2) (.slice Ao43 t482.length co43)) (fun _ hk => hk.2) (.slice Ao42 t485.length co42)) (fun _ hk => hk.1.2)), pb3_ HB.out GE476.out GE477.out GE478.out⟩

/-! ### impl_PassPath: function 64 -/
mutual
def impl_PassPath.j0 : Nat → List (S50) → Bool → List Int → List (S69) → Option (List Int × (List (S69)) × Bool)
  | 0, _, _, _, _ => none
  | k + 1, x0, x16, x489000, x489001 => if x16 = true then (some (([] : List Int), ([] : List (S69)), false)) else ((impl_copyHello.f k x489000 x489001).bind fun bt491 => (impl_PassPath.l0 k x0 true 0 bt491.1 bt491.2))
def impl_PassPath.l0 : Nat → List (S50) → Bool → Int → List Int → List (S69) → Option (List Int × (List (S69)) × Bool)
  | 0, _, _, _, _, _ => none
  | k + 1, x0, x7, x8, x498000, x498001 => if x8 < (x0.length : Int) then (if x7 = true then (if 0 ≤ x8 then ((impl_PassBox.f k ((rd_T50 x0 x8).f0) ((rd_T50 x0 x8).f1) ((rd_T50 x0 x8).f2) ((rd_T50 x0 x8).f3) x498000 x498001).bind fun bt499 => (impl_PassPath.l0 k x0 bt499.2.2 (wrap64 (x8 + 1)) bt499.1 bt499.2.1)) else (none)) else (some (x498000, x498001, x7))) else (some (x498000, x498001, x7))
end
def impl_PassPath.f (k : Nat) (l0 : List (S50)) (l1_0 : List Int) (l1_1 : List (S69)) : Option (List Int × (List (S69)) × Bool) := (impl_IsHello.f k l1_0 l1_1).bind fun t490 => (if t490 = true then (impl_PassPath.j0 k l0 (decide ((l0.length : Int) > 4)) l1_0 l1_1) else (impl_PassPath.j0 k l0 true l1_0 l1_1))
theorem impl_PassPath.mono_l : ∀ k, (∀ y0 y1 y2 y3, LeO (impl_PassPath.j0 k y0 y1 y2 y3) (impl_PassPath.j0 (k + 1) y0 y1 y2 y3)) ∧ (∀ y0 y1 y2 y3 y4, LeO (impl_PassPath.l0 k y0 y1 y2 y3 y4) (impl_PassPath.l0 (k + 1) y0 y1 y2 y3 y4))
  | 0 => ⟨fun _ _ _ _ r h => by simp [impl_PassPath.j0] at h, fun _ _ _ _ _ r h => by simp [impl_PassPath.l0] at h⟩
  | k + 1 => by
    obtain ⟨ih0, ih1⟩ := impl_PassPath.mono_l k
    refine ⟨?_, ?_⟩
    · intro y0 y1 y2 y3
      unfold impl_PassPath.j0
      repeat' first
      | (with_reducible exact ih0 _ _ _ _)
      | (with_reducible exact ih1 _ _ _ _ _)
      | (with_reducible exact impl_IsHello.mono _ _ _)
      | (with_reducible exact impl_PassBox.mono _ _ _ _ _ _ _)
      | (with_reducible exact impl_copyHello.mono _ _ _)
      | (with_reducible exact LeO.refl _)
      | (with_reducible exact LeO.none _)
      | (with_reducible refine LeO.ite ?_ ?_)
      | (with_reducible refine LeO.bind ?_ (fun _ => ?_))
      | exact ih0 _ _ _ _
      | exact ih1 _ _ _ _ _
      | exact impl_IsHello.mono _ _ _
      | exact impl_PassBox.mono _ _ _ _ _ _ _
      | exact impl_copyHello.mono _ _ _
      | exact LeO.none _
      | refine LeO.ite ?_ ?_
      | refine LeO.bind ?_ (fun _ => ?_)
    · intro y0 y1 y2 y3 y4
      unfold impl_PassPath.l0
      repeat' first
      | (with_reducible exact ih0 _ _ _ _)
      | (with_reducible exact ih1 _ _ _ _ _)
      | (with_reducible exact impl_IsHello.mono _ _ _)
      | (with_reducible exact impl_PassBox.mono _ _ _ _ _ _ _)
      | (with_reducible exact impl_copyHello.mono _ _ _)
      | (with_reducible exact LeO.refl _)
      | (with_reducible exact LeO.none _)
      | (with_reducible refine LeO.ite ?_ ?_)
      | (with_reducible refine LeO.bind ?_ (fun _ => ?_))
      | exact ih0 _ _ _ _
      | exact ih1 _ _ _ _ _
      | exact impl_IsHello.mono _ _ _
      | exact impl_PassBox.mono _ _ _ _ _ _ _
      | exact impl_copyHello.mono _ _ _
      | exact LeO.none _
      | refine LeO.ite ?_ ?_
      | refine LeO.bind ?_ (fun _ => ?_)
theorem impl_PassPath.mono : ∀ a0 a1 a2 k, LeO (impl_PassPath.f k a0 a1 a2) (impl_PassPath.f (k + 1) a0 a1 a2) := by
  intro a0 a1 a2 k
  obtain ⟨ih0, ih1⟩ := impl_PassPath.mono_l k
  unfold impl_PassPath.f
  repeat' first
      | (with_reducible exact ih0 _ _ _ _)
      | (with_reducible exact ih1 _ _ _ _ _)
      | (with_reducible exact impl_IsHello.mono _ _ _)
      | (with_reducible exact impl_PassBox.mono _ _ _ _ _ _ _)
      | (with_reducible exact impl_copyHello.mono _ _ _)
      | (with_reducible exact LeO.refl _)
      | (with_reducible exact LeO.none _)
      | (with_reducible refine LeO.ite ?_ ?_)
      | (with_reducible refine LeO.bind ?_ (fun _ => ?_))
      | exact ih0 _ _ _ _
      | exact ih1 _ _ _ _ _
      | exact impl_IsHello.mono _ _ _
      | exact impl_PassBox.mono _ _ _ _ _ _ _
      | exact impl_copyHello.mono _ _ _
      | exact LeO.none _
      | refine LeO.ite ?_ ?_
      | refine LeO.bind ?_ (fun _ => ?_)
def impl_PassPath.T7 : Bool × List (List Nat × List Nat) := (true, [([], []), ([], []), ([0, 1], [0, 1]), ([2], [2]), ([], []), ([3, 4], [3, 4]), ([5], [5]), ([6], [6]), ([6], [6]), ([7, 5, 0, 1, 2, 3, 4, 5, 6, 7], [7]), ([8, 9, 0, 1, 2, 3, 4, 5, 6, 7, 8, 9], [8])])
def impl_PassPath.B7 : List Nat := [0, 0, 3, 7, 0, 31, 63, 127, 127, 255, 1023]
theorem impl_PassPath.tab7 : rtab .any (opsOf Try.f64 7) = impl_PassPath.T7 := by kernel_rfl
theorem impl_PassPath.bits7 : waitsOk impl_PassPath.T7.2 impl_PassPath.B7 = true := by kernel_rfl
set_option maxHeartbeats 8000000 in
set_option maxRecDepth 100000 in
theorem impl_PassPath.calls (k : Nat) (A0 : Option Addr) (c0 : Nat) (l0 : List (S50)) (A1_0 : Option Addr) (c1_0 : Nat) (l1_0 : List Int) (A1_1 : Option Addr) (c1_1 : Nat) (l1_1 : List (S69)) (r1 : List Int) (r2 : List (S69)) (r3 : Bool) (w : World) (hr0 : Kd.C k50 w A0 l0.length l0) (hc0 : l0.length ≤ c0) (hr1_0 : Kd.C (Kd.int .i64) w A1_0 l1_0.length l1_0) (hc1_0 : l1_0.length ≤ c1_0) (hr1_1 : Kd.C k69 w A1_1 l1_1.length l1_1) (hc1_1 : l1_1.length ≤ c1_1) (h : impl_PassPath.f k l0 l1_0 l1_1 = some (r1, r2, r3)) :
    Calls Try.prog 64 #[.slice A0 l0.length c0, .agg #[.slice A1_0 l1_0.length c1_0, .slice A1_1 l1_1.length c1_1]] w fun e w' => ∃ v0_ v1_ : Value, e = .returned (.tuple #[.agg #[v0_, v1_], .bool r3]) ∧ Kd.R (Kd.int .i64) 3 w' w.heap.size (fun _ => True) v0_ r1 ∧ Kd.S k69 69 w' w.heap.size (fun k_ => some k_ ≠ (v0_ : Value).ownBlock) v1_ r2 ∧ Below w.heap.size w w' := by
  have hu63 := Try.underlying63
  have hu50 := Try.underlying50
  have HR0 := Aside0.mk hr0
  have HC0 := Aside0.mk hc0
  clear hr0 hc0
  have HR1_0 := Aside0.mk hr1_0
  have HC1_0 := Aside0.mk hc1_0
  clear hr1_0 hc1_0
  have HR1_1 := Aside0.mk hr1_1
  have HC1_1 := Aside0.mk hc1_1
  clear hr1_1 hc1_1
  have HB := Aside0.mk (Below.refl w.heap.size w)
  have H : ((impl_IsHello.f k l1_0 l1_1).bind fun t490 => (if t490 = true then (impl_PassPath.j0 k l0 (decide ((l0.length : Int) > 4)) l1_0 l1_1) else (impl_PassPath.j0 k l0 true l1_0 l1_1))) = some (r1, r2, r3) := h
  clear h
  have HC3 := Aside0.mk H
  clear H
  go_enter Try.func64, Try.ntmps64
  go_upto_region 1 with (first | ((with_reducible refine gate_dst (N := 3) rfl ?_); (try (refine gate_guard (by rfl) ?_; dsimp only)); refine box_event ?hg (N := 3) ?hd (cs := #[.slice A1_0 l1_0.length c1_0, .slice A1_1 l1_1.length c1_1]) (t := 63) ?hr ?_; (case hd => rfl); (case hg => rfl); (case hr => first | (go_simp; done) | (go_simp; rfl)); intro gb488 hg w4 hbox hb; have n0_ := Aside0.mk (below_step (pb_ HB.out) hb); have n1_ := Aside0.mk (hbox); have n2_ := Aside0.mk ((by rw [hg]; exact (below_size (pb_ HB.out)) : w.heap.size ≤ gb488)); have n3_ := Aside0.mk ((by rw [hg]; exact (below_size (pb_ HB.out)) : w.heap.size ≤ gb488)); clear HB; have HB := n0_; have BK488 := n1_; have GW488 := n2_; have GE488 := n3_; clear n0_ n1_ n2_ n3_; clear hb hbox hg) | ((with_reducible refine gate_dst (N := 4) rfl ?_); (try (refine gate_guard (by rfl) ?_; dsimp only)); refine box_event ?hg (N := 4) ?hd (cs := #[.slice none 0 0, .slice none 0 0]) (t := 63) ?hr ?_; (case hd => rfl); (case hg => rfl); (case hr => first | (go_simp; done) | (go_simp; rfl)); intro gb489 hg w5 hbox hb; have n0_ := Aside0.mk (bb_ BK488.out hb); have n1_ := Aside0.mk (below_step (pb1_ HB.out GE488.out) hb); have n2_ := Aside0.mk (hbox); have n3_ := Aside0.mk ((by rw [hg]; exact (below_size (pb1_ HB.out GE488.out)) : w.heap.size ≤ gb489)); have n4_ := Aside0.mk ((by rw [hg]; exact (below_size (pb1_ HB.out GE488.out)) : w.heap.size ≤ gb489)); have n5_ := Aside0.mk ((by rw [hg]; exact Nat.ne_of_lt (blk_lt (pk_ BK488.out)) : gb488 ≠ gb489)); have n6_ := Aside0.mk ((by rw [hg]; exact Nat.ne_of_gt (blk_lt (pk_ BK488.out)) : gb489 ≠ gb488)); clear BK488; clear HB; have BK488 := n0_; have HB := n1_; have BK489 := n2_; have GW489 := n3_; have GE489 := n4_; have NB488_489 := n5_; have NB489_488 := n6_; clear n0_ n1_ n2_ n3_ n4_ n5_ n6_; clear hb hbox hg))
  (try simp only [Act.put, List.setIfInBounds_toArray, List.set_cons_zero, List.set_cons_succ])
  go_cut [16] (fun v16 wc => ∃ (kq : Nat) (x16_2 : Bool), v16 = .bool x16_2 ∧ Aside0 (impl_PassPath.j0 kq l0 x16_2 l1_0 l1_1 = some (r1, r2, r3)) ∧ Aside0 (kq ≤ k) ∧ Aside0 (wc.heap[gb488]? = some (.cells #[(.slice A1_0 l1_0.length c1_0), (.slice A1_1 l1_1.length c1_1)] 63 (0, 0))) ∧ Aside0 (wc.heap[gb489]? = some (.cells #[(.slice none 0 0), (.slice none 0 0)] 63 (0, 0))) ∧ Aside0 (Below w.heap.size w wc))
  case first =>
    have H := HC3.out
    clear HC3
    replace H := Option.bind_eq_some_iff.mp H
    obtain ⟨t490, A60, H⟩ := H
    (try dsimp only at H)
    have A6 := Aside0.mk A60
    clear A60
    by_cases c7 : t490 = true
    rotate_left
    · replace c7 := Bool.eq_false_iff.mpr c7
      subst c7
      rw [if_neg (show ¬ (false = true) by decide)] at H
      have H' := Aside0.mk H
      clear H
      have hnb8 := NB488_489.out
      have hnc8 := NB489_488.out
      obtain ⟨hcz9_0, hcz9_1, hfz9_0, hfz9_1⟩ := bc2_ BK488.out
      go_wp2_with (first | ((with_reducible refine gate_callee (f := 84) rfl ?_); refine goesL_ (some 10) rfl rfl Try.func84 (by kernel_rfl) rfl #[.agg #[.slice A1_0 l1_0.length c1_0, .slice A1_1 l1_1.length c1_1]] rfl mp_ ?_; (with_reducible refine (impl_IsHello.calls k _ _ l1_0 _ _ l1_1 false _ ?side1 ?side2 ?side3 ?side4 A6.out).mono ?_); (case side1 => exact pc_ (Kd.C_below HR1_0.out HB.out)); (case side2 => exact HC1_0.out); (case side3 => exact pc_ (Kd.C_below HR1_1.out HB.out)); (case side4 => exact HC1_1.out); rintro e w10 ⟨rfl, hb⟩; refine ⟨_, rfl, ?_⟩; have n0_ := Aside0.mk (bb_ BK488.out hb); have n1_ := Aside0.mk (bb_ BK489.out hb); have n2_ := Aside0.mk (below_step (pb2_ HB.out GE488.out GE489.out) hb); clear BK488; clear BK489; clear HB; have BK488 := n0_; have BK489 := n1_; have HB := n2_; clear n0_ n1_ n2_; (try clear hb); (try clear hb2); (try clear hk); (try clear hi)))
      go_meet
      case rel => exact ⟨_, (true), el_, H', ⟨by first | omega | exact Nat.le_refl _⟩, ⟨pk_ BK488.out⟩, ⟨pk_ BK489.out⟩, ⟨pb2_ HB.out GE488.out GE489.out⟩⟩
    subst c7
    rw [if_pos rfl] at H
    have H' := Aside0.mk H
    clear H
    have hnb11 := NB488_489.out
    have hnc11 := NB489_488.out
    obtain ⟨hcz12_0, hcz12_1, hfz12_0, hfz12_1⟩ := bc2_ BK488.out
    go_wp2_with (first | ((with_reducible refine gate_callee (f := 84) rfl ?_); refine goesL_ (some 10) rfl rfl Try.func84 (by kernel_rfl) rfl #[.agg #[.slice A1_0 l1_0.length c1_0, .slice A1_1 l1_1.length c1_1]] rfl mp_ ?_; (with_reducible refine (impl_IsHello.calls k _ _ l1_0 _ _ l1_1 true _ ?side1 ?side2 ?side3 ?side4 A6.out).mono ?_); (case side1 => exact pc_ (Kd.C_below HR1_0.out HB.out)); (case side2 => exact HC1_0.out); (case side3 => exact pc_ (Kd.C_below HR1_1.out HB.out)); (case side4 => exact HC1_1.out); rintro e w13 ⟨rfl, hb⟩; refine ⟨_, rfl, ?_⟩; have n0_ := Aside0.mk (bb_ BK488.out hb); have n1_ := Aside0.mk (bb_ BK489.out hb); have n2_ := Aside0.mk (below_step (pb2_ HB.out GE488.out GE489.out) hb); clear BK488; clear BK489; clear HB; have BK488 := n0_; have BK489 := n1_; have HB := n2_; clear n0_ n1_ n2_; (try clear hb); (try clear hb2); (try clear hk); (try clear hi)))
    go_meet
    case rel => exact ⟨_, (decide ((l0.length : Int) > 4)), el_, H', ⟨by first | omega | exact Nat.le_refl _⟩, ⟨pk_ BK488.out⟩, ⟨pk_ BK489.out⟩, ⟨pb2_ HB.out GE488.out GE489.out⟩⟩
  clear HC3
  try clear c1
  try clear p2
  try clear c6
  try clear c7
  try clear c8
  try clear c11
  try clear hcz12_0
  try clear hcz12_1
  try clear hcz9_0
  try clear hcz9_1
  try clear hfz12_0
  try clear hfz12_1
  try clear hfz9_0
  try clear hfz9_1
  obtain ⟨kq, x16_2, rfl, HA, HJ2, BK488, BK489, HB⟩ := hcut
  rcases kq with _ | kj2
  · exact absurd HA.out (by simp [impl_PassPath.j0])
  have H := HA.out
  clear HA
  simp only [impl_PassPath.j0] at H
  by_cases c14 : x16_2 = true
  · subst c14
    rw [if_pos rfl] at H
    simp only [Option.some.injEq, Prod.mk.injEq] at H
    obtain ⟨rfl, rfl, rfl⟩ := H
    have hnb15 := NB489_488.out
    have hnc15 := NB488_489.out
    obtain ⟨hcz16_0, hcz16_1, hfz16_0, hfz16_1⟩ := bc2_ BK489.out
    go_wp2
    refine bodyPost_ret (results_ct rfl _ _ gb489 63 #[.slice none 0 0, .slice none 0 0] (0, 0) _ rfl (pp_ BK489.out) Try.underlying63 rfl (by kernel_rfl)) rfl ?_
    exact ⟨_, _, er_, by first | exact Kd.R_nil _ _ _ _ _ | exact Kd.N_nil _ _ _ _ _ | exact Kd.V_nil _ _ _ _ _ | exact Kd.Q_nil _ _ _ _ _ | exact Kd.S_nil _ _ _ _ _, by first | exact Kd.S_nil _ _ _ _ _ | exact Kd.N_nil _ _ _ _ _ | exact Kd.V_nil _ _ _ _ _ | exact Kd.Q_nil _ _ _ _ _ | exact Kd.R_nil _ _ _ _ _, pb2_ HB.out GE488.out GE489.out⟩
  replace c14 := Bool.eq_false_iff.mpr c14
  subst c14
  rw [if_neg (show ¬ (false = true) by decide)] at H
  replace H := Option.bind_eq_some_iff.mp H
  obtain ⟨⟨t491, t494⟩, A170, H⟩ := H
  replace H : (impl_PassPath.l0 kj2 l0 true 0 t491 t494) = some (r1, r2, r3) := H
  have A17 := Aside0.mk A170
  clear A170
  have H' := Aside0.mk H
  clear H
  have hnb18 := NB488_489.out
  have hnc18 := NB489_488.out
  obtain ⟨hcz19_0, hcz19_1, hfz19_0, hfz19_1⟩ := bc2_ BK488.out
  go_wp2_with (first | ((with_reducible refine gate_callee (f := 85) rfl ?_); refine goesL_ (some 19) rfl rfl Try.func85 (by kernel_rfl) rfl #[.agg #[.slice A1_0 l1_0.length c1_0, .slice A1_1 l1_1.length c1_1]] rfl mp_ ?_; (with_reducible refine (impl_copyHello.calls kj2 _ _ l1_0 _ _ l1_1 t491 t494 _ ?side1 ?side2 ?side3 ?side4 A17.out).mono ?_); (case side1 => exact pc_ (Kd.C_below HR1_0.out HB.out)); (case side2 => exact HC1_0.out); (case side3 => exact pc_ (Kd.C_below HR1_1.out HB.out)); (case side4 => exact HC1_1.out); rintro e w20 ⟨v492, v495, rfl, ho0, ho1, hb⟩; refine ⟨_, rfl, ?_⟩; have n0_ := Aside0.mk (Kd.R_lower ho0 (below_size (pb2_ HB.out GE488.out GE489.out))); have n1_ := Aside0.mk (Kd.S_lower ho1 (below_size (pb2_ HB.out GE488.out GE489.out))); have n2_ := Aside0.mk (bb_ BK488.out hb); have n3_ := Aside0.mk (bb_ BK489.out hb); have n4_ := Aside0.mk (below_step (pb2_ HB.out GE488.out GE489.out) hb); clear BK488; clear BK489; clear HB; have HO493 := n0_; have HO496 := n1_; have BK488 := n2_; have BK489 := n3_; have HB := n4_; clear n0_ n1_ n2_ n3_ n4_; (try clear hb); (try clear hb2); (try clear hk); (try clear hi); (try clear ho0); (try clear ho1)) | ((with_reducible refine gate_dst (N := 6) rfl ?_); (try (refine gate_guard (by rfl) ?_; dsimp only)); refine box_event ?hg (N := 6) ?hd (cs := #[.slice none 0 0, .slice none 0 0]) (t := 63) ?hr ?_; (case hd => rfl); (case hg => rfl); (case hr => first | (go_simp; done) | (go_simp; rfl)); intro gb497 hg w21 hbox hb; have n0_ := Aside0.mk (Kd.R_below (pr_ HO493.out) hb); have n1_ := Aside0.mk (Kd.S_below (ps_ HO496.out) hb); have n2_ := Aside0.mk (bb_ BK488.out hb); have n3_ := Aside0.mk (bb_ BK489.out hb); have n4_ := Aside0.mk (below_step (pb2_ HB.out GE488.out GE489.out) hb); have n5_ := Aside0.mk (hbox); have n6_ := Aside0.mk ((by rw [hg]; exact (below_size (pb2_ HB.out GE488.out GE489.out)) : w.heap.size ≤ gb497)); have n7_ := Aside0.mk ((by rw [hg]; exact (below_size (pb2_ HB.out GE488.out GE489.out)) : w.heap.size ≤ gb497)); have n8_ := Aside0.mk ((by rw [hg]; exact Nat.ne_of_lt (blk_lt (pk_ BK488.out)) : gb488 ≠ gb497)); have n9_ := Aside0.mk ((by rw [hg]; exact Nat.ne_of_gt (blk_lt (pk_ BK488.out)) : gb497 ≠ gb488)); have n10_ := Aside0.mk ((by rw [hg]; exact Nat.ne_of_lt (blk_lt (pk_ BK489.out)) : gb489 ≠ gb497)); have n11_ := Aside0.mk ((by rw [hg]; exact Nat.ne_of_gt (blk_lt (pk_ BK489.out)) : gb497 ≠ gb489)); clear HO493; clear HO496; clear BK488; clear BK489; clear HB; have HO493 := n0_; have HO496 := n1_; have BK488 := n2_; have BK489 := n3_; have HB := n4_; have BK497 := n5_; have GW497 := n6_; have GE497 := n7_; have NB488_497 := n8_; have NB497_488 := n9_; have NB489_497 := n10_; have NB497_489 := n11_; clear n0_ n1_ n2_ n3_ n4_ n5_ n6_ n7_ n8_ n9_ n10_ n11_; clear hb hbox hg; obtain ⟨Ao22, co22, eo22⟩ := Kd.R_slice HO493.out; subst eo22; have hnb23 := NB497_488.out; have hnc23 := NB488_497.out; have hnb24 := NB497_489.out; have hnc24 := NB489_497.out; have hcz25_0 : w21.cell? ⟨gb497, 0, none⟩ = some (.slice none 0 0) := (blk_cell BK497.out 0).trans rfl; have hcz25_1 : w21.cell? ⟨gb497, 1, none⟩ = some (.slice none 0 0) := (blk_cell BK497.out 1).trans rfl; have hfz25_0 := blk_frozen BK497.out 0; have hfz25_1 := blk_frozen BK497.out 1; obtain ⟨Ao26, co26, eo26⟩ := Kd.S_slice HO496.out; subst eo26))
  (try simp only [Act.put, List.setIfInBounds_toArray, List.set_cons_zero, List.set_cons_succ])
  go_loopg [7, 8] kj2 (fun kq v7 v8 w' => ∃ (x7_2 : Bool) (x8_2 : Int) (x498000_2 : List Int) (x498001_2 : List (S69)) (u498000 : Value) (u498001 : Value), v7 = .bool x7_2 ∧ v8 = .int .i64 x8_2 ∧ Aside0 (impl_PassPath.l0 kq l0 x7_2 x8_2 x498000_2 x498001_2 = some (r1, r2, r3)) ∧ Aside0 (kq ≤ kj2) ∧ Aside0 (Kd.R (Kd.int .i64) 3 w' w.heap.size (fun _ => True) u498000 x498000_2) ∧ Aside0 (Kd.S k69 69 w' w.heap.size (fun k_ => some k_ ≠ (u498000 : Value).ownBlock) u498001 x498001_2) ∧ Aside0 (w'.heap[gb488]? = some (.cells #[(.slice A1_0 l1_0.length c1_0), (.slice A1_1 l1_1.length c1_1)] 63 (0, 0))) ∧ Aside0 (w'.heap[gb489]? = some (.cells #[(.slice none 0 0), (.slice none 0 0)] 63 (0, 0))) ∧ Aside0 (w'.heap[gb497]? = some (.cells #[u498000, u498001] 63 (0, 0))) ∧ Aside0 (Below w.heap.size w w'))
  case atStart => exact ⟨(true), (0), (t491), (t494), (.slice Ao22 t491.length co22), (.slice Ao26 t494.length co26), el_, el_, H', ⟨Nat.le_refl _⟩, ⟨pr_ (Kd.R_mono (rf2_ HO493.out BK497.out) (fun _ hk => trivial))⟩, ⟨ps_ (Kd.S_mono (Kd.S_far (p := ⟨gb497, 1, none⟩) (Kd.S_far (p := ⟨gb497, 0, none⟩) (Kd.S_types HO496.out BK497.out (by decide)) (fun _ hk => hk.2) (.slice Ao22 t491.length co22)) (fun _ hk => hk.2) (.slice Ao26 t494.length co26)) (fun _ hk => hk.1))⟩, ⟨pp_ BK488.out⟩, ⟨pp_ BK489.out⟩, ⟨pp_ BK497.out⟩, ⟨pb3_ HB.out GE488.out GE489.out GE497.out⟩⟩
  clear H'
  try clear c1
  try clear c2
  try clear p2
  try clear c6
  try clear c7
  try clear c8
  try clear c11
  try clear c14
  try clear c15
  try clear c18
  try clear c23
  try clear c24
  try clear hcz12_0
  try clear hcz12_1
  try clear hcz16_0
  try clear hcz16_1
  try clear hcz19_0
  try clear hcz19_1
  try clear hcz25_0
  try clear hcz25_1
  try clear hcz9_0
  try clear hcz9_1
  try clear hfz12_0
  try clear hfz12_1
  try clear hfz16_0
  try clear hfz16_1
  try clear hfz19_0
  try clear hfz19_1
  try clear hfz25_0
  try clear hfz25_1
  try clear hfz9_0
  try clear hfz9_1
  try clear p2
  obtain ⟨x7_2, x8_2, x498000_2, x498001_2, u498000, u498001, rfl, rfl, HA, HK2, HO_498000, HO_498001, BK488, BK489, BK497, HB⟩ := hrel
  rcases gk with _ | k2
  · exact absurd HA.out (by simp [impl_PassPath.l0])
  have H := HA.out
  clear HA
  simp only [impl_PassPath.l0] at H
  by_cases c27 : x8_2 < (l0.length : Int)
  rotate_left
  · rw [if_neg c27] at H
    have c27b0 : decide (x8_2 < (l0.length : Int)) = false := decide_eq_false c27
    clear c27
    simp only [Option.some.injEq, Prod.mk.injEq] at H
    obtain ⟨rfl, rfl, rfl⟩ := H
    have hnb28 := NB497_488.out
    have hnc28 := NB488_497.out
    have hnb29 := NB497_489.out
    have hnc29 := NB489_497.out
    obtain ⟨hcz30_0, hcz30_1, hfz30_0, hfz30_1⟩ := bc2_ BK497.out
    obtain ⟨Ao31, co31, eo31⟩ := Kd.R_slice HO_498000.out
    subst eo31
    have hnb32 := NB489_488.out
    have hnc32 := NB488_489.out
    obtain ⟨hcz33_0, hcz33_1, hfz33_0, hfz33_1⟩ := bc2_ BK489.out
    obtain ⟨Ao34, co34, eo34⟩ := Kd.S_slice HO_498001.out
    subst eo34
    go_wp2
    refine bodyPost_ret (results_ct rfl _ _ gb489 63 #[.slice Ao31 x498000_2.length co31, .slice Ao34 x498001_2.length co34] (0, 0) _ rfl (pp_ BK489.out) Try.underlying63 rfl (by kernel_rfl)) rfl ?_
    exact ⟨_, _, er_, pr_ (Kd.R_mono (rf2_ HO_498000.out BK489.out) (fun _ hk => trivial)), ps_ (Kd.S_mono (Kd.S_far (p := ⟨gb489, 1, none⟩) (Kd.S_far (p := ⟨gb489, 0, none⟩) (Kd.S_types HO_498001.out BK489.out (by decide)) (fun _ hk => hk.2) (.slice Ao31 x498000_2.length co31)) (fun _ hk => hk.2) (.slice Ao34 x498001_2.length co34)) (fun _ hk => hk.1)), pb3_ HB.out GE488.out GE489.out GE497.out⟩
  rw [if_pos c27] at H
  have c27b0 : decide (x8_2 < (l0.length : Int)) = true := decide_eq_true c27
  clear c27
  by_cases c35 : x7_2 = true
  rotate_left
  · replace c35 := Bool.eq_false_iff.mpr c35
    subst c35
    rw [if_neg (show ¬ (false = true) by decide)] at H
    simp only [Option.some.injEq, Prod.mk.injEq] at H
    obtain ⟨rfl, rfl, rfl⟩ := H
    have hnb36 := NB497_488.out
    have hnc36 := NB488_497.out
    have hnb37 := NB497_489.out
    have hnc37 := NB489_497.out
    obtain ⟨hcz38_0, hcz38_1, hfz38_0, hfz38_1⟩ := bc2_ BK497.out
    obtain ⟨Ao39, co39, eo39⟩ := Kd.R_slice HO_498000.out
    subst eo39
    have hnb40 := NB489_488.out
    have hnc40 := NB488_489.out
    obtain ⟨hcz41_0, hcz41_1, hfz41_0, hfz41_1⟩ := bc2_ BK489.out
    obtain ⟨Ao42, co42, eo42⟩ := Kd.S_slice HO_498001.out
    subst eo42
    go_wp2
    refine bodyPost_ret (results_ct rfl _ _ gb489 63 #[.slice Ao39 x498000_2.length co39, .slice Ao42 x498001_2.length co42] (0, 0) _ rfl (pp_ BK489.out) Try.underlying63 rfl (by kernel_rfl)) rfl ?_
    exact ⟨_, _, er_, pr_ (Kd.R_mono (rf2_ HO_498000.out BK489.out) (fun _ hk => trivial)), ps_ (Kd.S_mono (Kd.S_far (p := ⟨gb489, 1, none⟩) (Kd.S_far (p := ⟨gb489, 0, none⟩) (Kd.S_types HO_498001.out BK489.out (by decide)) (fun _ hk => hk.2) (.slice Ao39 x498000_2.length co39)) (fun _ hk => hk.2) (.slice Ao42 x498001_2.length co42)) (fun _ hk => hk.1)), pb3_ HB.out GE488.out GE489.out GE497.out⟩
  subst c35
  rw [if_pos rfl] at H
  by_cases c43 : 0 ≤ x8_2
  rotate_left
  · rw [if_neg c43] at H
    exact absurd H (by simp)
  rw [if_pos c43] at H
  have c43b0 : decide (0 ≤ x8_2) = true := decide_eq_true c43
  clear c43
  replace H := Option.bind_eq_some_iff.mp H
  obtain ⟨⟨t499, t502, t505⟩, A440, H⟩ := H
  (try dsimp only at H)
  have A44 := Aside0.mk A440
  clear A440
  have H' := Aside0.mk H
  clear H
  try go_wp2
  have n0_ := Aside0.mk (Kd.R_drew HO_498000.out)
  have n1_ := Aside0.mk (Kd.S_drew HO_498001.out)
  have n2_ := Aside0.mk (blk_drew BK488.out)
  have n3_ := Aside0.mk (blk_drew BK489.out)
  have n4_ := Aside0.mk (blk_drew BK497.out)
  have n5_ := Aside0.mk (below_drew1 HB.out)
  clear HO_498000
  clear HO_498001
  clear BK488
  clear BK489
  clear BK497
  clear HB
  have HO_498000 := n0_
  have HO_498001 := n1_
  have BK488 := n2_
  have BK489 := n3_
  have BK497 := n4_
  have HB := n5_
  clear n0_ n1_ n2_ n3_ n4_ n5_
  have p498 : 0 ≤ (x8_2 : Int) := dt_
  have q498 : x8_2 < (l0.length : Int) := dt_
  obtain ⟨ad498, A498_1, c498_1, A498_2, c498_2, e498, hx498_0, hx498_1, hx498_2, hx498_3, hl498_1, hi498_1, hl498_2, hi498_2⟩ := at_T50 HR0.out x8_2 p498 q498
  have hw498_3 := hx498_3
  have hw498_2 := hx498_2
  have hw498_1 := hx498_1
  have hw498_0 := hx498_0
  cases e498
  replace hx498_0 := (HB.out.cell (World.block_lt_of_cell? w _ hx498_0)).trans hx498_0
  replace hx498_1 := (HB.out.cell (World.block_lt_of_cell? w _ hx498_1)).trans hx498_1
  replace hx498_2 := (HB.out.cell (World.block_lt_of_cell? w _ hx498_2)).trans hx498_2
  replace hx498_3 := (HB.out.cell (World.block_lt_of_cell? w _ hx498_3)).trans hx498_3
  have HR498_1 := Aside0.mk hi498_1
  have HC498_1 := Aside0.mk hl498_1
  clear hi498_1 hl498_1
  have HR498_2 := Aside0.mk hi498_2
  have HC498_2 := Aside0.mk hl498_2
  clear hi498_2 hl498_2
  replace p498 := eq_true p498
  replace q498 := eq_true q498
  obtain ⟨Ao46, co46, eo46⟩ := Kd.R_slice HO_498000.out
  (first | subst eo46 | (injection eo46 with f1_ f2_ f3_; have f4_ := f1_.symm; have f5_ := f3_.symm; clear f1_ f2_ f3_; subst f4_; subst f5_))
  obtain ⟨Ao47, co47, eo47⟩ := Kd.S_slice HO_498001.out
  (first | subst eo47 | (injection eo47 with f1_ f2_ f3_; have f4_ := f1_.symm; have f5_ := f3_.symm; clear f1_ f2_ f3_; subst f4_; subst f5_))
  refine start_ (n := 11) (S := fun w' => w'.cell? ⟨gb497, 0, none⟩ = some (.slice Ao46 x498000_2.length co46) ∧ w'.cell? ⟨gb497, 1, none⟩ = some (.slice Ao47 x498001_2.length co47) ∧ w'.cell? (ad498.add ((x8_2).toNat * 4)) = some (.int .i64 ((rd_T50 l0 x8_2).f0)) ∧ w'.cell? ⟨(ad498.add ((x8_2).toNat * 4)).block, (ad498.add ((x8_2).toNat * 4)).off + 1, none⟩ = some (.slice A498_1 ((rd_T50 l0 x8_2).f1).length c498_1) ∧ w'.cell? ⟨(ad498.add ((x8_2).toNat * 4)).block, (ad498.add ((x8_2).toNat * 4)).off + 2, none⟩ = some (.slice A498_2 ((rd_T50 l0 x8_2).f2).length c498_2) ∧ w'.cell? ⟨(ad498.add ((x8_2).toNat * 4)).block, (ad498.add ((x8_2).toNat * 4)).off + 3, none⟩ = some (.bool ((rd_T50 l0 x8_2).f3))) (ds := [9]) #[false, false, false, false, false, false, false, false, false, false, false] (by kernel_rfl) rfl rfl ⟨(blk_cell BK497.out 0).trans rfl, (blk_cell BK497.out 1).trans rfl, ((HB.out.cell (World.block_lt_of_cell? w _ hw498_0)).trans hw498_0), ((HB.out.cell (World.block_lt_of_cell? w _ hw498_1)).trans hw498_1), ((HB.out.cell (World.block_lt_of_cell? w _ hw498_2)).trans hw498_2), ((HB.out.cell (World.block_lt_of_cell? w _ hw498_3)).trans hw498_3)⟩ (fun hHeld => ?_); refine with_tabW impl_PassPath.tab7 impl_PassPath.bits7 (fun HT_ HW_ => ?_)
  generalize wr.drew = w45 at HO_498000 HO_498001 BK488 BK489 BK497 HB HR498_1 HR498_2 hx498_0 hx498_1 hx498_2 hx498_3 hHeld ⊢
  refine pu_ 0 (some 30) (tf_ 1 11) HT_ ?_
  refine pu_ 1 (some 31) (tf_ 2 11) HT_ ?_
  refine pu_ 2 (some 32) (tf_ 3 11) HT_ ?_
  refine ta_ 3 (some 33) (tf_ 4 11) HT_ HW_ hHeld ?_
  refine ta_ 4 (some 34) (tf_ 5 11) HT_ HW_ hHeld ?_
  refine on_ 5 (some 35) (tf_ 6 11) HT_ (fun K hK => ?_)
  refine goes_ Try.func86 (by kernel_rfl) rfl #[.agg #[.int .i64 ((rd_T50 l0 x8_2).f0), .slice A498_1 ((rd_T50 l0 x8_2).f1).length c498_1, .slice A498_2 ((rd_T50 l0 x8_2).f2).length c498_2, .bool ((rd_T50 l0 x8_2).f3)], .agg #[.slice Ao46 x498000_2.length co46, .slice Ao47 x498001_2.length co47]] (by rfl) rfl rfl mp_ ?_
  with_reducible refine (impl_PassBox.calls k2 ((rd_T50 l0 x8_2).f0) _ _ ((rd_T50 l0 x8_2).f1) _ _ ((rd_T50 l0 x8_2).f2) ((rd_T50 l0 x8_2).f3) _ _ x498000_2 _ _ x498001_2 t499 t502 t505 _ ?side1 ?side2 ?side3 ?side4 ?side5 ?side6 ?side7 ?side8 A44.out).mono ?_
  (case side1 => exact pc_ (Kd.C_below HR498_1.out HB.out))
  (case side2 => exact HC498_1.out)
  (case side3 => exact pc_ (Kd.C_below HR498_2.out HB.out))
  (case side4 => exact HC498_2.out)
  (case side5 => exact pc_ ((Kd.R_reads' HO_498000.out).2.2))
  (case side6 => exact (Kd.R_reads' HO_498000.out).2.1)
  (case side7 => exact pc_ ((Kd.S_reads' HO_498001.out).2.2))
  (case side8 => exact (Kd.S_reads' HO_498001.out).2.1)
  rintro e w48 ⟨v500, v503, rfl, ho0, ho1, hb⟩
  refine ⟨_, rfl, ?_⟩
  have n0_ := Aside0.mk (Kd.R_elder' (pr_ HO_498000.out) (Kd.R_base ho0) hb)
  have n1_ := Aside0.mk (Kd.S_mono (Kd.S_told (Kd.S_told (Kd.S_old (ps_ HO_498001.out) hb) (Kd.R_base ho0)) (Kd.S_base ho1)) (fun _ h_ => h_.1))
  have n2_ := Aside0.mk (Kd.R_lower (Kd.R_new' ho0 (Kd.R_lt (pr_ HO_498000.out))) (below_size (pb3_ HB.out GE488.out GE489.out GE497.out)))
  have n3_ := Aside0.mk (Kd.S_lower (Kd.S_new' (Kd.S_new' ho1 (Kd.R_lt (pr_ HO_498000.out))) (Kd.S_lt (ps_ HO_498001.out))) (below_size (pb3_ HB.out GE488.out GE489.out GE497.out)))
  have n4_ := Aside0.mk (bb_ BK488.out hb)
  have n5_ := Aside0.mk (bb_ BK489.out hb)
  have n6_ := Aside0.mk (bb_ BK497.out hb)
  have n7_ := Aside0.mk (below_step (pb3_ HB.out GE488.out GE489.out GE497.out) hb)
  clear HO_498000
  clear HO_498001
  clear BK488
  clear BK489
  clear BK497
  clear HB
  have HO_498000 := n0_
  have HO_498001 := n1_
  have HO501 := n2_
  have HO504 := n3_
  have BK488 := n4_
  have BK489 := n5_
  have BK497 := n6_
  have HB := n7_
  clear n0_ n1_ n2_ n3_ n4_ n5_ n6_ n7_
  (try clear hb)
  (try clear hb2)
  (try clear hk)
  (try clear hi)
  (try clear ho0)
  (try clear ho1)
  obtain ⟨Ao49, co49, eo49⟩ := Kd.R_slice HO501.out
  (first | subst eo49 | (injection eo49 with f1_ f2_ f3_; have f4_ := f1_.symm; have f5_ := f3_.symm; clear f1_ f2_ f3_; subst f4_; subst f5_))
  obtain ⟨Ao51, co51, eo51⟩ := Kd.S_slice HO504.out
  (first | subst eo51 | (injection eo51 with f1_ f2_ f3_; have f4_ := f1_.symm; have f5_ := f3_.symm; clear f1_ f2_ f3_; subst f4_; subst f5_))
  refine hK.out _ _ ⟨(blk_cell BK497.out 0).trans rfl, (blk_cell BK497.out 1).trans rfl, ((HB.out.cell (World.block_lt_of_cell? w _ hw498_0)).trans hw498_0), ((HB.out.cell (World.block_lt_of_cell? w _ hw498_1)).trans hw498_1), ((HB.out.cell (World.block_lt_of_cell? w _ hw498_2)).trans hw498_2), ((HB.out.cell (World.block_lt_of_cell? w _ hw498_3)).trans hw498_3)⟩ (fun hHeld => ?_)
  clear hK K
  refine no_ (some 35) ?_
  refine pu_ 6 (some 29) (tf_ 7 11) HT_ ?_
  refine pu_ 7 (some 36) (tf_ 8 11) HT_ ?_
  refine pu_ 8 (some 37) (tf_ 9 11) HT_ ?_
  refine last_ (i := 9) (N := none) #[true, true, true, true, true, true, true, true, true, true, false] rfl rfl (one_of HT_.out (by kernel_rfl)) (by decide) (fun K hK => ?_)
  have hs50 : w48.cell? ⟨gb497, 0, none⟩ = some (.slice Ao46 x498000_2.length co46) := (blk_cell BK497.out 0).trans rfl
  have hfs50 := blk_frozen BK497.out 0
  have hns50_0 := NB488_497.out
  have hns50_1 := NB489_497.out
  have hms50_0 := NB497_488.out
  have hms50_1 := NB497_489.out
  have hs52 : w48.cell? ⟨gb497, 1, none⟩ = some (.slice Ao47 x498001_2.length co47) := (blk_cell BK497.out 1).trans rfl
  have hfs52 := blk_frozen BK497.out 1
  have hns52_0 := NB488_497.out
  have hns52_1 := NB489_497.out
  have hms52_0 := NB497_488.out
  have hms52_1 := NB497_489.out
  refine skip_ (w1 := ?_) (by rfl) rfl ?_ ?_
  rotate_left
  · go_simp
    rfl
  refine hK.out _ _ ?_
  clear hK K
  refine pu_ 10 (some 7) (tf_ 11 11) HT_ ?_
  refine done_ (done_of HT_.out (by kernel_rfl)) ?_
  try go_wp2
  go_roundg k2
  case measure => have := HJ2.out; have := HK2.out; omega
  case rel => exact ⟨(t505), (wrap64 (x8_2 + 1)), (t499), (t502), (.slice Ao49 t499.length co49), (.slice Ao51 t502.length co51), el_, el_, H', ⟨by have := HJ2.out; have := HK2.out; omega⟩, ⟨pr_ (Kd.R_mono (rf2_ HO501.out BK497.out) (fun _ hk => trivial))⟩, ⟨ps_ (Kd.S_mono (Kd.S_far (p := ⟨gb497, 1, none⟩) (Kd.S_far (p := ⟨gb497, 0, none⟩) (Kd.S_types HO504.out BK497.out (by decide)) (fun _ hk => hk.2) (.slice Ao49 t499.length co49)) (fun _ hk => hk.2) (.slice Ao51 t502.length co51)) (fun _ hk => hk.1.1.1))⟩, ⟨pp_ BK488.out⟩, ⟨pp_ BK489.out⟩, ⟨pp_ BK497.out⟩, ⟨pb3_ HB.out GE488.out GE489.out GE497.out⟩⟩

/-! ### impl_PlainHello: function 65 -/
def impl_PlainHello.f (l0 : List Int) : Option (List Int × (List (S69))) := (some (([] : List Int) : List Int)).bind fun y507 => (if y507.length + l0.length < 17592186044416 then (some ((y507 ++ l0), ([] : List (S69)))) else (none))
set_option maxHeartbeats 8000000 in
set_option maxRecDepth 100000 in
theorem impl_PlainHello.calls (A0 : Option Addr) (c0 : Nat) (l0 : List Int) (r1 : List Int) (r2 : List (S69)) (w : World) (hr0 : Kd.C (Kd.int .i64) w A0 l0.length l0) (hc0 : l0.length ≤ c0) (h : impl_PlainHello.f l0 = some (r1, r2)) :
    Calls Try.prog 65 #[.slice A0 l0.length c0] w fun e w' => ∃ v0_ v1_ : Value, e = .returned (.agg #[v0_, v1_]) ∧ Kd.R (Kd.int .i64) 3 w' w.heap.size (fun _ => True) v0_ r1 ∧ Kd.S k69 69 w' w.heap.size (fun k_ => some k_ ≠ (v0_ : Value).ownBlock) v1_ r2 ∧ Below w.heap.size w w' := by
  have hu63 := Try.underlying63
  have HR0 := Aside0.mk hr0
  have HC0 := Aside0.mk hc0
  clear hr0 hc0
  have HB := Aside0.mk (Below.refl w.heap.size w)
  have H : ((some (([] : List Int) : List Int)).bind fun y507 => (if y507.length + l0.length < 17592186044416 then (some ((y507 ++ l0), ([] : List (S69)))) else (none))) = some (r1, r2) := h
  clear h
  obtain ⟨y507, hy507⟩ : ∃ y_ : List Int, y_ = (([] : List Int)) := ⟨_, rfl⟩
  replace H : (if y507.length + l0.length < 17592186044416 then (some ((y507 ++ l0), ([] : List (S69)))) else (none)) = some (r1, r2) := by first | (rw [hy507]; with_reducible exact H) | (have H2_ := (Option.bind_some _ _).symm.trans H; rw [hy507]; with_reducible exact H2_) | (have H2_ := (Option.bind_some _ _).symm.trans H; with_reducible exact H2_) | with_reducible exact H | (rw [hy507]; exact H) | exact H
  have Ny507 := Aside0.mk hy507
  clear hy507
  by_cases c2 : y507.length + l0.length < 17592186044416
  rotate_left
  · rw [if_neg c2] at H
    exact absurd H (by simp)
  rw [if_pos c2] at H
  have LMc2 := Aside0.mk c2
  clear c2
  obtain ⟨y510, hy510⟩ : ∃ y_ : List Int, y_ = (y507 ++ l0) := ⟨_, rfl⟩
  replace H : (some (y510, ([] : List (S69)))) = some (r1, r2) := by first | (rw [hy510]; with_reducible exact H) | (have H2_ := (Option.bind_some _ _).symm.trans H; rw [hy510]; with_reducible exact H2_) | (have H2_ := (Option.bind_some _ _).symm.trans H; with_reducible exact H2_) | with_reducible exact H | (rw [hy510]; exact H) | exact H
  have Ny510 := Aside0.mk hy510
  clear hy510
  simp only [Option.some.injEq, Prod.mk.injEq] at H
  obtain ⟨rfl, rfl⟩ := H
  go_enter Try.func65, Try.ntmps65
  go_wp2_with (first | ((with_reducible refine gate_dst (N := 2) rfl ?_); refine box_event ?hg (N := 2) ?hd (cs := #[.slice none 0 0, .slice none 0 0]) (t := 63) ?hr ?_; (case hd => rfl); (case hg => rfl); (case hr => first | (go_simp; done) | (go_simp; rfl)); intro gb506 hg w3 hbox hb; have n0_ := Aside0.mk (below_step (pb_ HB.out) hb); have n1_ := Aside0.mk (hbox); have n2_ := Aside0.mk ((by rw [hg]; exact (below_size (pb_ HB.out)) : w.heap.size ≤ gb506)); have n3_ := Aside0.mk ((by rw [hg]; exact (below_size (pb_ HB.out)) : w.heap.size ≤ gb506)); clear HB; have HB := n0_; have BK506 := n1_; have GW506 := n2_; have GE506 := n3_; clear n0_ n1_ n2_ n3_; clear hb hbox hg) | ((with_reducible refine gate_dst (N := 3) rfl ?_); refine Kd.R_lit (Kd.int .i64) _ 3 ?hg (N := 3) ?hd (xs := ([] : List Int)) (inner := []) (ok := fun _ => True) (okp := fun _ => True) ?hr ?hp (fun _ hk => hk) trivial (Below.refl _ _) (Nat.le_refl _) (by simp) ?_; (case hd => rfl); (case hg => rfl); (case hr => first | (go_simp; done) | (go_simp; rfl)); (case hp => exact (Reps.none _ _)); intro v508 w4 ho5 hb hg_ hnew_; clear hg_ hnew_; (first | rw [← Ny507.out] at ho5 | (simp only [Int.reduceToNat] at ho5; rw [← Ny507.out] at ho5)); have n0_ := Aside0.mk (Kd.R_lower ho5 (below_size (pb1_ HB.out GE506.out))); have n1_ := Aside0.mk (bb_ BK506.out hb); have n2_ := Aside0.mk (below_step (pb1_ HB.out GE506.out) hb); clear BK506; clear HB; have HO509 := n0_; have BK506 := n1_; have HB := n2_; clear n0_ n1_ n2_; clear hb ho5) | ((with_reducible refine gate_builtin (b := .append) (xs := #[.tmp 3, .tmp 4]) rfl ?_); at_builtin; refine Kd.R_append_rows (Kd.int .i64) (w0 := w) w.heap.size rfl (.tmp 3) (.tmp 4) 23 3 (.int .i64 0) 8 rfl Try.underlying23 info3 rfl (by decide) (by omega) v508 y507 l0 _ _ _ (fun _ => True) (fun _ => False) rfl rfl ?aO ?aR (fun _ _ h => h) (fun _ h => h.elim) ?aF ?aB ?aS ?aL ?_; (case aR => exact pc_ (Kd.C_below HR0.out HB.out)); (case aB => exact (pb1_ HB.out GE506.out)); (case aF => exact (fun _ _ => trivial)); (case aO => exact (pr_ HO509.out)); (case aS => exact (below_size (pb1_ HB.out GE506.out))); (case aL => have := LMc2.out; omega); intro v511 w6 ho hb hg hat; rw [← Ny510.out] at ho; have n0_ := Aside0.mk (blk_grown (g := gb506) (o := .cells #[.slice none 0 0, .slice none 0 0] 63 (0, 0)) (pk_ BK506.out) hg (Kd.R_ne HO509.out BK506.out (by decide))); have n1_ := Aside0.mk (hb); have n2_ := Aside0.mk (ho); clear BK506; clear HB; clear HO509; have BK506 := n0_; have HB := n1_; have HO512 := n2_; clear n0_ n1_ n2_; clear ho hb hg hat; obtain ⟨Ao7, co7, eo7⟩ := Kd.R_slice HO512.out; subst eo7; have hcz8_0 : w6.cell? ⟨gb506, 0, none⟩ = some (.slice none 0 0) := (blk_cell BK506.out 0).trans rfl; have hcz8_1 : w6.cell? ⟨gb506, 1, none⟩ = some (.slice none 0 0) := (blk_cell BK506.out 1).trans rfl; have hfz8_0 := blk_frozen BK506.out 0; have hfz8_1 := blk_frozen BK506.out 1))
  refine bodyPost_ret (results_cell_row rfl _ _ gb506 63 #[.slice Ao7 y510.length co7, .slice none 0 0] (0, 0) _ rfl (pp_ BK506.out) Try.underlying63 rfl (by kernel_rfl)) rfl ?_
  exact ⟨_, _, er_, pr_ (Kd.R_mono (rf2_ HO512.out BK506.out) (fun _ hk => trivial)), by first | exact Kd.S_nil _ _ _ _ _ | exact Kd.N_nil _ _ _ _ _ | exact Kd.V_nil _ _ _ _ _ | exact Kd.Q_nil _ _ _ _ _ | exact Kd.R_nil _ _ _ _ _, pb1_ HB.out GE506.out⟩

end Go.Proofs.Ytpoandlbmaljhaa.Print
