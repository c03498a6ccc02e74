-- Written by a program of this session (printx.py) out of the translation; Lean checks it.
import Derived.Test.YtdoefkloanpliaaPrint0
import Derived.Test.YtdoefkloanpliaaPrint1
import Derived.Test.YtdoefkloanpliaaPrint3
import Derived.Test.YtdoefkloanpliaaPrint4
namespace Go.Proofs.Ytdoefkloanpliaa.Print
open Go.RowKit Go.Proofs.YtdoefkloanpliaaW.PrintWords Go.Proofs.YtdoefkloanpliaaW.PrintLast Go.Proofs.YtdoefkloanpliaaW.PrintMore Go.Proofs.Ytdoefkloanpliaa.Short
attribute [local go_sem] max2_int min2_int max_two min_two max_three min_three max_four min_four   -- for this text's walks alone
set_option linter.unusedVariables false
set_option linter.unusedSimpArgs false

/-! ### impl_PassBox: function 103 -/
def impl_PassBox.j0 : Nat → Bool → Int → List Int → List Int → Bool → List Int → List (S114) → Option (List Int × (List (S114)) × Bool)
  | 0, _, _, _, _, _, _, _ => none
  | k + 1, x18, x177000, x177001, x177002, x177003, x178000, x178001 => if x18 = true then (some (([] : List Int), ([] : List (S114)), false)) else ((slices_Clone_int_int.f x178000).bind fun t182 => ((impl_keptExts_with_impl_PassBox_1.f k x178001 x177000 x177001 x177002 x177003).bind fun t185 => (some (t182, t185, true))))
def impl_PassBox.f (k : Nat) (a0_0 : Int) (l0_1 : List Int) (l0_2 : List Int) (a0_3 : Bool) (l1_0 : List Int) (l1_1 : List (S114)) : Option (List Int × (List (S114)) × Bool) := (impl_IsBox.f k a0_0 l0_1 l0_2 a0_3).bind fun t179 => (if t179 = true then ((impl_IsHello.f k l1_0 l1_1).bind fun t180 => (if t180 = true then ((impl_loses.f k a0_0 l0_1 l0_2 a0_3 l1_0 l1_1).bind fun t181 => (impl_PassBox.j0 k t181 a0_0 l0_1 l0_2 a0_3 l1_0 l1_1)) else (impl_PassBox.j0 k true a0_0 l0_1 l0_2 a0_3 l1_0 l1_1))) else (impl_PassBox.j0 k true a0_0 l0_1 l0_2 a0_3 l1_0 l1_1))
theorem impl_PassBox.mono_l : ∀ k, (∀ y0 y1 y2 y3 y4 y5 y6, LeO (impl_PassBox.j0 k y0 y1 y2 y3 y4 y5 y6) (impl_PassBox.j0 (k + 1) y0 y1 y2 y3 y4 y5 y6))
  | 0 => fun _ _ _ _ _ _ _ r h => by simp [impl_PassBox.j0] at h
  | k + 1 => by
    have ih0 := impl_PassBox.mono_l k
    · intro y0 y1 y2 y3 y4 y5 y6
      unfold impl_PassBox.j0
      repeat' first
      | (with_reducible exact ih0 _ _ _ _ _ _ _)
      | (with_reducible exact impl_IsBox.mono _ _ _ _ _)
      | (with_reducible exact impl_IsHello.mono _ _ _)
      | (with_reducible exact impl_keptExts_with_impl_PassBox_1.mono _ _ _ _ _ _)
      | (with_reducible exact impl_loses.mono _ _ _ _ _ _ _)
      | (with_reducible exact LeO.refl _)
      | (with_reducible exact LeO.none _)
      | (with_reducible refine LeO.ite ?_ ?_)
      | (with_reducible refine LeO.bind ?_ (fun _ => ?_))
      | exact ih0 _ _ _ _ _ _ _
      | exact impl_IsBox.mono _ _ _ _ _
      | exact impl_IsHello.mono _ _ _
      | exact impl_keptExts_with_impl_PassBox_1.mono _ _ _ _ _ _
      | exact impl_loses.mono _ _ _ _ _ _ _
      | exact LeO.none _
      | refine LeO.ite ?_ ?_
      | refine LeO.bind ?_ (fun _ => ?_)
theorem impl_PassBox.mono : ∀ a0 a1 a2 a3 a4 a5 k, LeO (impl_PassBox.f k a0 a1 a2 a3 a4 a5) (impl_PassBox.f (k + 1) a0 a1 a2 a3 a4 a5) := by
  intro a0 a1 a2 a3 a4 a5 k
  have ih0 := impl_PassBox.mono_l k
  unfold impl_PassBox.f
  repeat' first
      | (with_reducible exact ih0 _ _ _ _ _ _ _)
      | (with_reducible exact impl_IsBox.mono _ _ _ _ _)
      | (with_reducible exact impl_IsHello.mono _ _ _)
      | (with_reducible exact impl_keptExts_with_impl_PassBox_1.mono _ _ _ _ _ _)
      | (with_reducible exact impl_loses.mono _ _ _ _ _ _ _)
      | (with_reducible exact LeO.refl _)
      | (with_reducible exact LeO.none _)
      | (with_reducible refine LeO.ite ?_ ?_)
      | (with_reducible refine LeO.bind ?_ (fun _ => ?_))
      | exact ih0 _ _ _ _ _ _ _
      | exact impl_IsBox.mono _ _ _ _ _
      | exact impl_IsHello.mono _ _ _
      | exact impl_keptExts_with_impl_PassBox_1.mono _ _ _ _ _ _
      | exact impl_loses.mono _ _ _ _ _ _ _
      | exact LeO.none _
      | refine LeO.ite ?_ ?_
      | refine LeO.bind ?_ (fun _ => ?_)
def impl_PassBox.T3 : Bool × List (List Nat × List Nat) := (true, [([], []), ([0], [0]), ([1], [1]), ([], []), ([3], [3]), ([], []), ([4, 5, 2], [4, 5]), ([2, 6], [2, 6]), ([7, 6, 0, 1, 2, 3, 4, 5, 6, 7], [7]), ([8, 0, 1, 2, 3, 4, 5, 6, 7, 8], [])])
def impl_PassBox.B3 : List Nat := [0, 1, 3, 0, 8, 0, 63, 127, 255, 511]
theorem impl_PassBox.tab3 : rtab .any (opsOf Try.f103 3) = impl_PassBox.T3 := by kernel_rfl
theorem impl_PassBox.bits3 : waitsOk impl_PassBox.T3.2 impl_PassBox.B3 = true := by kernel_rfl
set_option maxHeartbeats 8000000 in
set_option maxRecDepth 100000 in
theorem impl_PassBox.calls (k : Nat) (a0_0 : Int) (A0_1 : Option Addr) (c0_1 : Nat) (l0_1 : List Int) (A0_2 : Option Addr) (c0_2 : Nat) (l0_2 : List Int) (a0_3 : Bool) (A1_0 : Option Addr) (c1_0 : Nat) (l1_0 : List Int) (A1_1 : Option Addr) (c1_1 : Nat) (l1_1 : List (S114)) (r1 : List Int) (r2 : List (S114)) (r3 : Bool) (w : World) (hr0_1 : Kd.C (Kd.int .i64) w A0_1 l0_1.length l0_1) (hc0_1 : l0_1.length ≤ c0_1) (hr0_2 : Kd.C (Kd.int .i64) w A0_2 l0_2.length l0_2) (hc0_2 : l0_2.length ≤ c0_2) (hr1_0 : Kd.C (Kd.int .i64) w A1_0 l1_0.length l1_0) (hc1_0 : l1_0.length ≤ c1_0) (hr1_1 : Kd.C k114 w A1_1 l1_1.length l1_1) (hc1_1 : l1_1.length ≤ c1_1) (h : impl_PassBox.f k a0_0 l0_1 l0_2 a0_3 l1_0 l1_1 = some (r1, r2, r3)) :
    Calls Try.prog 103 #[.agg #[.int .i64 a0_0, .slice A0_1 l0_1.length c0_1, .slice A0_2 l0_2.length c0_2, .bool a0_3], .agg #[.slice A1_0 l1_0.length c1_0, .slice A1_1 l1_1.length c1_1]] w fun e w' => ∃ v0_ v1_ : Value, e = .returned (.tuple #[.agg #[v0_, v1_], .bool r3]) ∧ Kd.R (Kd.int .i64) 3 w' w.heap.size (fun _ => True) v0_ r1 ∧ Kd.S k114 114 w' w.heap.size (fun k_ => some k_ ≠ (v0_ : Value).ownBlock) v1_ r2 ∧ Below w.heap.size w w' := by
  have hu67 := Try.underlying67
  have hu106 := Try.underlying106
  have HR0_1 := Aside0.mk hr0_1
  have HC0_1 := Aside0.mk hc0_1
  clear hr0_1 hc0_1
  have HR0_2 := Aside0.mk hr0_2
  have HC0_2 := Aside0.mk hc0_2
  clear hr0_2 hc0_2
  have HR1_0 := Aside0.mk hr1_0
  have HC1_0 := Aside0.mk hc1_0
  clear hr1_0 hc1_0
  have HR1_1 := Aside0.mk hr1_1
  have HC1_1 := Aside0.mk hc1_1
  clear hr1_1 hc1_1
  have HB := Aside0.mk (Below.refl w.heap.size w)
  have H : ((impl_IsBox.f k a0_0 l0_1 l0_2 a0_3).bind fun t179 => (if t179 = true then ((impl_IsHello.f k l1_0 l1_1).bind fun t180 => (if t180 = true then ((impl_loses.f k a0_0 l0_1 l0_2 a0_3 l1_0 l1_1).bind fun t181 => (impl_PassBox.j0 k t181 a0_0 l0_1 l0_2 a0_3 l1_0 l1_1)) else (impl_PassBox.j0 k true a0_0 l0_1 l0_2 a0_3 l1_0 l1_1))) else (impl_PassBox.j0 k true a0_0 l0_1 l0_2 a0_3 l1_0 l1_1))) = some (r1, r2, r3) := h
  clear h
  have HC3 := Aside0.mk H
  clear H
  go_enter Try.func103, Try.ntmps103
  go_upto_region 1 with (first | ((with_reducible refine gate_dst (N := 2) rfl ?_); refine box_event ?hg (N := 2) ?hd (cs := #[.int .i64 a0_0, .slice A0_1 l0_1.length c0_1, .slice A0_2 l0_2.length c0_2, .bool a0_3]) (t := 67) ?hr ?_; (case hd => rfl); (case hg => rfl); (case hr => first | (go_simp; done) | (go_simp; rfl)); intro gb176 hg w4 hbox hb; have n0_ := Aside0.mk (below_step (pb_ HB.out) hb); have n1_ := Aside0.mk (hbox); have n2_ := Aside0.mk ((by rw [hg]; exact (below_size (pb_ HB.out)) : w.heap.size ≤ gb176)); have n3_ := Aside0.mk ((by rw [hg]; exact (below_size (pb_ HB.out)) : w.heap.size ≤ gb176)); clear HB; have HB := n0_; have BK176 := n1_; have GW176 := n2_; have GE176 := n3_; clear n0_ n1_ n2_ n3_; clear hb hbox hg) | ((with_reducible refine gate_dst (N := 3) rfl ?_); refine box_event ?hg (N := 3) ?hd (cs := #[.slice A1_0 l1_0.length c1_0, .slice A1_1 l1_1.length c1_1]) (t := 106) ?hr ?_; (case hd => rfl); (case hg => rfl); (case hr => first | (go_simp; done) | (go_simp; rfl)); intro gb177 hg w5 hbox hb; have n0_ := Aside0.mk (bb_ BK176.out hb); have n1_ := Aside0.mk (below_step (pb1_ HB.out GE176.out) hb); have n2_ := Aside0.mk (hbox); have n3_ := Aside0.mk ((by rw [hg]; exact (below_size (pb1_ HB.out GE176.out)) : w.heap.size ≤ gb177)); have n4_ := Aside0.mk ((by rw [hg]; exact (below_size (pb1_ HB.out GE176.out)) : w.heap.size ≤ gb177)); have n5_ := Aside0.mk ((by rw [hg]; exact Nat.ne_of_lt (blk_lt (pk_ BK176.out)) : gb176 ≠ gb177)); have n6_ := Aside0.mk ((by rw [hg]; exact Nat.ne_of_gt (blk_lt (pk_ BK176.out)) : gb177 ≠ gb176)); clear BK176; clear HB; have BK176 := n0_; have HB := n1_; have BK177 := n2_; have GW177 := n3_; have GE177 := n4_; have NB176_177 := n5_; have NB177_176 := n6_; clear n0_ n1_ n2_ n3_ n4_ n5_ n6_; clear hb hbox hg) | ((with_reducible refine gate_dst (N := 4) rfl ?_); refine box_event ?hg (N := 4) ?hd (cs := #[.slice none 0 0, .slice none 0 0]) (t := 106) ?hr ?_; (case hd => rfl); (case hg => rfl); (case hr => first | (go_simp; done) | (go_simp; rfl)); intro gb178 hg w6 hbox hb; have n0_ := Aside0.mk (bb_ BK176.out hb); have n1_ := Aside0.mk (bb_ BK177.out hb); have n2_ := Aside0.mk (below_step (pb2_ HB.out GE176.out GE177.out) hb); have n3_ := Aside0.mk (hbox); have n4_ := Aside0.mk ((by rw [hg]; exact (below_size (pb2_ HB.out GE176.out GE177.out)) : w.heap.size ≤ gb178)); have n5_ := Aside0.mk ((by rw [hg]; exact (below_size (pb2_ HB.out GE176.out GE177.out)) : w.heap.size ≤ gb178)); have n6_ := Aside0.mk ((by rw [hg]; exact Nat.ne_of_lt (blk_lt (pk_ BK176.out)) : gb176 ≠ gb178)); have n7_ := Aside0.mk ((by rw [hg]; exact Nat.ne_of_gt (blk_lt (pk_ BK176.out)) : gb178 ≠ gb176)); have n8_ := Aside0.mk ((by rw [hg]; exact Nat.ne_of_lt (blk_lt (pk_ BK177.out)) : gb177 ≠ gb178)); have n9_ := Aside0.mk ((by rw [hg]; exact Nat.ne_of_gt (blk_lt (pk_ BK177.out)) : gb178 ≠ gb177)); clear BK176; clear BK177; clear HB; have BK176 := n0_; have BK177 := n1_; have HB := n2_; have BK178 := n3_; have GW178 := n4_; have GE178 := n5_; have NB176_178 := n6_; have NB178_176 := n7_; have NB177_178 := n8_; have NB178_177 := n9_; clear n0_ n1_ n2_ n3_ n4_ n5_ n6_ n7_ n8_ n9_; clear hb hbox hg))
  (try simp only [Act.put, List.setIfInBounds_toArray, List.set_cons_zero, List.set_cons_succ])
  go_cut [18] (fun v18 wc => ∃ (kq : Nat) (x18_2 : Bool), v18 = .bool x18_2 ∧ Aside0 (impl_PassBox.j0 kq x18_2 a0_0 l0_1 l0_2 a0_3 l1_0 l1_1 = some (r1, r2, r3)) ∧ Aside0 (kq ≤ k) ∧ Aside0 (wc.heap[gb176]? = some (.cells #[.int .i64 a0_0, (.slice A0_1 l0_1.length c0_1), (.slice A0_2 l0_2.length c0_2), .bool a0_3] 67 (0, 0))) ∧ Aside0 (wc.heap[gb177]? = some (.cells #[(.slice A1_0 l1_0.length c1_0), (.slice A1_1 l1_1.length c1_1)] 106 (0, 0))) ∧ Aside0 (wc.heap[gb178]? = some (.cells #[(.slice none 0 0), (.slice none 0 0)] 106 (0, 0))) ∧ Aside0 (Below w.heap.size w wc))
  case first =>
    have H := HC3.out
    clear HC3
    replace H := Option.bind_eq_some_iff.mp H
    obtain ⟨t179, A70, H⟩ := H
    (try dsimp only at H)
    have A7 := Aside0.mk A70
    clear A70
    by_cases c8 : t179 = true
    rotate_left
    · replace c8 := Bool.eq_false_iff.mpr c8
      subst c8
      rw [if_neg (show ¬ (false = true) by decide)] at H
      have H' := Aside0.mk H
      clear H
      have hnb9 := NB176_177.out
      have hnc9 := NB177_176.out
      have hnb10 := NB176_178.out
      have hnc10 := NB178_176.out
      obtain ⟨hcz11_0, hcz11_1, hcz11_2, hcz11_3, hfz11_0, hfz11_1, hfz11_2, hfz11_3⟩ := bc4_ BK176.out
      go_wp2_with (first | ((with_reducible refine gate_callee (f := 96) rfl ?_); refine goesL_ (some 7) rfl rfl Try.func96 (by kernel_rfl) rfl #[.agg #[.int .i64 a0_0, .slice A0_1 l0_1.length c0_1, .slice A0_2 l0_2.length c0_2, .bool a0_3]] rfl mp_ ?_; (with_reducible refine (impl_IsBox.calls k a0_0 _ _ l0_1 _ _ l0_2 a0_3 false _ ?side1 ?side2 ?side3 ?side4 A7.out).mono ?_); (case side1 => exact pc_ (Kd.C_below HR0_1.out HB.out)); (case side2 => exact HC0_1.out); (case side3 => exact pc_ (Kd.C_below HR0_2.out HB.out)); (case side4 => exact HC0_2.out); rintro e w12 ⟨rfl, hb⟩; refine ⟨_, rfl, ?_⟩; have n0_ := Aside0.mk (bb_ BK176.out hb); have n1_ := Aside0.mk (bb_ BK177.out hb); have n2_ := Aside0.mk (bb_ BK178.out hb); have n3_ := Aside0.mk (below_step (pb3_ HB.out GE176.out GE177.out GE178.out) hb); clear BK176; clear BK177; clear BK178; clear HB; have BK176 := n0_; have BK177 := n1_; have BK178 := n2_; have HB := n3_; clear n0_ n1_ n2_ n3_; (try clear hb); (try clear hb2); (try clear hk); (try clear hi)))
      go_meet
      case rel => exact ⟨_, (true), el_, H', ⟨by first | omega | exact Nat.le_refl _⟩, ⟨pk_ BK176.out⟩, ⟨pk_ BK177.out⟩, ⟨pk_ BK178.out⟩, ⟨pb3_ HB.out GE176.out GE177.out GE178.out⟩⟩
    subst c8
    rw [if_pos rfl] at H
    replace H := Option.bind_eq_some_iff.mp H
    obtain ⟨t180, A130, H⟩ := H
    (try dsimp only at H)
    have A13 := Aside0.mk A130
    clear A130
    by_cases c14 : t180 = true
    rotate_left
    · replace c14 := Bool.eq_false_iff.mpr c14
      subst c14
      rw [if_neg (show ¬ (false = true) by decide)] at H
      have H' := Aside0.mk H
      clear H
      have hnb15 := NB176_177.out
      have hnc15 := NB177_176.out
      have hnb16 := NB176_178.out
      have hnc16 := NB178_176.out
      obtain ⟨hcz17_0, hcz17_1, hcz17_2, hcz17_3, hfz17_0, hfz17_1, hfz17_2, hfz17_3⟩ := bc4_ BK176.out
      go_wp2_with (first | ((with_reducible refine gate_callee (f := 96) rfl ?_); refine goesL_ (some 7) rfl rfl Try.func96 (by kernel_rfl) rfl #[.agg #[.int .i64 a0_0, .slice A0_1 l0_1.length c0_1, .slice A0_2 l0_2.length c0_2, .bool a0_3]] rfl mp_ ?_; (with_reducible refine (impl_IsBox.calls k a0_0 _ _ l0_1 _ _ l0_2 a0_3 true _ ?side1 ?side2 ?side3 ?side4 A7.out).mono ?_); (case side1 => exact pc_ (Kd.C_below HR0_1.out HB.out)); (case side2 => exact HC0_1.out); (case side3 => exact pc_ (Kd.C_below HR0_2.out HB.out)); (case side4 => exact HC0_2.out); rintro e w18 ⟨rfl, hb⟩; refine ⟨_, rfl, ?_⟩; have n0_ := Aside0.mk (bb_ BK176.out hb); have n1_ := Aside0.mk (bb_ BK177.out hb); have n2_ := Aside0.mk (bb_ BK178.out hb); have n3_ := Aside0.mk (below_step (pb3_ HB.out GE176.out GE177.out GE178.out) hb); clear BK176; clear BK177; clear BK178; clear HB; have BK176 := n0_; have BK177 := n1_; have BK178 := n2_; have HB := n3_; clear n0_ n1_ n2_ n3_; (try clear hb); (try clear hb2); (try clear hk); (try clear hi); have hnb19 := NB177_178.out; have hnc19 := NB178_177.out; have hcz20_0 : w18.cell? ⟨gb177, 0, none⟩ = some (.slice A1_0 l1_0.length c1_0) := (blk_cell BK177.out 0).trans rfl; have hcz20_1 : w18.cell? ⟨gb177, 1, none⟩ = some (.slice A1_1 l1_1.length c1_1) := (blk_cell BK177.out 1).trans rfl; have hfz20_0 := blk_frozen BK177.out 0; have hfz20_1 := blk_frozen BK177.out 1) | (go_at_call 125; (with_reducible refine (impl_IsHello.calls k _ _ l1_0 _ _ l1_1 false _ ?side1 ?side2 ?side3 ?side4 A13.out).mono ?_); (case side1 => exact pc_ (Kd.C_below HR1_0.out HB.out)); (case side2 => exact HC1_0.out); (case side3 => exact pc_ (Kd.C_below HR1_1.out HB.out)); (case side4 => exact HC1_1.out); rintro e w21 ⟨rfl, hb⟩; have n0_ := Aside0.mk (bb_ BK176.out hb); have n1_ := Aside0.mk (bb_ BK177.out hb); have n2_ := Aside0.mk (bb_ BK178.out hb); have n3_ := Aside0.mk (below_step (pb3_ HB.out GE176.out GE177.out GE178.out) hb); clear BK176; clear BK177; clear BK178; clear HB; have BK176 := n0_; have BK177 := n1_; have BK178 := n2_; have HB := n3_; clear n0_ n1_ n2_ n3_; (try clear hb); (try clear hb2); (try clear hk); (try clear hi)))
      go_meet
      case rel => exact ⟨_, (true), el_, H', ⟨by first | omega | exact Nat.le_refl _⟩, ⟨pk_ BK176.out⟩, ⟨pk_ BK177.out⟩, ⟨pk_ BK178.out⟩, ⟨pb3_ HB.out GE176.out GE177.out GE178.out⟩⟩
    subst c14
    rw [if_pos rfl] at H
    replace H := Option.bind_eq_some_iff.mp H
    obtain ⟨t181, A220, H⟩ := H
    (try dsimp only at H)
    have A22 := Aside0.mk A220
    clear A220
    have H' := Aside0.mk H
    clear H
    have hnb23 := NB176_177.out
    have hnc23 := NB177_176.out
    have hnb24 := NB176_178.out
    have hnc24 := NB178_176.out
    obtain ⟨hcz25_0, hcz25_1, hcz25_2, hcz25_3, hfz25_0, hfz25_1, hfz25_2, hfz25_3⟩ := bc4_ BK176.out
    go_wp2_with (first | ((with_reducible refine gate_callee (f := 96) rfl ?_); refine goesL_ (some 7) rfl rfl Try.func96 (by kernel_rfl) rfl #[.agg #[.int .i64 a0_0, .slice A0_1 l0_1.length c0_1, .slice A0_2 l0_2.length c0_2, .bool a0_3]] rfl mp_ ?_; (with_reducible refine (impl_IsBox.calls k a0_0 _ _ l0_1 _ _ l0_2 a0_3 true _ ?side1 ?side2 ?side3 ?side4 A7.out).mono ?_); (case side1 => exact pc_ (Kd.C_below HR0_1.out HB.out)); (case side2 => exact HC0_1.out); (case side3 => exact pc_ (Kd.C_below HR0_2.out HB.out)); (case side4 => exact HC0_2.out); rintro e w26 ⟨rfl, hb⟩; refine ⟨_, rfl, ?_⟩; have n0_ := Aside0.mk (bb_ BK176.out hb); have n1_ := Aside0.mk (bb_ BK177.out hb); have n2_ := Aside0.mk (bb_ BK178.out hb); have n3_ := Aside0.mk (below_step (pb3_ HB.out GE176.out GE177.out GE178.out) hb); clear BK176; clear BK177; clear BK178; clear HB; have BK176 := n0_; have BK177 := n1_; have BK178 := n2_; have HB := n3_; clear n0_ n1_ n2_ n3_; (try clear hb); (try clear hb2); (try clear hk); (try clear hi); have hnb27 := NB177_178.out; have hnc27 := NB178_177.out; have hcz28_0 : w26.cell? ⟨gb177, 0, none⟩ = some (.slice A1_0 l1_0.length c1_0) := (blk_cell BK177.out 0).trans rfl; have hcz28_1 : w26.cell? ⟨gb177, 1, none⟩ = some (.slice A1_1 l1_1.length c1_1) := (blk_cell BK177.out 1).trans rfl; have hfz28_0 := blk_frozen BK177.out 0; have hfz28_1 := blk_frozen BK177.out 1) | (go_at_call 125; (with_reducible refine (impl_IsHello.calls k _ _ l1_0 _ _ l1_1 true _ ?side1 ?side2 ?side3 ?side4 A13.out).mono ?_); (case side1 => exact pc_ (Kd.C_below HR1_0.out HB.out)); (case side2 => exact HC1_0.out); (case side3 => exact pc_ (Kd.C_below HR1_1.out HB.out)); (case side4 => exact HC1_1.out); rintro e w29 ⟨rfl, hb⟩; have n0_ := Aside0.mk (bb_ BK176.out hb); have n1_ := Aside0.mk (bb_ BK177.out hb); have n2_ := Aside0.mk (bb_ BK178.out hb); have n3_ := Aside0.mk (below_step (pb3_ HB.out GE176.out GE177.out GE178.out) hb); clear BK176; clear BK177; clear BK178; clear HB; have BK176 := n0_; have BK177 := n1_; have BK178 := n2_; have HB := n3_; clear n0_ n1_ n2_ n3_; (try clear hb); (try clear hb2); (try clear hk); (try clear hi); have hcz30_0 : w29.cell? ⟨gb176, 0, none⟩ = some (.int .i64 a0_0) := (blk_cell BK176.out 0).trans rfl; have hcz30_1 : w29.cell? ⟨gb176, 1, none⟩ = some (.slice A0_1 l0_1.length c0_1) := (blk_cell BK176.out 1).trans rfl; have hcz30_2 : w29.cell? ⟨gb176, 2, none⟩ = some (.slice A0_2 l0_2.length c0_2) := (blk_cell BK176.out 2).trans rfl; have hcz30_3 : w29.cell? ⟨gb176, 3, none⟩ = some (.bool a0_3) := (blk_cell BK176.out 3).trans rfl; have hfz30_0 := blk_frozen BK176.out 0; have hfz30_1 := blk_frozen BK176.out 1; have hfz30_2 := blk_frozen BK176.out 2; have hfz30_3 := blk_frozen BK176.out 3; have hcz31_0 : w29.cell? ⟨gb177, 0, none⟩ = some (.slice A1_0 l1_0.length c1_0) := (blk_cell BK177.out 0).trans rfl; have hcz31_1 : w29.cell? ⟨gb177, 1, none⟩ = some (.slice A1_1 l1_1.length c1_1) := (blk_cell BK177.out 1).trans rfl; have hfz31_0 := blk_frozen BK177.out 0; have hfz31_1 := blk_frozen BK177.out 1) | (go_at_call 126; (with_reducible refine (impl_loses.calls k a0_0 _ _ l0_1 _ _ l0_2 a0_3 _ _ l1_0 _ _ l1_1 t181 _ ?side1 ?side2 ?side3 ?side4 ?side5 ?side6 ?side7 ?side8 A22.out).mono ?_); (case side1 => exact pc_ (Kd.C_below HR0_1.out HB.out)); (case side2 => exact HC0_1.out); (case side3 => exact pc_ (Kd.C_below HR0_2.out HB.out)); (case side4 => exact HC0_2.out); (case side5 => exact pc_ (Kd.C_below HR1_0.out HB.out)); (case side6 => exact HC1_0.out); (case side7 => exact pc_ (Kd.C_below HR1_1.out HB.out)); (case side8 => exact HC1_1.out); rintro e w32 ⟨rfl, hb⟩; have n0_ := Aside0.mk (bb_ BK176.out hb); have n1_ := Aside0.mk (bb_ BK177.out hb); have n2_ := Aside0.mk (bb_ BK178.out hb); have n3_ := Aside0.mk (below_step (pb3_ HB.out GE176.out GE177.out GE178.out) hb); clear BK176; clear BK177; clear BK178; clear HB; have BK176 := n0_; have BK177 := n1_; have BK178 := n2_; have HB := n3_; clear n0_ n1_ n2_ n3_; (try clear hb); (try clear hb2); (try clear hk); (try clear hi)))
    go_meet
    case rel => exact ⟨_, (t181), el_, H', ⟨by first | omega | exact Nat.le_refl _⟩, ⟨pk_ BK176.out⟩, ⟨pk_ BK177.out⟩, ⟨pk_ BK178.out⟩, ⟨pb3_ HB.out GE176.out GE177.out GE178.out⟩⟩
  clear HC3
  try clear c1
  try clear c2
  try clear p2
  try clear c8
  try clear c9
  try clear c10
  try clear c14
  try clear c15
  try clear c16
  try clear c19
  try clear c23
  try clear c24
  try clear c27
  try clear hcz11_0
  try clear hcz11_1
  try clear hcz11_2
  try clear hcz11_3
  try clear hcz17_0
  try clear hcz17_1
  try clear hcz17_2
  try clear hcz17_3
  try clear hcz20_0
  try clear hcz20_1
  try clear hcz25_0
  try clear hcz25_1
  try clear hcz25_2
  try clear hcz25_3
  try clear hcz28_0
  try clear hcz28_1
  try clear hcz30_0
  try clear hcz30_1
  try clear hcz30_2
  try clear hcz30_3
  try clear hcz31_0
  try clear hcz31_1
  try clear hfz11_0
  try clear hfz11_1
  try clear hfz11_2
  try clear hfz11_3
  try clear hfz17_0
  try clear hfz17_1
  try clear hfz17_2
  try clear hfz17_3
  try clear hfz20_0
  try clear hfz20_1
  try clear hfz25_0
  try clear hfz25_1
  try clear hfz25_2
  try clear hfz25_3
  try clear hfz28_0
  try clear hfz28_1
  try clear hfz30_0
  try clear hfz30_1
  try clear hfz30_2
  try clear hfz30_3
  try clear hfz31_0
  try clear hfz31_1
  obtain ⟨kq, x18_2, rfl, HA, HJ2, BK176, BK177, BK178, HB⟩ := hcut
  rcases kq with _ | kj2
  · exact absurd HA.out (by simp [impl_PassBox.j0])
  have H := HA.out
  clear HA
  simp only [impl_PassBox.j0] at H
  by_cases c33 : x18_2 = true
  · subst c33
    rw [if_pos rfl] at H
    simp only [Option.some.injEq, Prod.mk.injEq] at H
    obtain ⟨rfl, rfl, rfl⟩ := H
    have hnb34 := NB178_176.out
    have hnc34 := NB176_178.out
    have hnb35 := NB178_177.out
    have hnc35 := NB177_178.out
    obtain ⟨hcz36_0, hcz36_1, hfz36_0, hfz36_1⟩ := bc2_ BK178.out
    go_wp2
    refine bodyPost_ret (results_ct rfl _ _ gb178 106 #[.slice none 0 0, .slice none 0 0] (0, 0) _ rfl (pp_ BK178.out) Try.underlying106 rfl (by kernel_rfl)) rfl ?_
    exact ⟨_, _, er_, by first | exact Kd.R_nil _ _ _ _ _ | exact Kd.N_nil _ _ _ _ _ | exact Kd.V_nil _ _ _ _ _ | exact Kd.Q_nil _ _ _ _ _ | exact Kd.S_nil _ _ _ _ _, by first | exact Kd.S_nil _ _ _ _ _ | exact Kd.N_nil _ _ _ _ _ | exact Kd.V_nil _ _ _ _ _ | exact Kd.Q_nil _ _ _ _ _ | exact Kd.R_nil _ _ _ _ _, pb3_ HB.out GE176.out GE177.out GE178.out⟩
  replace c33 := Bool.eq_false_iff.mpr c33
  subst c33
  rw [if_neg (show ¬ (false = true) by decide)] at H
  replace H := Option.bind_eq_some_iff.mp H
  obtain ⟨t182, A370, H⟩ := H
  (try dsimp only at H)
  have A37 := Aside0.mk A370
  clear A370
  replace H := Option.bind_eq_some_iff.mp H
  obtain ⟨t185, A380, H⟩ := H
  replace H : (some (t182, t185, true)) = some (r1, r2, r3) := H
  have A38 := Aside0.mk A380
  clear A380
  simp only [Option.some.injEq, Prod.mk.injEq] at H
  obtain ⟨rfl, rfl, rfl⟩ := H
  try go_wp2
  have n0_ := Aside0.mk (blk_drew BK176.out)
  have n1_ := Aside0.mk (blk_drew BK177.out)
  have n2_ := Aside0.mk (blk_drew BK178.out)
  have n3_ := Aside0.mk (below_drew1 HB.out)
  clear BK176
  clear BK177
  clear BK178
  clear HB
  have BK176 := n0_
  have BK177 := n1_
  have BK178 := n2_
  have HB := n3_
  clear n0_ n1_ n2_ n3_
  refine start_ (n := 10) (S := fun w' => w'.cell? ⟨gb177, 0, none⟩ = some (.slice A1_0 l1_0.length c1_0) ∧ w'.cell? ⟨gb177, 1, none⟩ = some (.slice A1_1 l1_1.length c1_1)) (ds := []) #[false, false, false, false, false, false, false, false, false, false] (by kernel_rfl) rfl rfl ⟨(blk_cell BK177.out 0).trans rfl, (blk_cell BK177.out 1).trans rfl⟩ (fun hHeld => ?_); refine with_tabW impl_PassBox.tab3 impl_PassBox.bits3 (fun HT_ HW_ => ?_)
  generalize wc.drew = w39 at BK176 BK177 BK178 HB hHeld ⊢
  refine pure_ (i := 0) (N := some 20) (v := ?_) (a' := ?_) #[true, false, false, false, false, false, false, false, false, false] rfl rfl (any_of HT_.out (by kernel_rfl)) (fun _ _ _ h => h) (Or.inl ⟨by rfl, ?_⟩) ?_ ?_
  rotate_left
  · intro w'
    go_simp
    (try (simp only [Instr.field]; simp only [underlying, hu106, hu67]; go_simp; simp only [asAgg]; go_simp))
    with_reducible rfl
  rotate_left
  · simp only [Act.put, List.setIfInBounds_toArray, List.set_cons_zero, List.set_cons_succ, i64_w, i32_w]
    rfl
  refine pure_ (i := 3) (N := some 23) (v := ?_) (a' := ?_) #[true, false, false, true, false, false, false, false, false, false] rfl rfl (any_of HT_.out (by kernel_rfl)) (fun _ _ _ h => h) (Or.inl ⟨by rfl, ?_⟩) ?_ ?_
  rotate_left
  · intro w'
    go_simp
    (try (simp only [Instr.field]; simp only [underlying, hu106, hu67]; go_simp; simp only [asAgg]; go_simp))
    with_reducible rfl
  rotate_left
  · simp only [Act.put, List.setIfInBounds_toArray, List.set_cons_zero, List.set_cons_succ, i64_w, i32_w]
    rfl
  refine pure_ (i := 5) (N := some 25) (v := ?_) (a' := ?_) #[true, false, false, true, false, true, false, false, false, false] rfl rfl (any_of HT_.out (by kernel_rfl)) (fun _ _ _ h => h) (Or.inl ⟨by rfl, ?_⟩) ?_ ?_
  rotate_left
  · intro w'
    go_simp
    (try (simp only [Instr.field]; simp only [underlying, hu106, hu67]; go_simp; simp only [asAgg]; go_simp))
    with_reducible rfl
  rotate_left
  · simp only [Act.put, List.setIfInBounds_toArray, List.set_cons_zero, List.set_cons_succ, i64_w, i32_w]
    rfl
  refine take_ (i := 1) (N := some 21) (v := ?_) (a' := ?_) #[true, true, false, true, false, true, false, false, false, false] rfl rfl (take_ofW HT_.out HW_.out (by kernel_rfl)) (fun _ _ _ h => h) (Or.inl ⟨by rfl, ?_⟩) hHeld ?_ ?_
  rotate_left
  · rintro w' ⟨s0, s1⟩
    go_simp
    (try (simp only [Instr.field]; simp only [underlying, hu106, hu67]; go_simp; simp only [asAgg]; go_simp))
    with_reducible rfl
  rotate_left
  · simp only [Act.put, List.setIfInBounds_toArray, List.set_cons_zero, List.set_cons_succ, i64_w, i32_w]
    rfl
  refine take_ (i := 4) (N := some 24) (v := ?_) (a' := ?_) #[true, true, false, true, true, true, false, false, false, false] rfl rfl (take_ofW HT_.out HW_.out (by kernel_rfl)) (fun _ _ _ h => h) (Or.inl ⟨by rfl, ?_⟩) hHeld ?_ ?_
  rotate_left
  · rintro w' ⟨s0, s1⟩
    go_simp
    (try (simp only [Instr.field]; simp only [underlying, hu106, hu67]; go_simp; simp only [asAgg]; go_simp))
    with_reducible rfl
  rotate_left
  · simp only [Act.put, List.setIfInBounds_toArray, List.set_cons_zero, List.set_cons_succ, i64_w, i32_w]
    rfl
  refine one_ (i := 2) (N := some 22) #[true, true, true, true, true, true, false, false, false, false] rfl rfl (one_of HT_.out (by kernel_rfl)) (by decide) (fun K hK => ?_)
  refine goes_ Try.func127 (by kernel_rfl) rfl #[.slice A1_0 l1_0.length c1_0] (by rfl) rfl rfl mp_ ?_
  with_reducible refine (slices_Clone_int_int.calls _ _ l1_0 t182 _ ?side1 ?side2 A37.out).mono ?_
  (case side1 => exact pc_ (Kd.C_below HR1_0.out HB.out))
  (case side2 => exact HC1_0.out)
  rintro e w40 ⟨v183, rfl, ho0, hb⟩
  refine ⟨_, rfl, ?_⟩
  have n0_ := Aside0.mk (Kd.R_lower ho0 (below_size (pb3_ HB.out GE176.out GE177.out GE178.out)))
  have n1_ := Aside0.mk (bb_ BK176.out hb)
  have n2_ := Aside0.mk (bb_ BK177.out hb)
  have n3_ := Aside0.mk (bb_ BK178.out hb)
  have n4_ := Aside0.mk (below_step (pb3_ HB.out GE176.out GE177.out GE178.out) hb)
  clear BK176
  clear BK177
  clear BK178
  clear HB
  have HO184 := n0_
  have BK176 := n1_
  have BK177 := n2_
  have BK178 := n3_
  have HB := n4_
  clear n0_ n1_ n2_ n3_ n4_
  (try clear hb)
  (try clear hb2)
  (try clear hk)
  (try clear hi)
  (try clear ho0)
  (try (obtain ⟨Ao_, co_, eo_⟩ := Kd.R_slice HO184.out; subst eo_))
  refine hK.out _ _ ⟨(blk_cell BK177.out 0).trans rfl, (blk_cell BK177.out 1).trans rfl⟩ (fun hHeld => ?_)
  clear hK K
  refine norm_ (a' := ?_) ?_ ?_
  rotate_left
  · show Act.put _ (some 22) _ = _
    simp only [Act.put, List.setIfInBounds_toArray, List.set_cons_zero, List.set_cons_succ, i64_w, i32_w]
    rfl
  refine one_ (i := 6) (N := some 26) #[true, true, true, true, true, true, true, false, false, false] rfl rfl (one_of HT_.out (by kernel_rfl)) (by decide) (fun K hK => ?_)
  refine goes_ Try.func128 (by kernel_rfl) rfl #[.slice A1_1 l1_1.length c1_1, .func (.func 129) #[] #[.pointer (some ⟨gb176, 0, none⟩)]] (by rfl) rfl rfl mp_ ?_
  with_reducible refine (impl_keptExts_with_impl_PassBox_1.calls kj2 _ _ l1_1 _ a0_0 A0_1 c0_1 l0_1 A0_2 c0_2 l0_2 a0_3 t185 _ ?side1 ?side2 ?side3 ?side4 ?side5 ?side6 ?side7 A38.out).mono ?_
  (case side1 => exact pc_ (Kd.C_below HR1_1.out HB.out))
  (case side2 => exact HC1_1.out)
  (case side3 => exact pc_ (Kd.C_below HR0_1.out HB.out))
  (case side4 => exact HC0_1.out)
  (case side5 => exact pc_ (Kd.C_below HR0_2.out HB.out))
  (case side6 => exact HC0_2.out)
  (case side7 => exact pk_ BK176.out)
  rintro e w41 ⟨v186, rfl, ho0, hb⟩
  refine ⟨_, rfl, ?_⟩
  have n0_ := Aside0.mk (Kd.R_below (pr_ HO184.out) hb)
  have n1_ := Aside0.mk (Kd.S_lower (Kd.S_new' ho0 (Kd.R_lt (pr_ HO184.out))) (below_size (pb3_ HB.out GE176.out GE177.out GE178.out)))
  have n2_ := Aside0.mk (bb_ BK176.out hb)
  have n3_ := Aside0.mk (bb_ BK177.out hb)
  have n4_ := Aside0.mk (bb_ BK178.out hb)
  have n5_ := Aside0.mk (below_step (pb3_ HB.out GE176.out GE177.out GE178.out) hb)
  clear HO184
  clear BK176
  clear BK177
  clear BK178
  clear HB
  have HO184 := n0_
  have HO187 := n1_
  have BK176 := n2_
  have BK177 := n3_
  have BK178 := n4_
  have HB := n5_
  clear n0_ n1_ n2_ n3_ n4_ n5_
  (try clear hb)
  (try clear hb2)
  (try clear hk)
  (try clear hi)
  (try clear ho0)
  obtain ⟨Ao42, co42, eo42⟩ := Kd.S_slice HO187.out
  (first | subst eo42 | (injection eo42 with f1_ f2_ f3_; have f4_ := f1_.symm; have f5_ := f3_.symm; clear f1_ f2_ f3_; subst f4_; subst f5_))
  obtain ⟨Ao43, co43, eo43⟩ := Kd.R_slice HO184.out
  (first | subst eo43 | (injection eo43 with f1_ f2_ f3_; have f4_ := f1_.symm; have f5_ := f3_.symm; clear f1_ f2_ f3_; subst f4_; subst f5_))
  refine hK.out _ _ ⟨(blk_cell BK177.out 0).trans rfl, (blk_cell BK177.out 1).trans rfl⟩ (fun hHeld => ?_)
  clear hK K
  refine norm_ (a' := ?_) ?_ ?_
  rotate_left
  · show Act.put _ (some 26) _ = _
    simp only [Act.put, List.setIfInBounds_toArray, List.set_cons_zero, List.set_cons_succ, i64_w, i32_w]
    rfl
  refine pure_ (i := 7) (N := some 27) (v := ?_) (a' := ?_) #[true, true, true, true, true, true, true, true, false, false] rfl rfl (any_of HT_.out (by kernel_rfl)) (fun _ _ _ h => h) (Or.inl ⟨by rfl, ?_⟩) ?_ ?_
  rotate_left
  · intro w'
    go_simp
    (try (simp only [Instr.field]; simp only [underlying, hu106, hu67]; go_simp; simp only [asAgg]; go_simp))
    with_reducible rfl
  rotate_left
  · simp only [Act.put, List.setIfInBounds_toArray, List.set_cons_zero, List.set_cons_succ, i64_w, i32_w]
    rfl
  refine one_ (i := 8) (N := none) #[true, true, true, true, true, true, true, true, true, false] rfl rfl (one_of HT_.out (by kernel_rfl)) (by decide) (fun K hK => ?_)
  have hs44 : w41.cell? ⟨gb178, 0, none⟩ = some (.slice none 0 0) := (blk_cell BK178.out 0).trans rfl
  have hfs44 := blk_frozen BK178.out 0
  have hns44_0 := NB176_178.out
  have hns44_1 := NB177_178.out
  have hms44_0 := NB178_176.out
  have hms44_1 := NB178_177.out
  have hs45 : w41.cell? ⟨gb178, 1, none⟩ = some (.slice none 0 0) := (blk_cell BK178.out 1).trans rfl
  have hfs45 := blk_frozen BK178.out 1
  have hns45_0 := NB176_178.out
  have hns45_1 := NB177_178.out
  have hms45_0 := NB178_176.out
  have hms45_1 := NB178_177.out
  refine skip_ (w1 := ?_) (by rfl) rfl ?_ ?_
  rotate_left
  · go_simp
    rfl
  refine hK.out _ _ ⟨((cell_far (p := ⟨gb178, _, none⟩) NB177_178.out _).trans (((cell_far (p := ⟨gb178, _, none⟩) NB177_178.out _).trans (hHeld.1)))), ((cell_far (p := ⟨gb178, _, none⟩) NB177_178.out _).trans (((cell_far (p := ⟨gb178, _, none⟩) NB177_178.out _).trans (hHeld.2))))⟩ (fun hHeld => ?_)
  clear hK K
  refine pure_ (i := 9) (N := some 5) (v := ?_) (a' := ?_) #[true, true, true, true, true, true, true, true, true, true] rfl rfl (any_of HT_.out (by kernel_rfl)) (fun _ _ _ h => h) (Or.inl ⟨by rfl, ?_⟩) ?_ ?_
  rotate_left
  · intro w'
    go_simp
    (try (simp only [Instr.field]; simp only [underlying, hu106, hu67]; go_simp; simp only [asAgg]; go_simp))
    with_reducible rfl
  rotate_left
  · simp only [Act.put, List.setIfInBounds_toArray, List.set_cons_zero, List.set_cons_succ, i64_w, i32_w]
    rfl
  refine done_ (done_of HT_.out (by kernel_rfl)) ?_
  try go_wp2
  refine bodyPost_ret (results_ct rfl _ _ gb178 106 #[.slice Ao43 t182.length co43, .slice Ao42 t185.length co42] (0, 0) _ rfl (pp_ BK178.out) Try.underlying106 rfl (by kernel_rfl)) rfl ?_
  exact ⟨_, _, er_, pr_ (Kd.R_mono (rf2_ HO184.out BK178.out) (fun _ hk => trivial)), ps_ (Kd.S_mono (Kd.S_far (p := ⟨gb178, 1, none⟩) (Kd.S_far (p := ⟨gb178, 0, none⟩) (Kd.S_types HO187.out BK178.out (by decide)) (fun _ hk => hk.2) (.slice Ao43 t182.length co43)) (fun _ hk => hk.2) (.slice Ao42 t185.length co42)) (fun _ hk => hk.1.2)), pb3_ HB.out GE176.out GE177.out GE178.out⟩

/-! ### impl_RefusesGrease_1: function 100012 -/
def impl_RefusesGrease_1.f (k : Nat) (a0 : Int) (a1_0 : Int) (l1_1 : List Int) (l1_2 : List Int) (a1_3 : Bool) : Option (Bool) := (impl_PassBox.f k a1_0 l1_1 l1_2 a1_3 (([1] : List Int)) (([(⟨a0, ([] : List Int)⟩ : S114)] : List (S114)))).bind fun bt194 => (if bt194.2.2 = true then (some ((bt194.2.1.length : Int) == 0)) else (some true))
theorem impl_RefusesGrease_1.mono : ∀ a0 a1 a2 a3 a4 k, LeO (impl_RefusesGrease_1.f k a0 a1 a2 a3 a4) (impl_RefusesGrease_1.f (k + 1) a0 a1 a2 a3 a4) := by
  intro a0 a1 a2 a3 a4 k
  unfold impl_RefusesGrease_1.f
  repeat' first
      | (with_reducible exact impl_PassBox.mono _ _ _ _ _ _ _)
      | (with_reducible exact LeO.refl _)
      | (with_reducible exact LeO.none _)
      | (with_reducible refine LeO.ite ?_ ?_)
      | (with_reducible refine LeO.bind ?_ (fun _ => ?_))
      | exact impl_PassBox.mono _ _ _ _ _ _ _
      | exact LeO.none _
      | refine LeO.ite ?_ ?_
      | refine LeO.bind ?_ (fun _ => ?_)
set_option maxHeartbeats 8000000 in
set_option maxRecDepth 100000 in
theorem impl_RefusesGrease_1.calls (k : Nat) (a0 : Int) (B1 : Nat) (a1_0 : Int) (A1_1 : Option Addr) (c1_1 : Nat) (l1_1 : List Int) (A1_2 : Option Addr) (c1_2 : Nat) (l1_2 : List Int) (a1_3 : Bool) (r : Bool) (w : World) (hr1_1 : Kd.C (Kd.int .i64) w A1_1 l1_1.length l1_1) (hc1_1 : l1_1.length ≤ c1_1) (hr1_2 : Kd.C (Kd.int .i64) w A1_2 l1_2.length l1_2) (hc1_2 : l1_2.length ≤ c1_2) (hbv1 : w.heap[B1]? = some (.cells #[.int .i64 a1_0, .slice A1_1 l1_1.length c1_1, .slice A1_2 l1_2.length c1_2, .bool a1_3] 67 (0, 0))) (h : impl_RefusesGrease_1.f k a0 a1_0 l1_1 l1_2 a1_3 = some r) :
    Calls Try.prog 102 #[.int .i64 a0, .pointer (some ⟨B1, 0, none⟩)] w fun e w' => e = .returned (.bool r) ∧ Below w.heap.size w w' := by
  have hu67 := Try.underlying67
  have hu114 := Try.underlying114
  have hu106 := Try.underlying106
  have HR1_1 := Aside0.mk hr1_1
  have HC1_1 := Aside0.mk hc1_1
  clear hr1_1 hc1_1
  have HR1_2 := Aside0.mk hr1_2
  have HC1_2 := Aside0.mk hc1_2
  clear hr1_2 hc1_2
  have BK1 := Aside0.mk hbv1
  clear hbv1
  have HB := Aside0.mk (Below.refl w.heap.size w)
  have H : ((impl_PassBox.f k a1_0 l1_1 l1_2 a1_3 (([1] : List Int)) (([(⟨a0, ([] : List Int)⟩ : S114)] : List (S114)))).bind fun bt194 => (if bt194.2.2 = true then (some ((bt194.2.1.length : Int) == 0)) else (some true))) = some r := h
  clear h
  obtain ⟨y188, hy188⟩ : ∃ y_ : List Int, y_ = (([1] : List Int)) := ⟨_, rfl⟩
  replace H : ((impl_PassBox.f k a1_0 l1_1 l1_2 a1_3 y188 (([(⟨a0, ([] : List Int)⟩ : S114)] : List (S114)))).bind fun bt194 => (if bt194.2.2 = true then (some ((bt194.2.1.length : Int) == 0)) else (some true))) = some r := by first | (rw [hy188]; with_reducible exact H) | (have H2_ := (Option.bind_some _ _).symm.trans H; rw [hy188]; with_reducible exact H2_) | (have H2_ := (Option.bind_some _ _).symm.trans H; with_reducible exact H2_) | with_reducible exact H | (rw [hy188]; exact H) | exact H
  have Ny188 := Aside0.mk hy188
  clear hy188
  obtain ⟨y191, hy191⟩ : ∃ y_ : List (S114), y_ = (([(⟨a0, ([] : List Int)⟩ : S114)] : List (S114))) := ⟨_, rfl⟩
  replace H : ((impl_PassBox.f k a1_0 l1_1 l1_2 a1_3 y188 y191).bind fun bt194 => (if bt194.2.2 = true then (some ((bt194.2.1.length : Int) == 0)) else (some true))) = some r := by first | (rw [hy191]; with_reducible exact H) | (have H2_ := (Option.bind_some _ _).symm.trans H; rw [hy191]; with_reducible exact H2_) | (have H2_ := (Option.bind_some _ _).symm.trans H; with_reducible exact H2_) | with_reducible exact H | (rw [hy191]; exact H) | exact H
  have Ny191 := Aside0.mk hy191
  clear hy191
  replace H := Option.bind_eq_some_iff.mp H
  obtain ⟨⟨t194, t197, t200⟩, A30, H⟩ := H
  (try dsimp only at H)
  have A3 := Aside0.mk A30
  clear A30
  have HS_ := Aside0.mk H
  clear H
  obtain ⟨hcz4_0, hcz4_1, hcz4_2, hcz4_3, hfz4_0, hfz4_1, hfz4_2, hfz4_3⟩ := bc4_ BK1.out
  go_enter Try.func102, Try.ntmps102
  go_upto_region 2 with (first | ((with_reducible refine gate_dst (N := 8) rfl ?_); (try (refine gate_guard (by rfl) ?_; dsimp only)); refine Kd.R_lit (Kd.int .i64) _ 3 ?hg (N := 8) ?hd (xs := ([1] : List Int)) (inner := [.int .i64 1]) (ok := fun _ => True) (okp := fun _ => True) ?hr ?hp (fun _ hk => hk) trivial (Below.refl _ _) (Nat.le_refl _) (by simp) ?_; (case hd => rfl); (case hg => rfl); (case hr => first | (go_simp; done) | (go_simp; rfl)); (case hp => exact (Reps.one (show Kd.M (Kd.int .i64) _ _ _ 1 [.int .i64 1] from rfl) (Reps.none _ _))); intro v189 w5 ho6 hb hg_ hnew_; clear hg_ hnew_; (first | rw [← Ny188.out] at ho6 | (simp only [Int.reduceToNat] at ho6; rw [← Ny188.out] at ho6)); have n0_ := Aside0.mk (Kd.R_lower ho6 (below_size (pb_ HB.out))); have n1_ := Aside0.mk (bb_ BK1.out hb); have n2_ := Aside0.mk (below_step (pb_ HB.out) hb); clear BK1; clear HB; have HO190 := n0_; have BK1 := n1_; have HB := n2_; clear n0_ n1_ n2_; clear hb ho6) | ((with_reducible refine gate_dst (N := 11) rfl ?_); (try (refine gate_guard (by rfl) ?_; dsimp only)); refine Kd.S_lit k114 _ 114 ?hg (N := 11) ?hd (xs := ([(⟨a0, ([] : List Int)⟩ : S114)] : List (S114))) (inner := [.int .i64 a0, .slice none 0 0]) (ok := fun _ => True) (okp := fun _ => True) ?hr ?hp (fun _ hk => hk) trivial (Below.refl _ _) (Nat.le_refl _) (by simp) ?_; (case hd => rfl); (case hg => rfl); (case hr => first | (go_simp; done) | (go_simp; rfl)); (case hp => exact (Reps.c2 (show Kd.M k114 _ _ _ (⟨a0, ([] : List Int)⟩ : S114) [.int .i64 a0, .slice none 0 0] from (k114_mkM _ _ _ (⟨a0, ([] : List Int)⟩ : S114) (Kd.R_nil _ _ _ _ _))) (Reps.none _ _))); intro v192 w7 ho8 hb hg_ hnew_; clear hg_ hnew_; (first | rw [← Ny191.out] at ho8 | (simp only [Int.reduceToNat] at ho8; rw [← Ny191.out] at ho8)); have n0_ := Aside0.mk (Kd.R_below (pr_ HO190.out) hb); have n1_ := Aside0.mk (Kd.S_lower (Kd.S_new' ho8 (Kd.R_lt (pr_ HO190.out))) (below_size (pb_ HB.out))); have n2_ := Aside0.mk (bb_ BK1.out hb); have n3_ := Aside0.mk (below_step (pb_ HB.out) hb); clear HO190; clear BK1; clear HB; have HO190 := n0_; have HO193 := n1_; have BK1 := n2_; have HB := n3_; clear n0_ n1_ n2_ n3_; clear hb ho8; obtain ⟨Ao9, co9, eo9⟩ := Kd.S_slice HO193.out; subst eo9; obtain ⟨Ao10, co10, eo10⟩ := Kd.R_slice HO190.out; subst eo10) | ((with_reducible refine gate_callee (f := 103) rfl ?_); refine goesL_ (some 13) rfl rfl Try.func103 (by kernel_rfl) rfl #[.agg #[.int .i64 a1_0, .slice A1_1 l1_1.length c1_1, .slice A1_2 l1_2.length c1_2, .bool a1_3], .agg #[.slice Ao10 y188.length co10, .slice Ao9 y191.length co9]] rfl mp_ ?_; (with_reducible refine (impl_PassBox.calls k a1_0 _ _ l1_1 _ _ l1_2 a1_3 _ _ y188 _ _ y191 t194 t197 t200 _ ?side1 ?side2 ?side3 ?side4 ?side5 ?side6 ?side7 ?side8 A3.out).mono ?_); (case side1 => exact pc_ (Kd.C_below HR1_1.out HB.out)); (case side2 => exact HC1_1.out); (case side3 => exact pc_ (Kd.C_below HR1_2.out HB.out)); (case side4 => exact HC1_2.out); (case side5 => exact pc_ ((Kd.R_reads' HO190.out).2.2)); (case side6 => exact (Kd.R_reads' HO190.out).2.1); (case side7 => exact pc_ ((Kd.S_reads' HO193.out).2.2)); (case side8 => exact (Kd.S_reads' HO193.out).2.1); rintro e w11 ⟨v195, v198, rfl, ho0, ho1, hb⟩; refine ⟨_, rfl, ?_⟩; have n0_ := Aside0.mk (Kd.R_elder' (pr_ HO190.out) (Kd.R_base ho0) hb); have n1_ := Aside0.mk (Kd.S_mono (Kd.S_told (Kd.S_told (Kd.S_old (ps_ HO193.out) hb) (Kd.R_base ho0)) (Kd.S_base ho1)) (fun _ h_ => h_.1)); have n2_ := Aside0.mk (Kd.R_lower (Kd.R_new' ho0 (Kd.R_lt (pr_ HO190.out))) (below_size (pb_ HB.out))); have n3_ := Aside0.mk (Kd.S_lower (Kd.S_new' (Kd.S_new' ho1 (Kd.R_lt (pr_ HO190.out))) (Kd.S_lt (ps_ HO193.out))) (below_size (pb_ HB.out))); have n4_ := Aside0.mk (bb_ BK1.out hb); have n5_ := Aside0.mk (below_step (pb_ HB.out) hb); clear HO190; clear HO193; clear BK1; clear HB; have HO190 := n0_; have HO193 := n1_; have HO196 := n2_; have HO199 := n3_; have BK1 := n4_; have HB := n5_; clear n0_ n1_ n2_ n3_ n4_ n5_; (try clear hb); (try clear hb2); (try clear hk); (try clear hi); (try clear ho0); (try clear ho1)) | ((with_reducible refine gate_dst (N := 4) rfl ?_); (try (refine gate_guard (by rfl) ?_; dsimp only)); refine box_event ?hg (N := 4) ?hd (cs := #[.slice none 0 0, .slice none 0 0]) (t := 106) ?hr ?_; (case hd => rfl); (case hg => rfl); (case hr => first | (go_simp; done) | (go_simp; rfl)); intro gb201 hg w12 hbox hb; have n0_ := Aside0.mk (Kd.R_below (pr_ HO190.out) hb); have n1_ := Aside0.mk (Kd.S_below (ps_ HO193.out) hb); have n2_ := Aside0.mk (Kd.R_below (pr_ HO196.out) hb); have n3_ := Aside0.mk (Kd.S_below (ps_ HO199.out) hb); have n4_ := Aside0.mk (bb_ BK1.out hb); have n5_ := Aside0.mk (below_step (pb_ HB.out) hb); have n6_ := Aside0.mk (hbox); have n7_ := Aside0.mk ((by rw [hg]; exact (below_size (pb_ HB.out)) : w.heap.size ≤ gb201)); have n8_ := Aside0.mk ((by rw [hg]; exact (below_size (pb_ HB.out)) : w.heap.size ≤ gb201)); have n9_ := Aside0.mk ((by rw [hg]; exact Nat.ne_of_lt (blk_lt (pk_ BK1.out)) : B1 ≠ gb201)); have n10_ := Aside0.mk ((by rw [hg]; exact Nat.ne_of_gt (blk_lt (pk_ BK1.out)) : gb201 ≠ B1)); clear HO190; clear HO193; clear HO196; clear HO199; clear BK1; clear HB; have HO190 := n0_; have HO193 := n1_; have HO196 := n2_; have HO199 := n3_; have BK1 := n4_; have HB := n5_; have BK201 := n6_; have GW201 := n7_; have GE201 := n8_; have NB1_201 := n9_; have NB201_1 := n10_; clear n0_ n1_ n2_ n3_ n4_ n5_ n6_ n7_ n8_ n9_ n10_; clear hb hbox hg; obtain ⟨Ao13, co13, eo13⟩ := Kd.R_slice HO196.out; subst eo13; have hnb14 := NB201_1.out; have hnc14 := NB1_201.out; have hcz15_0 : w12.cell? ⟨gb201, 0, none⟩ = some (.slice none 0 0) := (blk_cell BK201.out 0).trans rfl; have hcz15_1 : w12.cell? ⟨gb201, 1, none⟩ = some (.slice none 0 0) := (blk_cell BK201.out 1).trans rfl; have hfz15_0 := blk_frozen BK201.out 0; have hfz15_1 := blk_frozen BK201.out 1; obtain ⟨Ao16, co16, eo16⟩ := Kd.S_slice HO199.out; subst eo16))
  (try simp only [Act.put, List.setIfInBounds_toArray, List.set_cons_zero, List.set_cons_succ])
  have H := HS_.out
  clear HS_
  by_cases c17 : t200 = true
  rotate_left
  · replace c17 := Bool.eq_false_iff.mpr c17
    subst c17
    rw [if_neg (show ¬ (false = true) by decide)] at H
    obtain rfl := Option.some.inj H
    go_wp2
    go_ret
    exact ⟨er_, pb1_ HB.out GE201.out⟩
  subst c17
  rw [if_pos rfl] at H
  obtain rfl := Option.some.inj H
  have hnb18 := NB201_1.out
  have hnc18 := NB1_201.out
  obtain ⟨hcz19_0, hcz19_1, hfz19_0, hfz19_1⟩ := bc2_ BK201.out
  go_wp2
  go_ret
  exact ⟨er_, pb1_ HB.out GE201.out⟩

/-! ### slices_IndexFunc_int_int_with_impl_RefusesGrease_1: function 100011 -/
def slices_IndexFunc_int_int_with_impl_RefusesGrease_1.l0 : Nat → List Int → Int → Int → Int → List Int → List Int → Bool → Option (Int)
  | 0, _, _, _, _, _, _, _ => none
  | k + 1, x0, x7, x8, x2000, x2001, x2002, x2003 => if x8 < x7 then (if 0 ≤ x8 then (if x8 < (x0.length : Int) then ((impl_RefusesGrease_1.f k (rd x0 x8) x2000 x2001 x2002 x2003).bind fun t203 => (if t203 = true then (some x8) else (slices_IndexFunc_int_int_with_impl_RefusesGrease_1.l0 k x0 x7 (wrap64 (x8 + 1)) x2000 x2001 x2002 x2003))) else (none)) else (none)) else (some (-1))
def slices_IndexFunc_int_int_with_impl_RefusesGrease_1.f (k : Nat) (l0 : List Int) (a1_0 : Int) (l1_1 : List Int) (l1_2 : List Int) (a1_3 : Bool) : Option (Int) := slices_IndexFunc_int_int_with_impl_RefusesGrease_1.l0 k l0 (l0.length : Int) 0 a1_0 l1_1 l1_2 a1_3
theorem slices_IndexFunc_int_int_with_impl_RefusesGrease_1.mono_l : ∀ k, (∀ y0 y1 y2 y3 y4 y5 y6, LeO (slices_IndexFunc_int_int_with_impl_RefusesGrease_1.l0 k y0 y1 y2 y3 y4 y5 y6) (slices_IndexFunc_int_int_with_impl_RefusesGrease_1.l0 (k + 1) y0 y1 y2 y3 y4 y5 y6))
  | 0 => fun _ _ _ _ _ _ _ r h => by simp [slices_IndexFunc_int_int_with_impl_RefusesGrease_1.l0] at h
  | k + 1 => by
    have ih0 := slices_IndexFunc_int_int_with_impl_RefusesGrease_1.mono_l k
    · intro y0 y1 y2 y3 y4 y5 y6
      unfold slices_IndexFunc_int_int_with_impl_RefusesGrease_1.l0
      repeat' first
      | (with_reducible exact ih0 _ _ _ _ _ _ _)
      | (with_reducible exact impl_RefusesGrease_1.mono _ _ _ _ _ _)
      | (with_reducible exact LeO.refl _)
      | (with_reducible exact LeO.none _)
      | (with_reducible refine LeO.ite ?_ ?_)
      | (with_reducible refine LeO.bind ?_ (fun _ => ?_))
      | exact ih0 _ _ _ _ _ _ _
      | exact impl_RefusesGrease_1.mono _ _ _ _ _ _
      | exact LeO.none _
      | refine LeO.ite ?_ ?_
      | refine LeO.bind ?_ (fun _ => ?_)
theorem slices_IndexFunc_int_int_with_impl_RefusesGrease_1.mono : ∀ a0 a1 a2 a3 a4 k, LeO (slices_IndexFunc_int_int_with_impl_RefusesGrease_1.f k a0 a1 a2 a3 a4) (slices_IndexFunc_int_int_with_impl_RefusesGrease_1.f (k + 1) a0 a1 a2 a3 a4) := by
  intro a0 a1 a2 a3 a4 k
  have ih0 := slices_IndexFunc_int_int_with_impl_RefusesGrease_1.mono_l k
  unfold slices_IndexFunc_int_int_with_impl_RefusesGrease_1.f
  repeat' first
      | (with_reducible exact ih0 _ _ _ _ _ _ _)
      | (with_reducible exact impl_RefusesGrease_1.mono _ _ _ _ _ _)
      | (with_reducible exact LeO.refl _)
      | (with_reducible exact LeO.none _)
      | (with_reducible refine LeO.ite ?_ ?_)
      | (with_reducible refine LeO.bind ?_ (fun _ => ?_))
      | exact ih0 _ _ _ _ _ _ _
      | exact impl_RefusesGrease_1.mono _ _ _ _ _ _
      | exact LeO.none _
      | refine LeO.ite ?_ ?_
      | refine LeO.bind ?_ (fun _ => ?_)
set_option maxHeartbeats 8000000 in
set_option maxRecDepth 100000 in
theorem slices_IndexFunc_int_int_with_impl_RefusesGrease_1.calls (k : Nat) (A0 : Option Addr) (c0 : Nat) (l0 : List Int) (B1 : Nat) (a1_0 : Int) (A1_1 : Option Addr) (c1_1 : Nat) (l1_1 : List Int) (A1_2 : Option Addr) (c1_2 : Nat) (l1_2 : List Int) (a1_3 : Bool) (r : Int) (w : World) (hr0 : Kd.C (Kd.int .i64) w A0 l0.length l0) (hc0 : l0.length ≤ c0) (hr1_1 : Kd.C (Kd.int .i64) w A1_1 l1_1.length l1_1) (hc1_1 : l1_1.length ≤ c1_1) (hr1_2 : Kd.C (Kd.int .i64) w A1_2 l1_2.length l1_2) (hc1_2 : l1_2.length ≤ c1_2) (hbv1 : w.heap[B1]? = some (.cells #[.int .i64 a1_0, .slice A1_1 l1_1.length c1_1, .slice A1_2 l1_2.length c1_2, .bool a1_3] 67 (0, 0))) (h : slices_IndexFunc_int_int_with_impl_RefusesGrease_1.f k l0 a1_0 l1_1 l1_2 a1_3 = some r) :
    Calls Try.prog 124 #[.slice A0 l0.length c0, .func (.func 102) #[] #[.pointer (some ⟨B1, 0, none⟩)]] w fun e w' => e = .returned (.int .i64 r) ∧ Below w.heap.size w w' := by
  have HR0 := Aside0.mk hr0
  have HC0 := Aside0.mk hc0
  clear hr0 hc0
  have HR1_1 := Aside0.mk hr1_1
  have HC1_1 := Aside0.mk hc1_1
  clear hr1_1 hc1_1
  have HR1_2 := Aside0.mk hr1_2
  have HC1_2 := Aside0.mk hc1_2
  clear hr1_2 hc1_2
  have BK1 := Aside0.mk hbv1
  clear hbv1
  have HB := Aside0.mk (Below.refl w.heap.size w)
  have H : (slices_IndexFunc_int_int_with_impl_RefusesGrease_1.l0 k l0 (l0.length : Int) 0 a1_0 l1_1 l1_2 a1_3) = some r := h
  clear h
  have H' := Aside0.mk H
  clear H
  go_enter Try.func124, Try.ntmps124
  go_wp2
  go_loopg [8] k (fun kq v8 w' => ∃ (x8_1 : Int), v8 = .int .i64 x8_1 ∧ Aside0 (slices_IndexFunc_int_int_with_impl_RefusesGrease_1.l0 kq l0 (l0.length : Int) x8_1 a1_0 l1_1 l1_2 a1_3 = some r) ∧ Aside0 (kq ≤ k) ∧ Aside0 (w'.heap[B1]? = some (.cells #[.int .i64 a1_0, (.slice A1_1 l1_1.length c1_1), (.slice A1_2 l1_2.length c1_2), .bool a1_3] 67 (0, 0))) ∧ Aside0 (Below w.heap.size w w'))
  case atStart => exact ⟨(0), el_, H', ⟨Nat.le_refl _⟩, ⟨pk_ BK1.out⟩, ⟨pb_ HB.out⟩⟩
  clear H'
  try clear c1
  try clear p2
  obtain ⟨x8_1, rfl, HA, HK1, BK1, HB⟩ := hrel
  rcases gk with _ | k1
  · exact absurd HA.out (by simp [slices_IndexFunc_int_int_with_impl_RefusesGrease_1.l0])
  have H := HA.out
  clear HA
  simp only [slices_IndexFunc_int_int_with_impl_RefusesGrease_1.l0] at H
  by_cases c3 : x8_1 < (l0.length : Int)
  rotate_left
  · rw [if_neg c3] at H
    have c3b0 : decide (x8_1 < (l0.length : Int)) = false := decide_eq_false c3
    clear c3
    obtain rfl := Option.some.inj H
    go_wp2
    go_ret
    exact ⟨er_, pb_ HB.out⟩
  rw [if_pos c3] at H
  have c3b0 : decide (x8_1 < (l0.length : Int)) = true := decide_eq_true c3
  clear c3
  by_cases c4 : 0 ≤ x8_1
  rotate_left
  · rw [if_neg c4] at H
    exact absurd H (by simp)
  rw [if_pos c4] at H
  have c4b0 : decide (0 ≤ x8_1) = true := decide_eq_true c4
  clear c4
  by_cases c5 : x8_1 < (l0.length : Int)
  rotate_left
  · rw [if_neg c5] at H
    exact absurd H (by simp)
  rw [if_pos c5] at H
  have c5b0 : decide (x8_1 < (l0.length : Int)) = true := decide_eq_true c5
  clear c5
  replace H := Option.bind_eq_some_iff.mp H
  obtain ⟨t203, A60, H⟩ := H
  (try dsimp only at H)
  have A6 := Aside0.mk A60
  clear A60
  have HS_ := Aside0.mk H
  clear H
  have p202 : 0 ≤ (x8_1 : Int) := dt_
  have q202 : x8_1 < (l0.length : Int) := dt_
  obtain ⟨ad202, e202, hx202_0⟩ := Kd.at_int HR0.out x8_1 p202 q202
  cases e202
  replace hx202_0 := (HB.out.cell (World.block_lt_of_cell? w _ hx202_0)).trans hx202_0
  replace p202 := eq_true p202
  replace q202 := eq_true q202
  go_upto_if 16 with (first | (go_at_call 102; (with_reducible refine (impl_RefusesGrease_1.calls k1 (rd l0 x8_1) _ a1_0 A1_1 c1_1 l1_1 A1_2 c1_2 l1_2 a1_3 t203 _ ?side1 ?side2 ?side3 ?side4 ?side5 A6.out).mono ?_); (case side1 => exact pc_ (Kd.C_below HR1_1.out HB.out)); (case side2 => exact HC1_1.out); (case side3 => exact pc_ (Kd.C_below HR1_2.out HB.out)); (case side4 => exact HC1_2.out); (case side5 => exact pk_ BK1.out); rintro e w7 ⟨rfl, hb⟩; have n0_ := Aside0.mk (bb_ BK1.out hb); have n1_ := Aside0.mk (below_step (pb_ HB.out) hb); clear BK1; clear HB; have BK1 := n0_; have HB := n1_; clear n0_ n1_; (try clear hb); (try clear hb2); (try clear hk); (try clear hi)))
  (try simp only [Act.put, List.setIfInBounds_toArray, List.set_cons_zero, List.set_cons_succ])
  have H := HS_.out
  clear HS_
  by_cases c8 : t203 = true
  rotate_left
  · replace c8 := Bool.eq_false_iff.mpr c8
    subst c8
    rw [if_neg (show ¬ (false = true) by decide)] at H
    have H' := Aside0.mk H
    clear H
    go_wp2
    go_roundg k1
    case measure => have := HK1.out; omega
    case rel => exact ⟨(wrap64 (x8_1 + 1)), el_, H', ⟨by have := HK1.out; omega⟩, ⟨pk_ BK1.out⟩, ⟨pb_ HB.out⟩⟩
  subst c8
  rw [if_pos rfl] at H
  obtain rfl := Option.some.inj H
  go_wp2
  go_ret
  exact ⟨er_, pb_ HB.out⟩

/-! ### slices_ContainsFunc_int_int_with_impl_RefusesGrease_1: function 100010 -/
def slices_ContainsFunc_int_int_with_impl_RefusesGrease_1.f (k : Nat) (l0 : List Int) (a1_0 : Int) (l1_1 : List Int) (l1_2 : List Int) (a1_3 : Bool) : Option (Bool) := (slices_IndexFunc_int_int_with_impl_RefusesGrease_1.f k l0 a1_0 l1_1 l1_2 a1_3).bind fun t204 => (some (decide (t204 ≥ 0)))
theorem slices_ContainsFunc_int_int_with_impl_RefusesGrease_1.mono : ∀ a0 a1 a2 a3 a4 k, LeO (slices_ContainsFunc_int_int_with_impl_RefusesGrease_1.f k a0 a1 a2 a3 a4) (slices_ContainsFunc_int_int_with_impl_RefusesGrease_1.f (k + 1) a0 a1 a2 a3 a4) := by
  intro a0 a1 a2 a3 a4 k
  unfold slices_ContainsFunc_int_int_with_impl_RefusesGrease_1.f
  repeat' first
      | (with_reducible exact slices_IndexFunc_int_int_with_impl_RefusesGrease_1.mono _ _ _ _ _ _)
      | (with_reducible exact LeO.refl _)
      | (with_reducible exact LeO.none _)
      | (with_reducible refine LeO.ite ?_ ?_)
      | (with_reducible refine LeO.bind ?_ (fun _ => ?_))
      | exact slices_IndexFunc_int_int_with_impl_RefusesGrease_1.mono _ _ _ _ _ _
      | exact LeO.none _
      | refine LeO.ite ?_ ?_
      | refine LeO.bind ?_ (fun _ => ?_)
set_option maxHeartbeats 8000000 in
set_option maxRecDepth 100000 in
theorem slices_ContainsFunc_int_int_with_impl_RefusesGrease_1.calls (k : Nat) (A0 : Option Addr) (c0 : Nat) (l0 : List Int) (B1 : Nat) (a1_0 : Int) (A1_1 : Option Addr) (c1_1 : Nat) (l1_1 : List Int) (A1_2 : Option Addr) (c1_2 : Nat) (l1_2 : List Int) (a1_3 : Bool) (r : Bool) (w : World) (hr0 : Kd.C (Kd.int .i64) w A0 l0.length l0) (hc0 : l0.length ≤ c0) (hr1_1 : Kd.C (Kd.int .i64) w A1_1 l1_1.length l1_1) (hc1_1 : l1_1.length ≤ c1_1) (hr1_2 : Kd.C (Kd.int .i64) w A1_2 l1_2.length l1_2) (hc1_2 : l1_2.length ≤ c1_2) (hbv1 : w.heap[B1]? = some (.cells #[.int .i64 a1_0, .slice A1_1 l1_1.length c1_1, .slice A1_2 l1_2.length c1_2, .bool a1_3] 67 (0, 0))) (h : slices_ContainsFunc_int_int_with_impl_RefusesGrease_1.f k l0 a1_0 l1_1 l1_2 a1_3 = some r) :
    Calls Try.prog 100 #[.slice A0 l0.length c0, .func (.func 102) #[] #[.pointer (some ⟨B1, 0, none⟩)]] w fun e w' => e = .returned (.bool r) ∧ Below w.heap.size w w' := by
  have HR0 := Aside0.mk hr0
  have HC0 := Aside0.mk hc0
  clear hr0 hc0
  have HR1_1 := Aside0.mk hr1_1
  have HC1_1 := Aside0.mk hc1_1
  clear hr1_1 hc1_1
  have HR1_2 := Aside0.mk hr1_2
  have HC1_2 := Aside0.mk hc1_2
  clear hr1_2 hc1_2
  have BK1 := Aside0.mk hbv1
  clear hbv1
  have HB := Aside0.mk (Below.refl w.heap.size w)
  have H : ((slices_IndexFunc_int_int_with_impl_RefusesGrease_1.f k l0 a1_0 l1_1 l1_2 a1_3).bind fun t204 => (some (decide (t204 ≥ 0)))) = some r := h
  clear h
  replace H := Option.bind_eq_some_iff.mp H
  obtain ⟨t204, A30, H⟩ := H
  replace H : (some (decide (t204 ≥ 0))) = some r := H
  have A3 := Aside0.mk A30
  clear A30
  obtain rfl := Option.some.inj H
  go_enter Try.func100, Try.ntmps100
  go_wp2_with (first | (go_at_call 124; (with_reducible refine (slices_IndexFunc_int_int_with_impl_RefusesGrease_1.calls k _ _ l0 _ a1_0 A1_1 c1_1 l1_1 A1_2 c1_2 l1_2 a1_3 t204 _ ?side1 ?side2 ?side3 ?side4 ?side5 ?side6 ?side7 A3.out).mono ?_); (case side1 => exact pc_ HR0.out); (case side2 => exact HC0.out); (case side3 => exact pc_ HR1_1.out); (case side4 => exact HC1_1.out); (case side5 => exact pc_ HR1_2.out); (case side6 => exact HC1_2.out); (case side7 => exact pk_ BK1.out); rintro e w4 ⟨rfl, hb⟩; have n0_ := Aside0.mk (bb_ BK1.out hb); have n1_ := Aside0.mk (below_step (pb_ HB.out) hb); clear BK1; clear HB; have BK1 := n0_; have HB := n1_; clear n0_ n1_; (try clear hb); (try clear hb2); (try clear hk); (try clear hi)))
  go_ret
  exact ⟨er_, pb_ HB.out⟩

/-! ### impl_RefusesGrease: function 53 -/
def impl_RefusesGrease.f (k : Nat) (a0_0 : Int) (l0_1 : List Int) (l0_2 : List Int) (a0_3 : Bool) : Option (Bool) := (impl_IsBox.f k a0_0 l0_1 l0_2 a0_3).bind fun t206 => (if t206 = true then ((impl_reservedTags.f k).bind fun t207 => ((slices_ContainsFunc_int_int_with_impl_RefusesGrease_1.f k t207 a0_0 l0_1 l0_2 a0_3).bind fun t210 => (some t210))) else (some false))
theorem impl_RefusesGrease.mono : ∀ a0 a1 a2 a3 k, LeO (impl_RefusesGrease.f k a0 a1 a2 a3) (impl_RefusesGrease.f (k + 1) a0 a1 a2 a3) := by
  intro a0 a1 a2 a3 k
  unfold impl_RefusesGrease.f
  repeat' first
      | (with_reducible exact impl_IsBox.mono _ _ _ _ _)
      | (with_reducible exact impl_reservedTags.mono _)
      | (with_reducible exact slices_ContainsFunc_int_int_with_impl_RefusesGrease_1.mono _ _ _ _ _ _)
      | (with_reducible exact LeO.refl _)
      | (with_reducible exact LeO.none _)
      | (with_reducible refine LeO.ite ?_ ?_)
      | (with_reducible refine LeO.bind ?_ (fun _ => ?_))
      | exact impl_IsBox.mono _ _ _ _ _
      | exact impl_reservedTags.mono _
      | exact slices_ContainsFunc_int_int_with_impl_RefusesGrease_1.mono _ _ _ _ _ _
      | exact LeO.none _
      | refine LeO.ite ?_ ?_
      | refine LeO.bind ?_ (fun _ => ?_)
set_option maxHeartbeats 8000000 in
set_option maxRecDepth 100000 in
theorem impl_RefusesGrease.calls (k : Nat) (a0_0 : Int) (A0_1 : Option Addr) (c0_1 : Nat) (l0_1 : List Int) (A0_2 : Option Addr) (c0_2 : Nat) (l0_2 : List Int) (a0_3 : Bool) (r : Bool) (w : World) (hr0_1 : Kd.C (Kd.int .i64) w A0_1 l0_1.length l0_1) (hc0_1 : l0_1.length ≤ c0_1) (hr0_2 : Kd.C (Kd.int .i64) w A0_2 l0_2.length l0_2) (hc0_2 : l0_2.length ≤ c0_2) (h : impl_RefusesGrease.f k a0_0 l0_1 l0_2 a0_3 = some r) :
    Calls Try.prog 53 #[.agg #[.int .i64 a0_0, .slice A0_1 l0_1.length c0_1, .slice A0_2 l0_2.length c0_2, .bool a0_3]] w fun e w' => e = .returned (.bool r) ∧ Below w.heap.size w w' := by
  have hu67 := Try.underlying67
  have HR0_1 := Aside0.mk hr0_1
  have HC0_1 := Aside0.mk hc0_1
  clear hr0_1 hc0_1
  have HR0_2 := Aside0.mk hr0_2
  have HC0_2 := Aside0.mk hc0_2
  clear hr0_2 hc0_2
  have HB := Aside0.mk (Below.refl w.heap.size w)
  have H : ((impl_IsBox.f k a0_0 l0_1 l0_2 a0_3).bind fun t206 => (if t206 = true then ((impl_reservedTags.f k).bind fun t207 => ((slices_ContainsFunc_int_int_with_impl_RefusesGrease_1.f k t207 a0_0 l0_1 l0_2 a0_3).bind fun t210 => (some t210))) else (some false))) = some r := h
  clear h
  have HS_ := Aside0.mk H
  clear H
  go_enter Try.func53, Try.ntmps53
  go_upto_region 1 with (first | ((with_reducible refine gate_dst (N := 1) rfl ?_); refine box_event ?hg (N := 1) ?hd (cs := #[.int .i64 a0_0, .slice A0_1 l0_1.length c0_1, .slice A0_2 l0_2.length c0_2, .bool a0_3]) (t := 67) ?hr ?_; (case hd => rfl); (case hg => rfl); (case hr => first | (go_simp; done) | (go_simp; rfl)); intro gb205 hg w2 hbox hb; have n0_ := Aside0.mk (below_step (pb_ HB.out) hb); have n1_ := Aside0.mk (hbox); have n2_ := Aside0.mk ((by rw [hg]; exact (below_size (pb_ HB.out)) : w.heap.size ≤ gb205)); have n3_ := Aside0.mk ((by rw [hg]; exact (below_size (pb_ HB.out)) : w.heap.size ≤ gb205)); clear HB; have HB := n0_; have BK205 := n1_; have GW205 := n2_; have GE205 := n3_; clear n0_ n1_ n2_ n3_; clear hb hbox hg))
  (try simp only [Act.put, List.setIfInBounds_toArray, List.set_cons_zero, List.set_cons_succ])
  have H := HS_.out
  clear HS_
  replace H := Option.bind_eq_some_iff.mp H
  obtain ⟨t206, A30, H⟩ := H
  (try dsimp only at H)
  have A3 := Aside0.mk A30
  clear A30
  by_cases c4 : t206 = true
  rotate_left
  · replace c4 := Bool.eq_false_iff.mpr c4
    subst c4
    rw [if_neg (show ¬ (false = true) by decide)] at H
    obtain rfl := Option.some.inj H
    obtain ⟨hcz5_0, hcz5_1, hcz5_2, hcz5_3, hfz5_0, hfz5_1, hfz5_2, hfz5_3⟩ := bc4_ BK205.out
    go_wp2_with (first | ((with_reducible refine gate_callee (f := 96) rfl ?_); refine goesL_ (some 4) rfl rfl Try.func96 (by kernel_rfl) rfl #[.agg #[.int .i64 a0_0, .slice A0_1 l0_1.length c0_1, .slice A0_2 l0_2.length c0_2, .bool a0_3]] rfl mp_ ?_; (with_reducible refine (impl_IsBox.calls k a0_0 _ _ l0_1 _ _ l0_2 a0_3 false _ ?side1 ?side2 ?side3 ?side4 A3.out).mono ?_); (case side1 => exact pc_ (Kd.C_below HR0_1.out HB.out)); (case side2 => exact HC0_1.out); (case side3 => exact pc_ (Kd.C_below HR0_2.out HB.out)); (case side4 => exact HC0_2.out); rintro e w6 ⟨rfl, hb⟩; refine ⟨_, rfl, ?_⟩; have n0_ := Aside0.mk (bb_ BK205.out hb); have n1_ := Aside0.mk (below_step (pb1_ HB.out GE205.out) hb); clear BK205; clear HB; have BK205 := n0_; have HB := n1_; clear n0_ n1_; (try clear hb); (try clear hb2); (try clear hk); (try clear hi)))
    go_ret
    exact ⟨er_, pb1_ HB.out GE205.out⟩
  subst c4
  rw [if_pos rfl] at H
  replace H := Option.bind_eq_some_iff.mp H
  obtain ⟨t207, A70, H⟩ := H
  (try dsimp only at H)
  have A7 := Aside0.mk A70
  clear A70
  replace H := Option.bind_eq_some_iff.mp H
  obtain ⟨t210, A80, H⟩ := H
  replace H : (some t210) = some r := H
  have A8 := Aside0.mk A80
  clear A80
  obtain rfl := Option.some.inj H
  obtain ⟨hcz9_0, hcz9_1, hcz9_2, hcz9_3, hfz9_0, hfz9_1, hfz9_2, hfz9_3⟩ := bc4_ BK205.out
  go_wp2_with (first | ((with_reducible refine gate_callee (f := 96) rfl ?_); refine goesL_ (some 4) rfl rfl Try.func96 (by kernel_rfl) rfl #[.agg #[.int .i64 a0_0, .slice A0_1 l0_1.length c0_1, .slice A0_2 l0_2.length c0_2, .bool a0_3]] rfl mp_ ?_; (with_reducible refine (impl_IsBox.calls k a0_0 _ _ l0_1 _ _ l0_2 a0_3 true _ ?side1 ?side2 ?side3 ?side4 A3.out).mono ?_); (case side1 => exact pc_ (Kd.C_below HR0_1.out HB.out)); (case side2 => exact HC0_1.out); (case side3 => exact pc_ (Kd.C_below HR0_2.out HB.out)); (case side4 => exact HC0_2.out); rintro e w10 ⟨rfl, hb⟩; refine ⟨_, rfl, ?_⟩; have n0_ := Aside0.mk (bb_ BK205.out hb); have n1_ := Aside0.mk (below_step (pb1_ HB.out GE205.out) hb); clear BK205; clear HB; have BK205 := n0_; have HB := n1_; clear n0_ n1_; (try clear hb); (try clear hb2); (try clear hk); (try clear hi)) | (go_at_call 101; (with_reducible refine (impl_reservedTags.calls k  t207 _ A7.out).mono ?_); rintro e w11 ⟨v208, rfl, ho0, hb⟩; have n0_ := Aside0.mk (Kd.R_lower ho0 (below_size (pb1_ HB.out GE205.out))); have n1_ := Aside0.mk (bb_ BK205.out hb); have n2_ := Aside0.mk (below_step (pb1_ HB.out GE205.out) hb); clear BK205; clear HB; have HO209 := n0_; have BK205 := n1_; have HB := n2_; clear n0_ n1_ n2_; (try clear hb); (try clear hb2); (try clear hk); (try clear hi); (try clear ho0); obtain ⟨Ao12, co12, eo12⟩ := Kd.R_slice HO209.out; subst eo12) | (go_at_call 100; (with_reducible refine (slices_ContainsFunc_int_int_with_impl_RefusesGrease_1.calls k _ _ t207 _ a0_0 A0_1 c0_1 l0_1 A0_2 c0_2 l0_2 a0_3 t210 _ ?side1 ?side2 ?side3 ?side4 ?side5 ?side6 ?side7 A8.out).mono ?_); (case side1 => exact pc_ ((Kd.R_reads' HO209.out).2.2)); (case side2 => exact (Kd.R_reads' HO209.out).2.1); (case side3 => exact pc_ (Kd.C_below HR0_1.out HB.out)); (case side4 => exact HC0_1.out); (case side5 => exact pc_ (Kd.C_below HR0_2.out HB.out)); (case side6 => exact HC0_2.out); (case side7 => exact pk_ BK205.out); rintro e w13 ⟨rfl, hb⟩; have n0_ := Aside0.mk (Kd.R_below (pr_ HO209.out) hb); have n1_ := Aside0.mk (bb_ BK205.out hb); have n2_ := Aside0.mk (below_step (pb1_ HB.out GE205.out) hb); clear HO209; clear BK205; clear HB; have HO209 := n0_; have BK205 := n1_; have HB := n2_; clear n0_ n1_ n2_; (try clear hb); (try clear hb2); (try clear hk); (try clear hi)))
  go_ret
  exact ⟨er_, pb1_ HB.out GE205.out⟩

/-! ### impl_HardenedBoxes: function 58 -/
def impl_HardenedBoxes.l0 : Nat → List Int → List (S67) → Int → Int → Option (List Int)
  | 0, _, _, _, _ => none
  | k + 1, x3, x7, x8, x9 => if x9 < x8 then (if 0 ≤ x9 then (if x9 < (x7.length : Int) then ((impl_RefusesGrease.f k ((rd_T67 x7 x9).f0) ((rd_T67 x7 x9).f1) ((rd_T67 x7 x9).f2) ((rd_T67 x7 x9).f3)).bind fun t216 => (if t216 = true then (if x3.length < 17592186044416 then (impl_HardenedBoxes.l0 k (x3 ++ [x9]) x7 x8 (wrap64 (x9 + 1))) else (none)) else (impl_HardenedBoxes.l0 k x3 x7 x8 (wrap64 (x9 + 1))))) else (none)) else (none)) else (some x3)
def impl_HardenedBoxes.f (k : Nat) (l0 : List (S67)) : Option (List Int) := impl_HardenedBoxes.l0 k (([] : List Int)) l0 (l0.length : Int) 0
theorem impl_HardenedBoxes.mono_l : ∀ k, (∀ y0 y1 y2 y3, LeO (impl_HardenedBoxes.l0 k y0 y1 y2 y3) (impl_HardenedBoxes.l0 (k + 1) y0 y1 y2 y3))
  | 0 => fun _ _ _ _ r h => by simp [impl_HardenedBoxes.l0] at h
  | k + 1 => by
    have ih0 := impl_HardenedBoxes.mono_l k
    · intro y0 y1 y2 y3
      unfold impl_HardenedBoxes.l0
      repeat' first
      | (with_reducible exact ih0 _ _ _ _)
      | (with_reducible exact impl_RefusesGrease.mono _ _ _ _ _)
      | (with_reducible exact LeO.refl _)
      | (with_reducible exact LeO.none _)
      | (with_reducible refine LeO.ite ?_ ?_)
      | (with_reducible refine LeO.bind ?_ (fun _ => ?_))
      | exact ih0 _ _ _ _
      | exact impl_RefusesGrease.mono _ _ _ _ _
      | exact LeO.none _
      | refine LeO.ite ?_ ?_
      | refine LeO.bind ?_ (fun _ => ?_)
theorem impl_HardenedBoxes.mono : ∀ a0 k, LeO (impl_HardenedBoxes.f k a0) (impl_HardenedBoxes.f (k + 1) a0) := by
  intro a0 k
  have ih0 := impl_HardenedBoxes.mono_l k
  unfold impl_HardenedBoxes.f
  repeat' first
      | (with_reducible exact ih0 _ _ _ _)
      | (with_reducible exact impl_RefusesGrease.mono _ _ _ _ _)
      | (with_reducible exact LeO.refl _)
      | (with_reducible exact LeO.none _)
      | (with_reducible refine LeO.ite ?_ ?_)
      | (with_reducible refine LeO.bind ?_ (fun _ => ?_))
      | exact ih0 _ _ _ _
      | exact impl_RefusesGrease.mono _ _ _ _ _
      | exact LeO.none _
      | refine LeO.ite ?_ ?_
      | refine LeO.bind ?_ (fun _ => ?_)
set_option maxHeartbeats 8000000 in
set_option maxRecDepth 100000 in
theorem impl_HardenedBoxes.calls (k : Nat) (A0 : Option Addr) (c0 : Nat) (l0 : List (S67)) (r : List Int) (w : World) (hr0 : Kd.C k67 w A0 l0.length l0) (hc0 : l0.length ≤ c0) (h : impl_HardenedBoxes.f k l0 = some r) :
    Calls Try.prog 58 #[.slice A0 l0.length c0] w fun e w' => ∃ v0_ : Value, e = .returned (v0_) ∧ Kd.R (Kd.int .i64) 3 w' w.heap.size (fun _ => True) v0_ r ∧ Below w.heap.size w w' := by
  have hu67 := Try.underlying67
  have HR0 := Aside0.mk hr0
  have HC0 := Aside0.mk hc0
  clear hr0 hc0
  have HB := Aside0.mk (Below.refl w.heap.size w)
  have H : (impl_HardenedBoxes.l0 k (([] : List Int)) l0 (l0.length : Int) 0) = some r := h
  clear h
  obtain ⟨y211, hy211⟩ : ∃ y_ : List Int, y_ = (([] : List Int)) := ⟨_, rfl⟩
  replace H : (impl_HardenedBoxes.l0 k y211 l0 (l0.length : Int) 0) = some r := by first | (rw [hy211]; with_reducible exact H) | (have H2_ := (Option.bind_some _ _).symm.trans H; rw [hy211]; with_reducible exact H2_) | (have H2_ := (Option.bind_some _ _).symm.trans H; with_reducible exact H2_) | with_reducible exact H | (rw [hy211]; exact H) | exact H
  have Ny211 := Aside0.mk hy211
  clear hy211
  have H' := Aside0.mk H
  clear H
  go_enter Try.func58, Try.ntmps58
  go_wp2_with (first | ((with_reducible refine gate_dst (N := 6) rfl ?_); refine Kd.R_lit (Kd.int .i64) _ 3 ?hg (N := 6) ?hd (xs := ([] : List Int)) (inner := []) (ok := fun _ => True) (okp := fun _ => True) ?hr ?hp (fun _ hk => hk) trivial (Below.refl _ _) (Nat.le_refl _) (by simp) ?_; (case hd => rfl); (case hg => rfl); (case hr => first | (go_simp; done) | (go_simp; rfl)); (case hp => exact (Reps.none _ _)); intro v212 w2 ho3 hb hg_ hnew_; clear hg_ hnew_; (first | rw [← Ny211.out] at ho3 | (simp only [Int.reduceToNat] at ho3; rw [← Ny211.out] at ho3)); have n0_ := Aside0.mk (Kd.R_lower ho3 (below_size (pb_ HB.out))); have n1_ := Aside0.mk (below_step (pb_ HB.out) hb); clear HB; have HO213 := n0_; have HB := n1_; clear n0_ n1_; clear hb ho3))
  (try simp only [Act.put, List.setIfInBounds_toArray, List.set_cons_zero, List.set_cons_succ])
  go_loopg [3, 9] k (fun kq v3 v9 w' => ∃ (x3_1 : List Int) (x9_1 : Int), v9 = .int .i64 x9_1 ∧ Aside0 (impl_HardenedBoxes.l0 kq x3_1 l0 (l0.length : Int) x9_1 = some r) ∧ Aside0 (kq ≤ k) ∧ Aside0 (Kd.R (Kd.int .i64) 3 w' w.heap.size (fun _ => True) v3 x3_1) ∧ Aside0 (Below w.heap.size w w'))
  case atStart => exact ⟨(y211), (0), el_, H', ⟨Nat.le_refl _⟩, ⟨pr_ HO213.out⟩, ⟨pb_ HB.out⟩⟩
  clear H'
  try clear p2
  obtain ⟨x3_1, x9_1, rfl, HA, HK1, HO_3, HB⟩ := hrel
  rcases gk with _ | k1
  · exact absurd HA.out (by simp [impl_HardenedBoxes.l0])
  have H := HA.out
  clear HA
  simp only [impl_HardenedBoxes.l0] at H
  by_cases c4 : x9_1 < (l0.length : Int)
  rotate_left
  · rw [if_neg c4] at H
    have c4b0 : decide (x9_1 < (l0.length : Int)) = false := decide_eq_false c4
    clear c4
    obtain rfl := Option.some.inj H
    go_wp2
    go_ret
    exact ⟨_, er_, pr_ HO_3.out, pb_ HB.out⟩
  rw [if_pos c4] at H
  have c4b0 : decide (x9_1 < (l0.length : Int)) = true := decide_eq_true c4
  clear c4
  by_cases c5 : 0 ≤ x9_1
  rotate_left
  · rw [if_neg c5] at H
    exact absurd H (by simp)
  rw [if_pos c5] at H
  have c5b0 : decide (0 ≤ x9_1) = true := decide_eq_true c5
  clear c5
  by_cases c6 : x9_1 < (l0.length : Int)
  rotate_left
  · rw [if_neg c6] at H
    exact absurd H (by simp)
  rw [if_pos c6] at H
  have c6b0 : decide (x9_1 < (l0.length : Int)) = true := decide_eq_true c6
  clear c6
  have HS_ := Aside0.mk H
  clear H
  have p214 : 0 ≤ (x9_1 : Int) := dt_
  have q214 : x9_1 < (l0.length : Int) := dt_
  obtain ⟨ad214, A214_1, c214_1, A214_2, c214_2, e214, hx214_0, hx214_1, hx214_2, hx214_3, hl214_1, hi214_1, hl214_2, hi214_2⟩ := at_T67 HR0.out x9_1 p214 q214
  cases e214
  replace hx214_0 := (HB.out.cell (World.block_lt_of_cell? w _ hx214_0)).trans hx214_0
  replace hx214_1 := (HB.out.cell (World.block_lt_of_cell? w _ hx214_1)).trans hx214_1
  replace hx214_2 := (HB.out.cell (World.block_lt_of_cell? w _ hx214_2)).trans hx214_2
  replace hx214_3 := (HB.out.cell (World.block_lt_of_cell? w _ hx214_3)).trans hx214_3
  have HR214_1 := Aside0.mk hi214_1
  have HC214_1 := Aside0.mk hl214_1
  clear hi214_1 hl214_1
  have HR214_2 := Aside0.mk hi214_2
  have HC214_2 := Aside0.mk hl214_2
  clear hi214_2 hl214_2
  replace p214 := eq_true p214
  replace q214 := eq_true q214
  go_upto_region 5 with (first | ((with_reducible refine gate_dst (N := 5) rfl ?_); refine box_event ?hg (N := 5) ?hd (cs := #[.int .i64 0, .slice none 0 0, .slice none 0 0, .bool false]) (t := 67) ?hr ?_; (case hd => rfl); (case hg => rfl); (case hr => first | (go_simp; done) | (go_simp; rfl)); intro gb215 hg w7 hbox hb; have n0_ := Aside0.mk (Kd.R_below (pr_ HO_3.out) hb); have n1_ := Aside0.mk (below_step (pb_ HB.out) hb); have n2_ := Aside0.mk (hbox); have n3_ := Aside0.mk ((by rw [hg]; exact (below_size (pb_ HB.out)) : w.heap.size ≤ gb215)); have n4_ := Aside0.mk ((by rw [hg]; exact (below_size (pb_ HB.out)) : w.heap.size ≤ gb215)); clear HO_3; clear HB; have HO_3 := n0_; have HB := n1_; have BK215 := n2_; have GW215 := n3_; have GE215 := n4_; clear n0_ n1_ n2_ n3_ n4_; clear hb hbox hg; have hcz8_0 : w7.cell? ⟨gb215, 0, none⟩ = some (.int .i64 0) := (blk_cell BK215.out 0).trans rfl; have hcz8_1 : w7.cell? ⟨gb215, 1, none⟩ = some (.slice none 0 0) := (blk_cell BK215.out 1).trans rfl; have hcz8_2 : w7.cell? ⟨gb215, 2, none⟩ = some (.slice none 0 0) := (blk_cell BK215.out 2).trans rfl; have hcz8_3 : w7.cell? ⟨gb215, 3, none⟩ = some (.bool false) := (blk_cell BK215.out 3).trans rfl; have hfz8_0 := blk_frozen BK215.out 0; have hfz8_1 := blk_frozen BK215.out 1; have hfz8_2 := blk_frozen BK215.out 2; have hfz8_3 := blk_frozen BK215.out 3))
  (try simp only [Act.put, List.setIfInBounds_toArray, List.set_cons_zero, List.set_cons_succ])
  have H := HS_.out
  clear HS_
  replace H := Option.bind_eq_some_iff.mp H
  obtain ⟨t216, A90, H⟩ := H
  (try dsimp only at H)
  have A9 := Aside0.mk A90
  clear A90
  have HS_ := Aside0.mk H
  clear H
  obtain ⟨hcz10_0, hcz10_1, hcz10_2, hcz10_3, hfz10_0, hfz10_1, hfz10_2, hfz10_3⟩ := bc4_ BK215.out
  go_upto_if 15 with (first | ((with_reducible refine gate_callee (f := 53) rfl ?_); refine goesL_ (some 15) rfl rfl Try.func53 (by kernel_rfl) rfl #[.agg #[.int .i64 ((rd_T67 l0 x9_1).f0), .slice A214_1 ((rd_T67 l0 x9_1).f1).length c214_1, .slice A214_2 ((rd_T67 l0 x9_1).f2).length c214_2, .bool ((rd_T67 l0 x9_1).f3)]] rfl mp_ ?_; (with_reducible refine (impl_RefusesGrease.calls k1 ((rd_T67 l0 x9_1).f0) _ _ ((rd_T67 l0 x9_1).f1) _ _ ((rd_T67 l0 x9_1).f2) ((rd_T67 l0 x9_1).f3) t216 _ ?side1 ?side2 ?side3 ?side4 A9.out).mono ?_); (case side1 => exact Kd.C_below HR214_1.out (pb1_ HB.out GE215.out)); (case side2 => exact HC214_1.out); (case side3 => exact Kd.C_below HR214_2.out (pb1_ HB.out GE215.out)); (case side4 => exact HC214_2.out); rintro e w11 ⟨rfl, hb⟩; refine ⟨_, rfl, ?_⟩; have n0_ := Aside0.mk (Kd.R_below (pr_ (rf4_ HO_3.out BK215.out)) hb); have n1_ := Aside0.mk (blk_below (g := gb215) (o := .cells #[.int .i64 ((rd_T67 l0 x9_1).f0), .slice A214_1 ((rd_T67 l0 x9_1).f1).length c214_1, .slice A214_2 ((rd_T67 l0 x9_1).f2).length c214_2, .bool ((rd_T67 l0 x9_1).f3)] 67 (0, 0)) (pp_ BK215.out) hb); have n2_ := Aside0.mk (below_step (pb1_ HB.out GE215.out) hb); clear HO_3; clear BK215; clear HB; have HO_3 := n0_; have BK215 := n1_; have HB := n2_; clear n0_ n1_ n2_; (try clear hb); (try clear hb2); (try clear hk); (try clear hi)))
  (try simp only [Act.put, List.setIfInBounds_toArray, List.set_cons_zero, List.set_cons_succ])
  have H := HS_.out
  clear HS_
  by_cases c12 : t216 = true
  rotate_left
  · replace c12 := Bool.eq_false_iff.mpr c12
    subst c12
    rw [if_neg (show ¬ (false = true) by decide)] at H
    have H' := Aside0.mk H
    clear H
    go_wp2
    go_roundg k1
    case measure => have := HK1.out; omega
    case rel => exact ⟨(x3_1), (wrap64 (x9_1 + 1)), el_, H', ⟨by have := HK1.out; omega⟩, ⟨pr_ HO_3.out⟩, ⟨pb1_ HB.out GE215.out⟩⟩
  subst c12
  rw [if_pos rfl] at H
  by_cases c13 : x3_1.length < 17592186044416
  rotate_left
  · rw [if_neg c13] at H
    exact absurd H (by simp)
  rw [if_pos c13] at H
  have LMc13 := Aside0.mk c13
  clear c13
  obtain ⟨y217, hy217⟩ : ∃ y_ : List Int, y_ = (x3_1 ++ [x9_1]) := ⟨_, rfl⟩
  replace H : (impl_HardenedBoxes.l0 k1 y217 l0 (l0.length : Int) (wrap64 (x9_1 + 1))) = some r := by first | (rw [hy217]; with_reducible exact H) | (have H2_ := (Option.bind_some _ _).symm.trans H; rw [hy217]; with_reducible exact H2_) | (have H2_ := (Option.bind_some _ _).symm.trans H; with_reducible exact H2_) | with_reducible exact H | (rw [hy217]; exact H) | exact H
  have Ny217 := Aside0.mk hy217
  clear hy217
  have H' := Aside0.mk H
  clear H
  go_wp2_with (first | ((with_reducible refine gate_builtin (b := .append) (xs := #[.tmp 16, .tmp 18]) rfl ?_); at_builtin; refine Kd.R_append (Kd.int .i64) (w0 := w) w.heap.size rfl (.tmp 16) (.tmp 18) 22 3 (.int .i64 0) 8 rfl Try.underlying22 info3 rfl (by decide) (by omega) u3 x3_1 x9_1 [.int .i64 x9_1] (fun _ => True) (fun _ => False) rfl rfl ?aP (fun _ hk => hk.elim) ?aF ?aO ?aB ?aS ?aL ?_; (case aP => exact rfl); (case aB => exact (pb1_ HB.out GE215.out)); (case aF => exact (fun _ _ => trivial)); (case aO => exact (pr_ HO_3.out)); (case aS => exact (below_size (pb1_ HB.out GE215.out))); (case aL => have := LMc13.out; omega); intro v218 w14 ho hb hg hat; rw [← Ny217.out] at ho; have n0_ := Aside0.mk (blk_grown (g := gb215) (o := .cells #[.int .i64 ((rd_T67 l0 x9_1).f0), .slice A214_1 ((rd_T67 l0 x9_1).f1).length c214_1, .slice A214_2 ((rd_T67 l0 x9_1).f2).length c214_2, .bool ((rd_T67 l0 x9_1).f3)] 67 (0, 0)) (pk_ BK215.out) hg (Kd.R_ne HO_3.out BK215.out (by decide))); have n1_ := Aside0.mk (hb); have n2_ := Aside0.mk (ho); clear BK215; clear HB; clear HO_3; have BK215 := n0_; have HB := n1_; have HO219 := n2_; clear n0_ n1_ n2_; clear ho hb hg hat))
  go_roundg k1
  case measure => have := HK1.out; omega
  case rel => exact ⟨(y217), (wrap64 (x9_1 + 1)), el_, H', ⟨by have := HK1.out; omega⟩, ⟨pr_ HO219.out⟩, ⟨pb1_ HB.out GE215.out⟩⟩

end Go.Proofs.Ytdoefkloanpliaa.Print
