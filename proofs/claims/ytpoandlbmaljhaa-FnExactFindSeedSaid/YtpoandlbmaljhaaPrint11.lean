-- Written by a program of this session (printx.py) out of the translation; Lean checks it.
import Derived.Test.YtpoandlbmaljhaaPrint0
import Derived.Test.YtpoandlbmaljhaaPrint7
import Derived.Test.YtpoandlbmaljhaaPrint8
import Derived.Test.YtpoandlbmaljhaaPrint9
import Derived.Test.YtpoandlbmaljhaaPrint10
namespace Go.Proofs.Ytpoandlbmaljhaa.Print
open Go.RowKit Go.Proofs.YtpoandlbmaljhaaW.PrintWords Go.Proofs.YtpoandlbmaljhaaW.PrintLast Go.Proofs.YtpoandlbmaljhaaW.PrintMore Go.Proofs.Ytpoandlbmaljhaa.Short
attribute [local go_sem] max2_int min2_int max_two min_two max_three min_three max_four min_four   -- for this text's walks alone
set_option linter.unusedVariables false
set_option linter.unusedSimpArgs false

/-! ### impl_PassBox: function 86 -/
def impl_PassBox.j0 : Nat → Bool → Int → List Int → List Int → Bool → List Int → List (S69) → Option (List Int × (List (S69)) × Bool)
  | 0, _, _, _, _, _, _, _ => none
  | k + 1, x18, x419000, x419001, x419002, x419003, x420000, x420001 => if x18 = true then (some (([] : List Int), ([] : List (S69)), false)) else ((slices_Clone_int_int.f x420000).bind fun t424 => ((impl_keptExts_with_impl_PassBox_1.f k x420001 x419000 x419001 x419002 x419003).bind fun t427 => (some (t424, t427, true))))
def impl_PassBox.f (k : Nat) (a0_0 : Int) (l0_1 : List Int) (l0_2 : List Int) (a0_3 : Bool) (l1_0 : List Int) (l1_1 : List (S69)) : Option (List Int × (List (S69)) × Bool) := (impl_IsBox.f k a0_0 l0_1 l0_2 a0_3).bind fun t421 => (if t421 = true then ((impl_IsHello.f k l1_0 l1_1).bind fun t422 => (if t422 = true then ((impl_loses.f k a0_0 l0_1 l0_2 a0_3 l1_0 l1_1).bind fun t423 => (impl_PassBox.j0 k t423 a0_0 l0_1 l0_2 a0_3 l1_0 l1_1)) else (impl_PassBox.j0 k true a0_0 l0_1 l0_2 a0_3 l1_0 l1_1))) else (impl_PassBox.j0 k true a0_0 l0_1 l0_2 a0_3 l1_0 l1_1))
theorem impl_PassBox.mono_l : ∀ k, (∀ y0 y1 y2 y3 y4 y5 y6, LeO (impl_PassBox.j0 k y0 y1 y2 y3 y4 y5 y6) (impl_PassBox.j0 (k + 1) y0 y1 y2 y3 y4 y5 y6))
  | 0 => fun _ _ _ _ _ _ _ r h => by simp [impl_PassBox.j0] at h
  | k + 1 => by
    have ih0 := impl_PassBox.mono_l k
    · intro y0 y1 y2 y3 y4 y5 y6
      unfold impl_PassBox.j0
      repeat' first
      | (with_reducible exact ih0 _ _ _ _ _ _ _)
      | (with_reducible exact impl_IsBox.mono _ _ _ _ _)
      | (with_reducible exact impl_IsHello.mono _ _ _)
      | (with_reducible exact impl_keptExts_with_impl_PassBox_1.mono _ _ _ _ _ _)
      | (with_reducible exact impl_loses.mono _ _ _ _ _ _ _)
      | (with_reducible exact LeO.refl _)
      | (with_reducible exact LeO.none _)
      | (with_reducible refine LeO.ite ?_ ?_)
      | (with_reducible refine LeO.bind ?_ (fun _ => ?_))
      | exact ih0 _ _ _ _ _ _ _
      | exact impl_IsBox.mono _ _ _ _ _
      | exact impl_IsHello.mono _ _ _
      | exact impl_keptExts_with_impl_PassBox_1.mono _ _ _ _ _ _
      | exact impl_loses.mono _ _ _ _ _ _ _
      | exact LeO.none _
      | refine LeO.ite ?_ ?_
      | refine LeO.bind ?_ (fun _ => ?_)
theorem impl_PassBox.mono : ∀ a0 a1 a2 a3 a4 a5 k, LeO (impl_PassBox.f k a0 a1 a2 a3 a4 a5) (impl_PassBox.f (k + 1) a0 a1 a2 a3 a4 a5) := by
  intro a0 a1 a2 a3 a4 a5 k
  have ih0 := impl_PassBox.mono_l k
  unfold impl_PassBox.f
  repeat' first
      | (with_reducible exact ih0 _ _ _ _ _ _ _)
      | (with_reducible exact impl_IsBox.mono _ _ _ _ _)
      | (with_reducible exact impl_IsHello.mono _ _ _)
      | (with_reducible exact impl_keptExts_with_impl_PassBox_1.mono _ _ _ _ _ _)
      | (with_reducible exact impl_loses.mono _ _ _ _ _ _ _)
      | (with_reducible exact LeO.refl _)
      | (with_reducible exact LeO.none _)
      | (with_reducible refine LeO.ite ?_ ?_)
      | (with_reducible refine LeO.bind ?_ (fun _ => ?_))
      | exact ih0 _ _ _ _ _ _ _
      | exact impl_IsBox.mono _ _ _ _ _
      | exact impl_IsHello.mono _ _ _
      | exact impl_keptExts_with_impl_PassBox_1.mono _ _ _ _ _ _
      | exact impl_loses.mono _ _ _ _ _ _ _
      | exact LeO.none _
      | refine LeO.ite ?_ ?_
      | refine LeO.bind ?_ (fun _ => ?_)
def impl_PassBox.T3 : Bool × List (List Nat × List Nat) := (true, [([], []), ([0], [0]), ([1], [1]), ([], []), ([3], [3]), ([], []), ([4, 5, 2], [4, 5]), ([2, 6], [2, 6]), ([7, 6, 0, 1, 2, 3, 4, 5, 6, 7], [7]), ([8, 0, 1, 2, 3, 4, 5, 6, 7, 8], [])])
def impl_PassBox.B3 : List Nat := [0, 1, 3, 0, 8, 0, 63, 127, 255, 511]
theorem impl_PassBox.tab3 : rtab .any (opsOf Try.f86 3) = impl_PassBox.T3 := by kernel_rfl
theorem impl_PassBox.bits3 : waitsOk impl_PassBox.T3.2 impl_PassBox.B3 = true := by kernel_rfl
set_option maxHeartbeats 8000000 in
set_option maxRecDepth 100000 in
theorem impl_PassBox.calls (k : Nat) (a0_0 : Int) (A0_1 : Option Addr) (c0_1 : Nat) (l0_1 : List Int) (A0_2 : Option Addr) (c0_2 : Nat) (l0_2 : List Int) (a0_3 : Bool) (A1_0 : Option Addr) (c1_0 : Nat) (l1_0 : List Int) (A1_1 : Option Addr) (c1_1 : Nat) (l1_1 : List (S69)) (r1 : List Int) (r2 : List (S69)) (r3 : Bool) (w : World) (hr0_1 : Kd.C (Kd.int .i64) w A0_1 l0_1.length l0_1) (hc0_1 : l0_1.length ≤ c0_1) (hr0_2 : Kd.C (Kd.int .i64) w A0_2 l0_2.length l0_2) (hc0_2 : l0_2.length ≤ c0_2) (hr1_0 : Kd.C (Kd.int .i64) w A1_0 l1_0.length l1_0) (hc1_0 : l1_0.length ≤ c1_0) (hr1_1 : Kd.C k69 w A1_1 l1_1.length l1_1) (hc1_1 : l1_1.length ≤ c1_1) (h : impl_PassBox.f k a0_0 l0_1 l0_2 a0_3 l1_0 l1_1 = some (r1, r2, r3)) :
    Calls Try.prog 86 #[.agg #[.int .i64 a0_0, .slice A0_1 l0_1.length c0_1, .slice A0_2 l0_2.length c0_2, .bool a0_3], .agg #[.slice A1_0 l1_0.length c1_0, .slice A1_1 l1_1.length c1_1]] w fun e w' => ∃ v0_ v1_ : Value, e = .returned (.tuple #[.agg #[v0_, v1_], .bool r3]) ∧ Kd.R (Kd.int .i64) 3 w' w.heap.size (fun _ => True) v0_ r1 ∧ Kd.S k69 69 w' w.heap.size (fun k_ => some k_ ≠ (v0_ : Value).ownBlock) v1_ r2 ∧ Below w.heap.size w w' := by
  have hu50 := Try.underlying50
  have hu63 := Try.underlying63
  have HR0_1 := Aside0.mk hr0_1
  have HC0_1 := Aside0.mk hc0_1
  clear hr0_1 hc0_1
  have HR0_2 := Aside0.mk hr0_2
  have HC0_2 := Aside0.mk hc0_2
  clear hr0_2 hc0_2
  have HR1_0 := Aside0.mk hr1_0
  have HC1_0 := Aside0.mk hc1_0
  clear hr1_0 hc1_0
  have HR1_1 := Aside0.mk hr1_1
  have HC1_1 := Aside0.mk hc1_1
  clear hr1_1 hc1_1
  have HB := Aside0.mk (Below.refl w.heap.size w)
  have H : ((impl_IsBox.f k a0_0 l0_1 l0_2 a0_3).bind fun t421 => (if t421 = true then ((impl_IsHello.f k l1_0 l1_1).bind fun t422 => (if t422 = true then ((impl_loses.f k a0_0 l0_1 l0_2 a0_3 l1_0 l1_1).bind fun t423 => (impl_PassBox.j0 k t423 a0_0 l0_1 l0_2 a0_3 l1_0 l1_1)) else (impl_PassBox.j0 k true a0_0 l0_1 l0_2 a0_3 l1_0 l1_1))) else (impl_PassBox.j0 k true a0_0 l0_1 l0_2 a0_3 l1_0 l1_1))) = some (r1, r2, r3) := h
  clear h
  have HC3 := Aside0.mk H
  clear H
  go_enter Try.func86, Try.ntmps86
  go_upto_region 1 with (first | ((with_reducible refine gate_dst (N := 2) rfl ?_); refine box_event ?hg (N := 2) ?hd (cs := #[.int .i64 a0_0, .slice A0_1 l0_1.length c0_1, .slice A0_2 l0_2.length c0_2, .bool a0_3]) (t := 50) ?hr ?_; (case hd => rfl); (case hg => rfl); (case hr => first | (go_simp; done) | (go_simp; rfl)); intro gb418 hg w4 hbox hb; have n0_ := Aside0.mk (below_step (pb_ HB.out) hb); have n1_ := Aside0.mk (hbox); have n2_ := Aside0.mk ((by rw [hg]; exact (below_size (pb_ HB.out)) : w.heap.size ≤ gb418)); have n3_ := Aside0.mk ((by rw [hg]; exact (below_size (pb_ HB.out)) : w.heap.size ≤ gb418)); clear HB; have HB := n0_; have BK418 := n1_; have GW418 := n2_; have GE418 := n3_; clear n0_ n1_ n2_ n3_; clear hb hbox hg) | ((with_reducible refine gate_dst (N := 3) rfl ?_); refine box_event ?hg (N := 3) ?hd (cs := #[.slice A1_0 l1_0.length c1_0, .slice A1_1 l1_1.length c1_1]) (t := 63) ?hr ?_; (case hd => rfl); (case hg => rfl); (case hr => first | (go_simp; done) | (go_simp; rfl)); intro gb419 hg w5 hbox hb; have n0_ := Aside0.mk (bb_ BK418.out hb); have n1_ := Aside0.mk (below_step (pb1_ HB.out GE418.out) hb); have n2_ := Aside0.mk (hbox); have n3_ := Aside0.mk ((by rw [hg]; exact (below_size (pb1_ HB.out GE418.out)) : w.heap.size ≤ gb419)); have n4_ := Aside0.mk ((by rw [hg]; exact (below_size (pb1_ HB.out GE418.out)) : w.heap.size ≤ gb419)); have n5_ := Aside0.mk ((by rw [hg]; exact Nat.ne_of_lt (blk_lt (pk_ BK418.out)) : gb418 ≠ gb419)); have n6_ := Aside0.mk ((by rw [hg]; exact Nat.ne_of_gt (blk_lt (pk_ BK418.out)) : gb419 ≠ gb418)); clear BK418; clear HB; have BK418 := n0_; have HB := n1_; have BK419 := n2_; have GW419 := n3_; have GE419 := n4_; have NB418_419 := n5_; have NB419_418 := n6_; clear n0_ n1_ n2_ n3_ n4_ n5_ n6_; clear hb hbox hg) | ((with_reducible refine gate_dst (N := 4) rfl ?_); refine box_event ?hg (N := 4) ?hd (cs := #[.slice none 0 0, .slice none 0 0]) (t := 63) ?hr ?_; (case hd => rfl); (case hg => rfl); (case hr => first | (go_simp; done) | (go_simp; rfl)); intro gb420 hg w6 hbox hb; have n0_ := Aside0.mk (bb_ BK418.out hb); have n1_ := Aside0.mk (bb_ BK419.out hb); have n2_ := Aside0.mk (below_step (pb2_ HB.out GE418.out GE419.out) hb); have n3_ := Aside0.mk (hbox); have n4_ := Aside0.mk ((by rw [hg]; exact (below_size (pb2_ HB.out GE418.out GE419.out)) : w.heap.size ≤ gb420)); have n5_ := Aside0.mk ((by rw [hg]; exact (below_size (pb2_ HB.out GE418.out GE419.out)) : w.heap.size ≤ gb420)); have n6_ := Aside0.mk ((by rw [hg]; exact Nat.ne_of_lt (blk_lt (pk_ BK418.out)) : gb418 ≠ gb420)); have n7_ := Aside0.mk ((by rw [hg]; exact Nat.ne_of_gt (blk_lt (pk_ BK418.out)) : gb420 ≠ gb418)); have n8_ := Aside0.mk ((by rw [hg]; exact Nat.ne_of_lt (blk_lt (pk_ BK419.out)) : gb419 ≠ gb420)); have n9_ := Aside0.mk ((by rw [hg]; exact Nat.ne_of_gt (blk_lt (pk_ BK419.out)) : gb420 ≠ gb419)); clear BK418; clear BK419; clear HB; have BK418 := n0_; have BK419 := n1_; have HB := n2_; have BK420 := n3_; have GW420 := n4_; have GE420 := n5_; have NB418_420 := n6_; have NB420_418 := n7_; have NB419_420 := n8_; have NB420_419 := n9_; clear n0_ n1_ n2_ n3_ n4_ n5_ n6_ n7_ n8_ n9_; clear hb hbox hg))
  (try simp only [Act.put, List.setIfInBounds_toArray, List.set_cons_zero, List.set_cons_succ])
  go_cut [18] (fun v18 wc => ∃ (kq : Nat) (x18_2 : Bool), v18 = .bool x18_2 ∧ Aside0 (impl_PassBox.j0 kq x18_2 a0_0 l0_1 l0_2 a0_3 l1_0 l1_1 = some (r1, r2, r3)) ∧ Aside0 (kq ≤ k) ∧ Aside0 (wc.heap[gb418]? = some (.cells #[.int .i64 a0_0, (.slice A0_1 l0_1.length c0_1), (.slice A0_2 l0_2.length c0_2), .bool a0_3] 50 (0, 0))) ∧ Aside0 (wc.heap[gb419]? = some (.cells #[(.slice A1_0 l1_0.length c1_0), (.slice A1_1 l1_1.length c1_1)] 63 (0, 0))) ∧ Aside0 (wc.heap[gb420]? = some (.cells #[(.slice none 0 0), (.slice none 0 0)] 63 (0, 0))) ∧ Aside0 (Below w.heap.size w wc))
  case first =>
    have H := HC3.out
    clear HC3
    replace H := Option.bind_eq_some_iff.mp H
    obtain ⟨t421, A70, H⟩ := H
    (try dsimp only at H)
    have A7 := Aside0.mk A70
    clear A70
    by_cases c8 : t421 = true
    rotate_left
    · replace c8 := Bool.eq_false_iff.mpr c8
      subst c8
      rw [if_neg (show ¬ (false = true) by decide)] at H
      have H' := Aside0.mk H
      clear H
      have hnb9 := NB418_419.out
      have hnc9 := NB419_418.out
      have hnb10 := NB418_420.out
      have hnc10 := NB420_418.out
      obtain ⟨hcz11_0, hcz11_1, hcz11_2, hcz11_3, hfz11_0, hfz11_1, hfz11_2, hfz11_3⟩ := bc4_ BK418.out
      go_wp2_with (first | ((with_reducible refine gate_callee (f := 60) rfl ?_); refine goesL_ (some 7) rfl rfl Try.func60 (by kernel_rfl) rfl #[.agg #[.int .i64 a0_0, .slice A0_1 l0_1.length c0_1, .slice A0_2 l0_2.length c0_2, .bool a0_3]] rfl mp_ ?_; (with_reducible refine (impl_IsBox.calls k a0_0 _ _ l0_1 _ _ l0_2 a0_3 false _ ?side1 ?side2 ?side3 ?side4 A7.out).mono ?_); (case side1 => exact pc_ (Kd.C_below HR0_1.out HB.out)); (case side2 => exact HC0_1.out); (case side3 => exact pc_ (Kd.C_below HR0_2.out HB.out)); (case side4 => exact HC0_2.out); rintro e w12 ⟨rfl, hb⟩; refine ⟨_, rfl, ?_⟩; have n0_ := Aside0.mk (bb_ BK418.out hb); have n1_ := Aside0.mk (bb_ BK419.out hb); have n2_ := Aside0.mk (bb_ BK420.out hb); have n3_ := Aside0.mk (below_step (pb3_ HB.out GE418.out GE419.out GE420.out) hb); clear BK418; clear BK419; clear BK420; clear HB; have BK418 := n0_; have BK419 := n1_; have BK420 := n2_; have HB := n3_; clear n0_ n1_ n2_ n3_; (try clear hb); (try clear hb2); (try clear hk); (try clear hi)))
      go_meet
      case rel => exact ⟨_, (true), el_, H', ⟨by first | omega | exact Nat.le_refl _⟩, ⟨pk_ BK418.out⟩, ⟨pk_ BK419.out⟩, ⟨pk_ BK420.out⟩, ⟨pb3_ HB.out GE418.out GE419.out GE420.out⟩⟩
    subst c8
    rw [if_pos rfl] at H
    replace H := Option.bind_eq_some_iff.mp H
    obtain ⟨t422, A130, H⟩ := H
    (try dsimp only at H)
    have A13 := Aside0.mk A130
    clear A130
    by_cases c14 : t422 = true
    rotate_left
    · replace c14 := Bool.eq_false_iff.mpr c14
      subst c14
      rw [if_neg (show ¬ (false = true) by decide)] at H
      have H' := Aside0.mk H
      clear H
      have hnb15 := NB418_419.out
      have hnc15 := NB419_418.out
      have hnb16 := NB418_420.out
      have hnc16 := NB420_418.out
      obtain ⟨hcz17_0, hcz17_1, hcz17_2, hcz17_3, hfz17_0, hfz17_1, hfz17_2, hfz17_3⟩ := bc4_ BK418.out
      go_wp2_with (first | ((with_reducible refine gate_callee (f := 60) rfl ?_); refine goesL_ (some 7) rfl rfl Try.func60 (by kernel_rfl) rfl #[.agg #[.int .i64 a0_0, .slice A0_1 l0_1.length c0_1, .slice A0_2 l0_2.length c0_2, .bool a0_3]] rfl mp_ ?_; (with_reducible refine (impl_IsBox.calls k a0_0 _ _ l0_1 _ _ l0_2 a0_3 true _ ?side1 ?side2 ?side3 ?side4 A7.out).mono ?_); (case side1 => exact pc_ (Kd.C_below HR0_1.out HB.out)); (case side2 => exact HC0_1.out); (case side3 => exact pc_ (Kd.C_below HR0_2.out HB.out)); (case side4 => exact HC0_2.out); rintro e w18 ⟨rfl, hb⟩; refine ⟨_, rfl, ?_⟩; have n0_ := Aside0.mk (bb_ BK418.out hb); have n1_ := Aside0.mk (bb_ BK419.out hb); have n2_ := Aside0.mk (bb_ BK420.out hb); have n3_ := Aside0.mk (below_step (pb3_ HB.out GE418.out GE419.out GE420.out) hb); clear BK418; clear BK419; clear BK420; clear HB; have BK418 := n0_; have BK419 := n1_; have BK420 := n2_; have HB := n3_; clear n0_ n1_ n2_ n3_; (try clear hb); (try clear hb2); (try clear hk); (try clear hi); have hnb19 := NB419_420.out; have hnc19 := NB420_419.out; have hcz20_0 : w18.cell? ⟨gb419, 0, none⟩ = some (.slice A1_0 l1_0.length c1_0) := (blk_cell BK419.out 0).trans rfl; have hcz20_1 : w18.cell? ⟨gb419, 1, none⟩ = some (.slice A1_1 l1_1.length c1_1) := (blk_cell BK419.out 1).trans rfl; have hfz20_0 := blk_frozen BK419.out 0; have hfz20_1 := blk_frozen BK419.out 1) | (go_at_call 84; (with_reducible refine (impl_IsHello.calls k _ _ l1_0 _ _ l1_1 false _ ?side1 ?side2 ?side3 ?side4 A13.out).mono ?_); (case side1 => exact pc_ (Kd.C_below HR1_0.out HB.out)); (case side2 => exact HC1_0.out); (case side3 => exact pc_ (Kd.C_below HR1_1.out HB.out)); (case side4 => exact HC1_1.out); rintro e w21 ⟨rfl, hb⟩; have n0_ := Aside0.mk (bb_ BK418.out hb); have n1_ := Aside0.mk (bb_ BK419.out hb); have n2_ := Aside0.mk (bb_ BK420.out hb); have n3_ := Aside0.mk (below_step (pb3_ HB.out GE418.out GE419.out GE420.out) hb); clear BK418; clear BK419; clear BK420; clear HB; have BK418 := n0_; have BK419 := n1_; have BK420 := n2_; have HB := n3_; clear n0_ n1_ n2_ n3_; (try clear hb); (try clear hb2); (try clear hk); (try clear hi)))
      go_meet
      case rel => exact ⟨_, (true), el_, H', ⟨by first | omega | exact Nat.le_refl _⟩, ⟨pk_ BK418.out⟩, ⟨pk_ BK419.out⟩, ⟨pk_ BK420.out⟩, ⟨pb3_ HB.out GE418.out GE419.out GE420.out⟩⟩
    subst c14
    rw [if_pos rfl] at H
    replace H := Option.bind_eq_some_iff.mp H
    obtain ⟨t423, A220, H⟩ := H
    (try dsimp only at H)
    have A22 := Aside0.mk A220
    clear A220
    have H' := Aside0.mk H
    clear H
    have hnb23 := NB418_419.out
    have hnc23 := NB419_418.out
    have hnb24 := NB418_420.out
    have hnc24 := NB420_418.out
    obtain ⟨hcz25_0, hcz25_1, hcz25_2, hcz25_3, hfz25_0, hfz25_1, hfz25_2, hfz25_3⟩ := bc4_ BK418.out
    go_wp2_with (first | ((with_reducible refine gate_callee (f := 60) rfl ?_); refine goesL_ (some 7) rfl rfl Try.func60 (by kernel_rfl) rfl #[.agg #[.int .i64 a0_0, .slice A0_1 l0_1.length c0_1, .slice A0_2 l0_2.length c0_2, .bool a0_3]] rfl mp_ ?_; (with_reducible refine (impl_IsBox.calls k a0_0 _ _ l0_1 _ _ l0_2 a0_3 true _ ?side1 ?side2 ?side3 ?side4 A7.out).mono ?_); (case side1 => exact pc_ (Kd.C_below HR0_1.out HB.out)); (case side2 => exact HC0_1.out); (case side3 => exact pc_ (Kd.C_below HR0_2.out HB.out)); (case side4 => exact HC0_2.out); rintro e w26 ⟨rfl, hb⟩; refine ⟨_, rfl, ?_⟩; have n0_ := Aside0.mk (bb_ BK418.out hb); have n1_ := Aside0.mk (bb_ BK419.out hb); have n2_ := Aside0.mk (bb_ BK420.out hb); have n3_ := Aside0.mk (below_step (pb3_ HB.out GE418.out GE419.out GE420.out) hb); clear BK418; clear BK419; clear BK420; clear HB; have BK418 := n0_; have BK419 := n1_; have BK420 := n2_; have HB := n3_; clear n0_ n1_ n2_ n3_; (try clear hb); (try clear hb2); (try clear hk); (try clear hi); have hnb27 := NB419_420.out; have hnc27 := NB420_419.out; have hcz28_0 : w26.cell? ⟨gb419, 0, none⟩ = some (.slice A1_0 l1_0.length c1_0) := (blk_cell BK419.out 0).trans rfl; have hcz28_1 : w26.cell? ⟨gb419, 1, none⟩ = some (.slice A1_1 l1_1.length c1_1) := (blk_cell BK419.out 1).trans rfl; have hfz28_0 := blk_frozen BK419.out 0; have hfz28_1 := blk_frozen BK419.out 1) | (go_at_call 84; (with_reducible refine (impl_IsHello.calls k _ _ l1_0 _ _ l1_1 true _ ?side1 ?side2 ?side3 ?side4 A13.out).mono ?_); (case side1 => exact pc_ (Kd.C_below HR1_0.out HB.out)); (case side2 => exact HC1_0.out); (case side3 => exact pc_ (Kd.C_below HR1_1.out HB.out)); (case side4 => exact HC1_1.out); rintro e w29 ⟨rfl, hb⟩; have n0_ := Aside0.mk (bb_ BK418.out hb); have n1_ := Aside0.mk (bb_ BK419.out hb); have n2_ := Aside0.mk (bb_ BK420.out hb); have n3_ := Aside0.mk (below_step (pb3_ HB.out GE418.out GE419.out GE420.out) hb); clear BK418; clear BK419; clear BK420; clear HB; have BK418 := n0_; have BK419 := n1_; have BK420 := n2_; have HB := n3_; clear n0_ n1_ n2_ n3_; (try clear hb); (try clear hb2); (try clear hk); (try clear hi); have hcz30_0 : w29.cell? ⟨gb418, 0, none⟩ = some (.int .i64 a0_0) := (blk_cell BK418.out 0).trans rfl; have hcz30_1 : w29.cell? ⟨gb418, 1, none⟩ = some (.slice A0_1 l0_1.length c0_1) := (blk_cell BK418.out 1).trans rfl; have hcz30_2 : w29.cell? ⟨gb418, 2, none⟩ = some (.slice A0_2 l0_2.length c0_2) := (blk_cell BK418.out 2).trans rfl; have hcz30_3 : w29.cell? ⟨gb418, 3, none⟩ = some (.bool a0_3) := (blk_cell BK418.out 3).trans rfl; have hfz30_0 := blk_frozen BK418.out 0; have hfz30_1 := blk_frozen BK418.out 1; have hfz30_2 := blk_frozen BK418.out 2; have hfz30_3 := blk_frozen BK418.out 3; have hcz31_0 : w29.cell? ⟨gb419, 0, none⟩ = some (.slice A1_0 l1_0.length c1_0) := (blk_cell BK419.out 0).trans rfl; have hcz31_1 : w29.cell? ⟨gb419, 1, none⟩ = some (.slice A1_1 l1_1.length c1_1) := (blk_cell BK419.out 1).trans rfl; have hfz31_0 := blk_frozen BK419.out 0; have hfz31_1 := blk_frozen BK419.out 1) | (go_at_call 93; (with_reducible refine (impl_loses.calls k a0_0 _ _ l0_1 _ _ l0_2 a0_3 _ _ l1_0 _ _ l1_1 t423 _ ?side1 ?side2 ?side3 ?side4 ?side5 ?side6 ?side7 ?side8 A22.out).mono ?_); (case side1 => exact pc_ (Kd.C_below HR0_1.out HB.out)); (case side2 => exact HC0_1.out); (case side3 => exact pc_ (Kd.C_below HR0_2.out HB.out)); (case side4 => exact HC0_2.out); (case side5 => exact pc_ (Kd.C_below HR1_0.out HB.out)); (case side6 => exact HC1_0.out); (case side7 => exact pc_ (Kd.C_below HR1_1.out HB.out)); (case side8 => exact HC1_1.out); rintro e w32 ⟨rfl, hb⟩; have n0_ := Aside0.mk (bb_ BK418.out hb); have n1_ := Aside0.mk (bb_ BK419.out hb); have n2_ := Aside0.mk (bb_ BK420.out hb); have n3_ := Aside0.mk (below_step (pb3_ HB.out GE418.out GE419.out GE420.out) hb); clear BK418; clear BK419; clear BK420; clear HB; have BK418 := n0_; have BK419 := n1_; have BK420 := n2_; have HB := n3_; clear n0_ n1_ n2_ n3_; (try clear hb); (try clear hb2); (try clear hk); (try clear hi)))
    go_meet
    case rel => exact ⟨_, (t423), el_, H', ⟨by first | omega | exact Nat.le_refl _⟩, ⟨pk_ BK418.out⟩, ⟨pk_ BK419.out⟩, ⟨pk_ BK420.out⟩, ⟨pb3_ HB.out GE418.out GE419.out GE420.out⟩⟩
  clear HC3
  try clear c1
  try clear c2
  try clear p2
  try clear c6
  try clear c8
  try clear c9
  try clear c10
  try clear c14
  try clear c15
  try clear c16
  try clear c19
  try clear c23
  try clear c24
  try clear c27
  try clear hcz11_0
  try clear hcz11_1
  try clear hcz11_2
  try clear hcz11_3
  try clear hcz17_0
  try clear hcz17_1
  try clear hcz17_2
  try clear hcz17_3
  try clear hcz20_0
  try clear hcz20_1
  try clear hcz25_0
  try clear hcz25_1
  try clear hcz25_2
  try clear hcz25_3
  try clear hcz28_0
  try clear hcz28_1
  try clear hcz30_0
  try clear hcz30_1
  try clear hcz30_2
  try clear hcz30_3
  try clear hcz31_0
  try clear hcz31_1
  try clear hfz11_0
  try clear hfz11_1
  try clear hfz11_2
  try clear hfz11_3
  try clear hfz17_0
  try clear hfz17_1
  try clear hfz17_2
  try clear hfz17_3
  try clear hfz20_0
  try clear hfz20_1
  try clear hfz25_0
  try clear hfz25_1
  try clear hfz25_2
  try clear hfz25_3
  try clear hfz28_0
  try clear hfz28_1
  try clear hfz30_0
  try clear hfz30_1
  try clear hfz30_2
  try clear hfz30_3
  try clear hfz31_0
  try clear hfz31_1
  obtain ⟨kq, x18_2, rfl, HA, HJ2, BK418, BK419, BK420, HB⟩ := hcut
  rcases kq with _ | kj2
  · exact absurd HA.out (by simp [impl_PassBox.j0])
  have H := HA.out
  clear HA
  simp only [impl_PassBox.j0] at H
  by_cases c33 : x18_2 = true
  · subst c33
    rw [if_pos rfl] at H
    simp only [Option.some.injEq, Prod.mk.injEq] at H
    obtain ⟨rfl, rfl, rfl⟩ := H
    have hnb34 := NB420_418.out
    have hnc34 := NB418_420.out
    have hnb35 := NB420_419.out
    have hnc35 := NB419_420.out
    obtain ⟨hcz36_0, hcz36_1, hfz36_0, hfz36_1⟩ := bc2_ BK420.out
    go_wp2
    refine bodyPost_ret (results_ct rfl _ _ gb420 63 #[.slice none 0 0, .slice none 0 0] (0, 0) _ rfl (pp_ BK420.out) Try.underlying63 rfl (by kernel_rfl)) rfl ?_
    exact ⟨_, _, er_, by first | exact Kd.R_nil _ _ _ _ _ | exact Kd.N_nil _ _ _ _ _ | exact Kd.V_nil _ _ _ _ _ | exact Kd.Q_nil _ _ _ _ _ | exact Kd.S_nil _ _ _ _ _, by first | exact Kd.S_nil _ _ _ _ _ | exact Kd.N_nil _ _ _ _ _ | exact Kd.V_nil _ _ _ _ _ | exact Kd.Q_nil _ _ _ _ _ | exact Kd.R_nil _ _ _ _ _, pb3_ HB.out GE418.out GE419.out GE420.out⟩
  replace c33 := Bool.eq_false_iff.mpr c33
  subst c33
  rw [if_neg (show ¬ (false = true) by decide)] at H
  replace H := Option.bind_eq_some_iff.mp H
  obtain ⟨t424, A370, H⟩ := H
  (try dsimp only at H)
  have A37 := Aside0.mk A370
  clear A370
  replace H := Option.bind_eq_some_iff.mp H
  obtain ⟨t427, A380, H⟩ := H
  replace H : (some (t424, t427, true)) = some (r1, r2, r3) := H
  have A38 := Aside0.mk A380
  clear A380
  simp only [Option.some.injEq, Prod.mk.injEq] at H
  obtain ⟨rfl, rfl, rfl⟩ := H
  try go_wp2
  have n0_ := Aside0.mk (blk_drew BK418.out)
  have n1_ := Aside0.mk (blk_drew BK419.out)
  have n2_ := Aside0.mk (blk_drew BK420.out)
  have n3_ := Aside0.mk (below_drew1 HB.out)
  clear BK418
  clear BK419
  clear BK420
  clear HB
  have BK418 := n0_
  have BK419 := n1_
  have BK420 := n2_
  have HB := n3_
  clear n0_ n1_ n2_ n3_
  refine start_ (n := 10) (S := fun w' => w'.cell? ⟨gb419, 0, none⟩ = some (.slice A1_0 l1_0.length c1_0) ∧ w'.cell? ⟨gb419, 1, none⟩ = some (.slice A1_1 l1_1.length c1_1)) (ds := []) #[false, false, false, false, false, false, false, false, false, false] (by kernel_rfl) rfl rfl ⟨(blk_cell BK419.out 0).trans rfl, (blk_cell BK419.out 1).trans rfl⟩ (fun hHeld => ?_); refine with_tabW impl_PassBox.tab3 impl_PassBox.bits3 (fun HT_ HW_ => ?_)
  generalize wc.drew = w39 at BK418 BK419 BK420 HB hHeld ⊢
  refine pu_ 0 (some 20) (tf_ 1 10) HT_ ?_
  refine pu_ 3 (some 23) #[true, false, false, true, false, false, false, false, false, false] HT_ ?_
  refine pu_ 5 (some 25) #[true, false, false, true, false, true, false, false, false, false] HT_ ?_
  refine ta_ 1 (some 21) #[true, true, false, true, false, true, false, false, false, false] HT_ HW_ hHeld ?_
  refine ta_ 4 (some 24) #[true, true, false, true, true, true, false, false, false, false] HT_ HW_ hHeld ?_
  refine on_ 2 (some 22) (tf_ 6 10) HT_ (fun K hK => ?_)
  refine goes_ Try.func94 (by kernel_rfl) rfl #[.slice A1_0 l1_0.length c1_0] (by rfl) rfl rfl mp_ ?_
  with_reducible refine (slices_Clone_int_int.calls _ _ l1_0 t424 _ ?side1 ?side2 A37.out).mono ?_
  (case side1 => exact pc_ (Kd.C_below HR1_0.out HB.out))
  (case side2 => exact HC1_0.out)
  rintro e w40 ⟨v425, rfl, ho0, hb⟩
  refine ⟨_, rfl, ?_⟩
  have n0_ := Aside0.mk (Kd.R_lower ho0 (below_size (pb3_ HB.out GE418.out GE419.out GE420.out)))
  have n1_ := Aside0.mk (bb_ BK418.out hb)
  have n2_ := Aside0.mk (bb_ BK419.out hb)
  have n3_ := Aside0.mk (bb_ BK420.out hb)
  have n4_ := Aside0.mk (below_step (pb3_ HB.out GE418.out GE419.out GE420.out) hb)
  clear BK418
  clear BK419
  clear BK420
  clear HB
  have HO426 := n0_
  have BK418 := n1_
  have BK419 := n2_
  have BK420 := n3_
  have HB := n4_
  clear n0_ n1_ n2_ n3_ n4_
  (try clear hb)
  (try clear hb2)
  (try clear hk)
  (try clear hi)
  (try clear ho0)
  (try (obtain ⟨Ao_, co_, eo_⟩ := Kd.R_slice HO426.out; subst eo_))
  refine hK.out _ _ ⟨(blk_cell BK419.out 0).trans rfl, (blk_cell BK419.out 1).trans rfl⟩ (fun hHeld => ?_)
  clear hK K
  refine no_ (some 22) ?_
  refine on_ 6 (some 26) (tf_ 7 10) HT_ (fun K hK => ?_)
  refine goes_ Try.func95 (by kernel_rfl) rfl #[.slice A1_1 l1_1.length c1_1, .func (.func 96) #[] #[.pointer (some ⟨gb418, 0, none⟩)]] (by rfl) rfl rfl mp_ ?_
  with_reducible refine (impl_keptExts_with_impl_PassBox_1.calls kj2 _ _ l1_1 _ a0_0 A0_1 c0_1 l0_1 A0_2 c0_2 l0_2 a0_3 t427 _ ?side1 ?side2 ?side3 ?side4 ?side5 ?side6 ?side7 A38.out).mono ?_
  (case side1 => exact pc_ (Kd.C_below HR1_1.out HB.out))
  (case side2 => exact HC1_1.out)
  (case side3 => exact pc_ (Kd.C_below HR0_1.out HB.out))
  (case side4 => exact HC0_1.out)
  (case side5 => exact pc_ (Kd.C_below HR0_2.out HB.out))
  (case side6 => exact HC0_2.out)
  (case side7 => exact pk_ BK418.out)
  rintro e w41 ⟨v428, rfl, ho0, hb⟩
  refine ⟨_, rfl, ?_⟩
  have n0_ := Aside0.mk (Kd.R_below (pr_ HO426.out) hb)
  have n1_ := Aside0.mk (Kd.S_lower (Kd.S_new' ho0 (Kd.R_lt (pr_ HO426.out))) (below_size (pb3_ HB.out GE418.out GE419.out GE420.out)))
  have n2_ := Aside0.mk (bb_ BK418.out hb)
  have n3_ := Aside0.mk (bb_ BK419.out hb)
  have n4_ := Aside0.mk (bb_ BK420.out hb)
  have n5_ := Aside0.mk (below_step (pb3_ HB.out GE418.out GE419.out GE420.out) hb)
  clear HO426
  clear BK418
  clear BK419
  clear BK420
  clear HB
  have HO426 := n0_
  have HO429 := n1_
  have BK418 := n2_
  have BK419 := n3_
  have BK420 := n4_
  have HB := n5_
  clear n0_ n1_ n2_ n3_ n4_ n5_
  (try clear hb)
  (try clear hb2)
  (try clear hk)
  (try clear hi)
  (try clear ho0)
  obtain ⟨Ao42, co42, eo42⟩ := Kd.S_slice HO429.out
  (first | subst eo42 | (injection eo42 with f1_ f2_ f3_; have f4_ := f1_.symm; have f5_ := f3_.symm; clear f1_ f2_ f3_; subst f4_; subst f5_))
  obtain ⟨Ao43, co43, eo43⟩ := Kd.R_slice HO426.out
  (first | subst eo43 | (injection eo43 with f1_ f2_ f3_; have f4_ := f1_.symm; have f5_ := f3_.symm; clear f1_ f2_ f3_; subst f4_; subst f5_))
  refine hK.out _ _ ⟨(blk_cell BK419.out 0).trans rfl, (blk_cell BK419.out 1).trans rfl⟩ (fun hHeld => ?_)
  clear hK K
  refine no_ (some 26) ?_
  refine pu_ 7 (some 27) (tf_ 8 10) HT_ ?_
  refine on_ 8 (none) (tf_ 9 10) HT_ (fun K hK => ?_)
  have hs44 : w41.cell? ⟨gb420, 0, none⟩ = some (.slice none 0 0) := (blk_cell BK420.out 0).trans rfl
  have hfs44 := blk_frozen BK420.out 0
  have hns44_0 := NB418_420.out
  have hns44_1 := NB419_420.out
  have hms44_0 := NB420_418.out
  have hms44_1 := NB420_419.out
  have hs45 : w41.cell? ⟨gb420, 1, none⟩ = some (.slice none 0 0) := (blk_cell BK420.out 1).trans rfl
  have hfs45 := blk_frozen BK420.out 1
  have hns45_0 := NB418_420.out
  have hns45_1 := NB419_420.out
  have hms45_0 := NB420_418.out
  have hms45_1 := NB420_419.out
  refine skip_ (w1 := ?_) (by rfl) rfl ?_ ?_
  rotate_left
  · go_simp
    rfl
  refine hK.out _ _ ⟨((cell_far (p := ⟨gb420, _, none⟩) NB419_420.out _).trans (((cell_far (p := ⟨gb420, _, none⟩) NB419_420.out _).trans (hHeld.1)))), ((cell_far (p := ⟨gb420, _, none⟩) NB419_420.out _).trans (((cell_far (p := ⟨gb420, _, none⟩) NB419_420.out _).trans (hHeld.2))))⟩ (fun hHeld => ?_)
  clear hK K
  refine pu_ 9 (some 5) (tf_ 10 10) HT_ ?_
  refine done_ (done_of HT_.out (by kernel_rfl)) ?_
  try go_wp2
  refine bodyPost_ret (results_ct rfl _ _ gb420 63 #[.slice Ao43 t424.length co43, .slice Ao42 t427.length co42] (0, 0) _ rfl (pp_ BK420.out) Try.underlying63 rfl (by kernel_rfl)) rfl ?_
  exact ⟨_, _, er_, pr_ (Kd.R_mono (rf2_ HO426.out BK420.out) (fun _ hk => trivial)), ps_ (Kd.S_mono (Kd.S_far (p := ⟨gb420, 1, none⟩) (Kd.S_far (p := ⟨gb420, 0, none⟩) (Kd.S_types HO429.out BK420.out (by decide)) (fun _ hk => hk.2) (.slice Ao43 t424.length co43)) (fun _ hk => hk.2) (.slice Ao42 t427.length co42)) (fun _ hk => hk.1.2)), pb3_ HB.out GE418.out GE419.out GE420.out⟩

/-! ### impl_PassPath: function 64 -/
mutual
def impl_PassPath.j0 : Nat → List (S50) → Bool → List Int → List (S69) → Option (List Int × (List (S69)) × Bool)
  | 0, _, _, _, _ => none
  | k + 1, x0, x16, x431000, x431001 => if x16 = true then (some (([] : List Int), ([] : List (S69)), false)) else ((impl_copyHello.f k x431000 x431001).bind fun bt433 => (impl_PassPath.l0 k x0 true 0 bt433.1 bt433.2))
def impl_PassPath.l0 : Nat → List (S50) → Bool → Int → List Int → List (S69) → Option (List Int × (List (S69)) × Bool)
  | 0, _, _, _, _, _ => none
  | k + 1, x0, x7, x8, x440000, x440001 => if x8 < (x0.length : Int) then (if x7 = true then (if 0 ≤ x8 then ((impl_PassBox.f k ((rd_T50 x0 x8).f0) ((rd_T50 x0 x8).f1) ((rd_T50 x0 x8).f2) ((rd_T50 x0 x8).f3) x440000 x440001).bind fun bt441 => (impl_PassPath.l0 k x0 bt441.2.2 (wrap64 (x8 + 1)) bt441.1 bt441.2.1)) else (none)) else (some (x440000, x440001, x7))) else (some (x440000, x440001, x7))
end
def impl_PassPath.f (k : Nat) (l0 : List (S50)) (l1_0 : List Int) (l1_1 : List (S69)) : Option (List Int × (List (S69)) × Bool) := (impl_IsHello.f k l1_0 l1_1).bind fun t432 => (if t432 = true then (impl_PassPath.j0 k l0 (decide ((l0.length : Int) > 4)) l1_0 l1_1) else (impl_PassPath.j0 k l0 true l1_0 l1_1))
theorem impl_PassPath.mono_l : ∀ k, (∀ y0 y1 y2 y3, LeO (impl_PassPath.j0 k y0 y1 y2 y3) (impl_PassPath.j0 (k + 1) y0 y1 y2 y3)) ∧ (∀ y0 y1 y2 y3 y4, LeO (impl_PassPath.l0 k y0 y1 y2 y3 y4) (impl_PassPath.l0 (k + 1) y0 y1 y2 y3 y4))
  | 0 => ⟨fun _ _ _ _ r h => by simp [impl_PassPath.j0] at h, fun _ _ _ _ _ r h => by simp [impl_PassPath.l0] at h⟩
  | k + 1 => by
    obtain ⟨ih0, ih1⟩ := impl_PassPath.mono_l k
    refine ⟨?_, ?_⟩
    · intro y0 y1 y2 y3
      unfold impl_PassPath.j0
      repeat' first
      | (with_reducible exact ih0 _ _ _ _)
      | (with_reducible exact ih1 _ _ _ _ _)
      | (with_reducible exact impl_IsHello.mono _ _ _)
      | (with_reducible exact impl_PassBox.mono _ _ _ _ _ _ _)
      | (with_reducible exact impl_copyHello.mono _ _ _)
      | (with_reducible exact LeO.refl _)
      | (with_reducible exact LeO.none _)
      | (with_reducible refine LeO.ite ?_ ?_)
      | (with_reducible refine LeO.bind ?_ (fun _ => ?_))
      | exact ih0 _ _ _ _
      | exact ih1 _ _ _ _ _
      | exact impl_IsHello.mono _ _ _
      | exact impl_PassBox.mono _ _ _ _ _ _ _
      | exact impl_copyHello.mono _ _ _
      | exact LeO.none _
      | refine LeO.ite ?_ ?_
      | refine LeO.bind ?_ (fun _ => ?_)
    · intro y0 y1 y2 y3 y4
      unfold impl_PassPath.l0
      repeat' first
      | (with_reducible exact ih0 _ _ _ _)
      | (with_reducible exact ih1 _ _ _ _ _)
      | (with_reducible exact impl_IsHello.mono _ _ _)
      | (with_reducible exact impl_PassBox.mono _ _ _ _ _ _ _)
      | (with_reducible exact impl_copyHello.mono _ _ _)
      | (with_reducible exact LeO.refl _)
      | (with_reducible exact LeO.none _)
      | (with_reducible refine LeO.ite ?_ ?_)
      | (with_reducible refine LeO.bind ?_ (fun _ => ?_))
      | exact ih0 _ _ _ _
      | exact ih1 _ _ _ _ _
      | exact impl_IsHello.mono _ _ _
      | exact impl_PassBox.mono _ _ _ _ _ _ _
      | exact impl_copyHello.mono _ _ _
      | exact LeO.none _
      | refine LeO.ite ?_ ?_
      | refine LeO.bind ?_ (fun _ => ?_)
theorem impl_PassPath.mono : ∀ a0 a1 a2 k, LeO (impl_PassPath.f k a0 a1 a2) (impl_PassPath.f (k + 1) a0 a1 a2) := by
  intro a0 a1 a2 k
  obtain ⟨ih0, ih1⟩ := impl_PassPath.mono_l k
  unfold impl_PassPath.f
  repeat' first
      | (with_reducible exact ih0 _ _ _ _)
      | (with_reducible exact ih1 _ _ _ _ _)
      | (with_reducible exact impl_IsHello.mono _ _ _)
      | (with_reducible exact impl_PassBox.mono _ _ _ _ _ _ _)
      | (with_reducible exact impl_copyHello.mono _ _ _)
      | (with_reducible exact LeO.refl _)
      | (with_reducible exact LeO.none _)
      | (with_reducible refine LeO.ite ?_ ?_)
      | (with_reducible refine LeO.bind ?_ (fun _ => ?_))
      | exact ih0 _ _ _ _
      | exact ih1 _ _ _ _ _
      | exact impl_IsHello.mono _ _ _
      | exact impl_PassBox.mono _ _ _ _ _ _ _
      | exact impl_copyHello.mono _ _ _
      | exact LeO.none _
      | refine LeO.ite ?_ ?_
      | refine LeO.bind ?_ (fun _ => ?_)
def impl_PassPath.T7 : Bool × List (List Nat × List Nat) := (true, [([], []), ([], []), ([0, 1], [0, 1]), ([2], [2]), ([], []), ([3, 4], [3, 4]), ([5], [5]), ([6], [6]), ([6], [6]), ([7, 5, 0, 1, 2, 3, 4, 5, 6, 7], [7]), ([8, 9, 0, 1, 2, 3, 4, 5, 6, 7, 8, 9], [8])])
def impl_PassPath.B7 : List Nat := [0, 0, 3, 7, 0, 31, 63, 127, 127, 255, 1023]
theorem impl_PassPath.tab7 : rtab .any (opsOf Try.f64 7) = impl_PassPath.T7 := by kernel_rfl
theorem impl_PassPath.bits7 : waitsOk impl_PassPath.T7.2 impl_PassPath.B7 = true := by kernel_rfl
set_option maxHeartbeats 8000000 in
set_option maxRecDepth 100000 in
theorem impl_PassPath.calls (k : Nat) (A0 : Option Addr) (c0 : Nat) (l0 : List (S50)) (A1_0 : Option Addr) (c1_0 : Nat) (l1_0 : List Int) (A1_1 : Option Addr) (c1_1 : Nat) (l1_1 : List (S69)) (r1 : List Int) (r2 : List (S69)) (r3 : Bool) (w : World) (hr0 : Kd.C k50 w A0 l0.length l0) (hc0 : l0.length ≤ c0) (hr1_0 : Kd.C (Kd.int .i64) w A1_0 l1_0.length l1_0) (hc1_0 : l1_0.length ≤ c1_0) (hr1_1 : Kd.C k69 w A1_1 l1_1.length l1_1) (hc1_1 : l1_1.length ≤ c1_1) (h : impl_PassPath.f k l0 l1_0 l1_1 = some (r1, r2, r3)) :
    Calls Try.prog 64 #[.slice A0 l0.length c0, .agg #[.slice A1_0 l1_0.length c1_0, .slice A1_1 l1_1.length c1_1]] w fun e w' => ∃ v0_ v1_ : Value, e = .returned (.tuple #[.agg #[v0_, v1_], .bool r3]) ∧ Kd.R (Kd.int .i64) 3 w' w.heap.size (fun _ => True) v0_ r1 ∧ Kd.S k69 69 w' w.heap.size (fun k_ => some k_ ≠ (v0_ : Value).ownBlock) v1_ r2 ∧ Below w.heap.size w w' := by
  have hu63 := Try.underlying63
  have hu50 := Try.underlying50
  have HR0 := Aside0.mk hr0
  have HC0 := Aside0.mk hc0
  clear hr0 hc0
  have HR1_0 := Aside0.mk hr1_0
  have HC1_0 := Aside0.mk hc1_0
  clear hr1_0 hc1_0
  have HR1_1 := Aside0.mk hr1_1
  have HC1_1 := Aside0.mk hc1_1
  clear hr1_1 hc1_1
  have HB := Aside0.mk (Below.refl w.heap.size w)
  have H : ((impl_IsHello.f k l1_0 l1_1).bind fun t432 => (if t432 = true then (impl_PassPath.j0 k l0 (decide ((l0.length : Int) > 4)) l1_0 l1_1) else (impl_PassPath.j0 k l0 true l1_0 l1_1))) = some (r1, r2, r3) := h
  clear h
  have HC3 := Aside0.mk H
  clear H
  go_enter Try.func64, Try.ntmps64
  go_upto_region 1 with (first | ((with_reducible refine gate_dst (N := 3) rfl ?_); (try (refine gate_guard (by rfl) ?_; dsimp only)); refine box_event ?hg (N := 3) ?hd (cs := #[.slice A1_0 l1_0.length c1_0, .slice A1_1 l1_1.length c1_1]) (t := 63) ?hr ?_; (case hd => rfl); (case hg => rfl); (case hr => first | (go_simp; done) | (go_simp; rfl)); intro gb430 hg w4 hbox hb; have n0_ := Aside0.mk (below_step (pb_ HB.out) hb); have n1_ := Aside0.mk (hbox); have n2_ := Aside0.mk ((by rw [hg]; exact (below_size (pb_ HB.out)) : w.heap.size ≤ gb430)); have n3_ := Aside0.mk ((by rw [hg]; exact (below_size (pb_ HB.out)) : w.heap.size ≤ gb430)); clear HB; have HB := n0_; have BK430 := n1_; have GW430 := n2_; have GE430 := n3_; clear n0_ n1_ n2_ n3_; clear hb hbox hg) | ((with_reducible refine gate_dst (N := 4) rfl ?_); (try (refine gate_guard (by rfl) ?_; dsimp only)); refine box_event ?hg (N := 4) ?hd (cs := #[.slice none 0 0, .slice none 0 0]) (t := 63) ?hr ?_; (case hd => rfl); (case hg => rfl); (case hr => first | (go_simp; done) | (go_simp; rfl)); intro gb431 hg w5 hbox hb; have n0_ := Aside0.mk (bb_ BK430.out hb); have n1_ := Aside0.mk (below_step (pb1_ HB.out GE430.out) hb); have n2_ := Aside0.mk (hbox); have n3_ := Aside0.mk ((by rw [hg]; exact (below_size (pb1_ HB.out GE430.out)) : w.heap.size ≤ gb431)); have n4_ := Aside0.mk ((by rw [hg]; exact (below_size (pb1_ HB.out GE430.out)) : w.heap.size ≤ gb431)); have n5_ := Aside0.mk ((by rw [hg]; exact Nat.ne_of_lt (blk_lt (pk_ BK430.out)) : gb430 ≠ gb431)); have n6_ := Aside0.mk ((by rw [hg]; exact Nat.ne_of_gt (blk_lt (pk_ BK430.out)) : gb431 ≠ gb430)); clear BK430; clear HB; have BK430 := n0_; have HB := n1_; have BK431 := n2_; have GW431 := n3_; have GE431 := n4_; have NB430_431 := n5_; have NB431_430 := n6_; clear n0_ n1_ n2_ n3_ n4_ n5_ n6_; clear hb hbox hg))
  (try simp only [Act.put, List.setIfInBounds_toArray, List.set_cons_zero, List.set_cons_succ])
  go_cut [16] (fun v16 wc => ∃ (kq : Nat) (x16_2 : Bool), v16 = .bool x16_2 ∧ Aside0 (impl_PassPath.j0 kq l0 x16_2 l1_0 l1_1 = some (r1, r2, r3)) ∧ Aside0 (kq ≤ k) ∧ Aside0 (wc.heap[gb430]? = some (.cells #[(.slice A1_0 l1_0.length c1_0), (.slice A1_1 l1_1.length c1_1)] 63 (0, 0))) ∧ Aside0 (wc.heap[gb431]? = some (.cells #[(.slice none 0 0), (.slice none 0 0)] 63 (0, 0))) ∧ Aside0 (Below w.heap.size w wc))
  case first =>
    have H := HC3.out
    clear HC3
    replace H := Option.bind_eq_some_iff.mp H
    obtain ⟨t432, A60, H⟩ := H
    (try dsimp only at H)
    have A6 := Aside0.mk A60
    clear A60
    by_cases c7 : t432 = true
    rotate_left
    · replace c7 := Bool.eq_false_iff.mpr c7
      subst c7
      rw [if_neg (show ¬ (false = true) by decide)] at H
      have H' := Aside0.mk H
      clear H
      have hnb8 := NB430_431.out
      have hnc8 := NB431_430.out
      obtain ⟨hcz9_0, hcz9_1, hfz9_0, hfz9_1⟩ := bc2_ BK430.out
      go_wp2_with (first | ((with_reducible refine gate_callee (f := 84) rfl ?_); refine goesL_ (some 10) rfl rfl Try.func84 (by kernel_rfl) rfl #[.agg #[.slice A1_0 l1_0.length c1_0, .slice A1_1 l1_1.length c1_1]] rfl mp_ ?_; (with_reducible refine (impl_IsHello.calls k _ _ l1_0 _ _ l1_1 false _ ?side1 ?side2 ?side3 ?side4 A6.out).mono ?_); (case side1 => exact pc_ (Kd.C_below HR1_0.out HB.out)); (case side2 => exact HC1_0.out); (case side3 => exact pc_ (Kd.C_below HR1_1.out HB.out)); (case side4 => exact HC1_1.out); rintro e w10 ⟨rfl, hb⟩; refine ⟨_, rfl, ?_⟩; have n0_ := Aside0.mk (bb_ BK430.out hb); have n1_ := Aside0.mk (bb_ BK431.out hb); have n2_ := Aside0.mk (below_step (pb2_ HB.out GE430.out GE431.out) hb); clear BK430; clear BK431; clear HB; have BK430 := n0_; have BK431 := n1_; have HB := n2_; clear n0_ n1_ n2_; (try clear hb); (try clear hb2); (try clear hk); (try clear hi)))
      go_meet
      case rel => exact ⟨_, (true), el_, H', ⟨by first | omega | exact Nat.le_refl _⟩, ⟨pk_ BK430.out⟩, ⟨pk_ BK431.out⟩, ⟨pb2_ HB.out GE430.out GE431.out⟩⟩
    subst c7
    rw [if_pos rfl] at H
    have H' := Aside0.mk H
    clear H
    have hnb11 := NB430_431.out
    have hnc11 := NB431_430.out
    obtain ⟨hcz12_0, hcz12_1, hfz12_0, hfz12_1⟩ := bc2_ BK430.out
    go_wp2_with (first | ((with_reducible refine gate_callee (f := 84) rfl ?_); refine goesL_ (some 10) rfl rfl Try.func84 (by kernel_rfl) rfl #[.agg #[.slice A1_0 l1_0.length c1_0, .slice A1_1 l1_1.length c1_1]] rfl mp_ ?_; (with_reducible refine (impl_IsHello.calls k _ _ l1_0 _ _ l1_1 true _ ?side1 ?side2 ?side3 ?side4 A6.out).mono ?_); (case side1 => exact pc_ (Kd.C_below HR1_0.out HB.out)); (case side2 => exact HC1_0.out); (case side3 => exact pc_ (Kd.C_below HR1_1.out HB.out)); (case side4 => exact HC1_1.out); rintro e w13 ⟨rfl, hb⟩; refine ⟨_, rfl, ?_⟩; have n0_ := Aside0.mk (bb_ BK430.out hb); have n1_ := Aside0.mk (bb_ BK431.out hb); have n2_ := Aside0.mk (below_step (pb2_ HB.out GE430.out GE431.out) hb); clear BK430; clear BK431; clear HB; have BK430 := n0_; have BK431 := n1_; have HB := n2_; clear n0_ n1_ n2_; (try clear hb); (try clear hb2); (try clear hk); (try clear hi)))
    go_meet
    case rel => exact ⟨_, (decide ((l0.length : Int) > 4)), el_, H', ⟨by first | omega | exact Nat.le_refl _⟩, ⟨pk_ BK430.out⟩, ⟨pk_ BK431.out⟩, ⟨pb2_ HB.out GE430.out GE431.out⟩⟩
  clear HC3
  try clear c1
  try clear p2
  try clear c6
  try clear c7
  try clear c8
  try clear c11
  try clear hcz12_0
  try clear hcz12_1
  try clear hcz9_0
  try clear hcz9_1
  try clear hfz12_0
  try clear hfz12_1
  try clear hfz9_0
  try clear hfz9_1
  obtain ⟨kq, x16_2, rfl, HA, HJ2, BK430, BK431, HB⟩ := hcut
  rcases kq with _ | kj2
  · exact absurd HA.out (by simp [impl_PassPath.j0])
  have H := HA.out
  clear HA
  simp only [impl_PassPath.j0] at H
  by_cases c14 : x16_2 = true
  · subst c14
    rw [if_pos rfl] at H
    simp only [Option.some.injEq, Prod.mk.injEq] at H
    obtain ⟨rfl, rfl, rfl⟩ := H
    have hnb15 := NB431_430.out
    have hnc15 := NB430_431.out
    obtain ⟨hcz16_0, hcz16_1, hfz16_0, hfz16_1⟩ := bc2_ BK431.out
    go_wp2
    refine bodyPost_ret (results_ct rfl _ _ gb431 63 #[.slice none 0 0, .slice none 0 0] (0, 0) _ rfl (pp_ BK431.out) Try.underlying63 rfl (by kernel_rfl)) rfl ?_
    exact ⟨_, _, er_, by first | exact Kd.R_nil _ _ _ _ _ | exact Kd.N_nil _ _ _ _ _ | exact Kd.V_nil _ _ _ _ _ | exact Kd.Q_nil _ _ _ _ _ | exact Kd.S_nil _ _ _ _ _, by first | exact Kd.S_nil _ _ _ _ _ | exact Kd.N_nil _ _ _ _ _ | exact Kd.V_nil _ _ _ _ _ | exact Kd.Q_nil _ _ _ _ _ | exact Kd.R_nil _ _ _ _ _, pb2_ HB.out GE430.out GE431.out⟩
  replace c14 := Bool.eq_false_iff.mpr c14
  subst c14
  rw [if_neg (show ¬ (false = true) by decide)] at H
  replace H := Option.bind_eq_some_iff.mp H
  obtain ⟨⟨t433, t436⟩, A170, H⟩ := H
  replace H : (impl_PassPath.l0 kj2 l0 true 0 t433 t436) = some (r1, r2, r3) := H
  have A17 := Aside0.mk A170
  clear A170
  have H' := Aside0.mk H
  clear H
  have hnb18 := NB430_431.out
  have hnc18 := NB431_430.out
  obtain ⟨hcz19_0, hcz19_1, hfz19_0, hfz19_1⟩ := bc2_ BK430.out
  go_wp2_with (first | ((with_reducible refine gate_callee (f := 85) rfl ?_); refine goesL_ (some 19) rfl rfl Try.func85 (by kernel_rfl) rfl #[.agg #[.slice A1_0 l1_0.length c1_0, .slice A1_1 l1_1.length c1_1]] rfl mp_ ?_; (with_reducible refine (impl_copyHello.calls kj2 _ _ l1_0 _ _ l1_1 t433 t436 _ ?side1 ?side2 ?side3 ?side4 A17.out).mono ?_); (case side1 => exact pc_ (Kd.C_below HR1_0.out HB.out)); (case side2 => exact HC1_0.out); (case side3 => exact pc_ (Kd.C_below HR1_1.out HB.out)); (case side4 => exact HC1_1.out); rintro e w20 ⟨v434, v437, rfl, ho0, ho1, hb⟩; refine ⟨_, rfl, ?_⟩; have n0_ := Aside0.mk (Kd.R_lower ho0 (below_size (pb2_ HB.out GE430.out GE431.out))); have n1_ := Aside0.mk (Kd.S_lower ho1 (below_size (pb2_ HB.out GE430.out GE431.out))); have n2_ := Aside0.mk (bb_ BK430.out hb); have n3_ := Aside0.mk (bb_ BK431.out hb); have n4_ := Aside0.mk (below_step (pb2_ HB.out GE430.out GE431.out) hb); clear BK430; clear BK431; clear HB; have HO435 := n0_; have HO438 := n1_; have BK430 := n2_; have BK431 := n3_; have HB := n4_; clear n0_ n1_ n2_ n3_ n4_; (try clear hb); (try clear hb2); (try clear hk); (try clear hi); (try clear ho0); (try clear ho1)) | ((with_reducible refine gate_dst (N := 6) rfl ?_); (try (refine gate_guard (by rfl) ?_; dsimp only)); refine box_event ?hg (N := 6) ?hd (cs := #[.slice none 0 0, .slice none 0 0]) (t := 63) ?hr ?_; (case hd => rfl); (case hg => rfl); (case hr => first | (go_simp; done) | (go_simp; rfl)); intro gb439 hg w21 hbox hb; have n0_ := Aside0.mk (Kd.R_below (pr_ HO435.out) hb); have n1_ := Aside0.mk (Kd.S_below (ps_ HO438.out) hb); have n2_ := Aside0.mk (bb_ BK430.out hb); have n3_ := Aside0.mk (bb_ BK431.out hb); have n4_ := Aside0.mk (below_step (pb2_ HB.out GE430.out GE431.out) hb); have n5_ := Aside0.mk (hbox); have n6_ := Aside0.mk ((by rw [hg]; exact (below_size (pb2_ HB.out GE430.out GE431.out)) : w.heap.size ≤ gb439)); have n7_ := Aside0.mk ((by rw [hg]; exact (below_size (pb2_ HB.out GE430.out GE431.out)) : w.heap.size ≤ gb439)); have n8_ := Aside0.mk ((by rw [hg]; exact Nat.ne_of_lt (blk_lt (pk_ BK430.out)) : gb430 ≠ gb439)); have n9_ := Aside0.mk ((by rw [hg]; exact Nat.ne_of_gt (blk_lt (pk_ BK430.out)) : gb439 ≠ gb430)); have n10_ := Aside0.mk ((by rw [hg]; exact Nat.ne_of_lt (blk_lt (pk_ BK431.out)) : gb431 ≠ gb439)); have n11_ := Aside0.mk ((by rw [hg]; exact Nat.ne_of_gt (blk_lt (pk_ BK431.out)) : gb439 ≠ gb431)); clear HO435; clear HO438; clear BK430; clear BK431; clear HB; have HO435 := n0_; have HO438 := n1_; have BK430 := n2_; have BK431 := n3_; have HB := n4_; have BK439 := n5_; have GW439 := n6_; have GE439 := n7_; have NB430_439 := n8_; have NB439_430 := n9_; have NB431_439 := n10_; have NB439_431 := n11_; clear n0_ n1_ n2_ n3_ n4_ n5_ n6_ n7_ n8_ n9_ n10_ n11_; clear hb hbox hg; obtain ⟨Ao22, co22, eo22⟩ := Kd.R_slice HO435.out; subst eo22; have hnb23 := NB439_430.out; have hnc23 := NB430_439.out; have hnb24 := NB439_431.out; have hnc24 := NB431_439.out; have hcz25_0 : w21.cell? ⟨gb439, 0, none⟩ = some (.slice none 0 0) := (blk_cell BK439.out 0).trans rfl; have hcz25_1 : w21.cell? ⟨gb439, 1, none⟩ = some (.slice none 0 0) := (blk_cell BK439.out 1).trans rfl; have hfz25_0 := blk_frozen BK439.out 0; have hfz25_1 := blk_frozen BK439.out 1; obtain ⟨Ao26, co26, eo26⟩ := Kd.S_slice HO438.out; subst eo26))
  (try simp only [Act.put, List.setIfInBounds_toArray, List.set_cons_zero, List.set_cons_succ])
  go_loopg [7, 8] kj2 (fun kq v7 v8 w' => ∃ (x7_2 : Bool) (x8_2 : Int) (x440000_2 : List Int) (x440001_2 : List (S69)) (u440000 : Value) (u440001 : Value), v7 = .bool x7_2 ∧ v8 = .int .i64 x8_2 ∧ Aside0 (impl_PassPath.l0 kq l0 x7_2 x8_2 x440000_2 x440001_2 = some (r1, r2, r3)) ∧ Aside0 (kq ≤ kj2) ∧ Aside0 (Kd.R (Kd.int .i64) 3 w' w.heap.size (fun _ => True) u440000 x440000_2) ∧ Aside0 (Kd.S k69 69 w' w.heap.size (fun k_ => some k_ ≠ (u440000 : Value).ownBlock) u440001 x440001_2) ∧ Aside0 (w'.heap[gb430]? = some (.cells #[(.slice A1_0 l1_0.length c1_0), (.slice A1_1 l1_1.length c1_1)] 63 (0, 0))) ∧ Aside0 (w'.heap[gb431]? = some (.cells #[(.slice none 0 0), (.slice none 0 0)] 63 (0, 0))) ∧ Aside0 (w'.heap[gb439]? = some (.cells #[u440000, u440001] 63 (0, 0))) ∧ Aside0 (Below w.heap.size w w'))
  case atStart => exact ⟨(true), (0), (t433), (t436), (.slice Ao22 t433.length co22), (.slice Ao26 t436.length co26), el_, el_, H', ⟨Nat.le_refl _⟩, ⟨pr_ (Kd.R_mono (rf2_ HO435.out BK439.out) (fun _ hk => trivial))⟩, ⟨ps_ (Kd.S_mono (Kd.S_far (p := ⟨gb439, 1, none⟩) (Kd.S_far (p := ⟨gb439, 0, none⟩) (Kd.S_types HO438.out BK439.out (by decide)) (fun _ hk => hk.2) (.slice Ao22 t433.length co22)) (fun _ hk => hk.2) (.slice Ao26 t436.length co26)) (fun _ hk => hk.1))⟩, ⟨pp_ BK430.out⟩, ⟨pp_ BK431.out⟩, ⟨pp_ BK439.out⟩, ⟨pb3_ HB.out GE430.out GE431.out GE439.out⟩⟩
  clear H'
  try clear c1
  try clear c2
  try clear p2
  try clear c6
  try clear c7
  try clear c8
  try clear c11
  try clear c14
  try clear c15
  try clear c18
  try clear c23
  try clear c24
  try clear hcz12_0
  try clear hcz12_1
  try clear hcz16_0
  try clear hcz16_1
  try clear hcz19_0
  try clear hcz19_1
  try clear hcz25_0
  try clear hcz25_1
  try clear hcz9_0
  try clear hcz9_1
  try clear hfz12_0
  try clear hfz12_1
  try clear hfz16_0
  try clear hfz16_1
  try clear hfz19_0
  try clear hfz19_1
  try clear hfz25_0
  try clear hfz25_1
  try clear hfz9_0
  try clear hfz9_1
  try clear p2
  obtain ⟨x7_2, x8_2, x440000_2, x440001_2, u440000, u440001, rfl, rfl, HA, HK2, HO_440000, HO_440001, BK430, BK431, BK439, HB⟩ := hrel
  rcases gk with _ | k2
  · exact absurd HA.out (by simp [impl_PassPath.l0])
  have H := HA.out
  clear HA
  simp only [impl_PassPath.l0] at H
  by_cases c27 : x8_2 < (l0.length : Int)
  rotate_left
  · rw [if_neg c27] at H
    have c27b0 : decide (x8_2 < (l0.length : Int)) = false := decide_eq_false c27
    clear c27
    simp only [Option.some.injEq, Prod.mk.injEq] at H
    obtain ⟨rfl, rfl, rfl⟩ := H
    have hnb28 := NB439_430.out
    have hnc28 := NB430_439.out
    have hnb29 := NB439_431.out
    have hnc29 := NB431_439.out
    obtain ⟨hcz30_0, hcz30_1, hfz30_0, hfz30_1⟩ := bc2_ BK439.out
    obtain ⟨Ao31, co31, eo31⟩ := Kd.R_slice HO_440000.out
    subst eo31
    have hnb32 := NB431_430.out
    have hnc32 := NB430_431.out
    obtain ⟨hcz33_0, hcz33_1, hfz33_0, hfz33_1⟩ := bc2_ BK431.out
    obtain ⟨Ao34, co34, eo34⟩ := Kd.S_slice HO_440001.out
    subst eo34
    go_wp2
    refine bodyPost_ret (results_ct rfl _ _ gb431 63 #[.slice Ao31 x440000_2.length co31, .slice Ao34 x440001_2.length co34] (0, 0) _ rfl (pp_ BK431.out) Try.underlying63 rfl (by kernel_rfl)) rfl ?_
    exact ⟨_, _, er_, pr_ (Kd.R_mono (rf2_ HO_440000.out BK431.out) (fun _ hk => trivial)), ps_ (Kd.S_mono (Kd.S_far (p := ⟨gb431, 1, none⟩) (Kd.S_far (p := ⟨gb431, 0, none⟩) (Kd.S_types HO_440001.out BK431.out (by decide)) (fun _ hk => hk.2) (.slice Ao31 x440000_2.length co31)) (fun _ hk => hk.2) (.slice Ao34 x440001_2.length co34)) (fun _ hk => hk.1)), pb3_ HB.out GE430.out GE431.out GE439.out⟩
  rw [if_pos c27] at H
  have c27b0 : decide (x8_2 < (l0.length : Int)) = true := decide_eq_true c27
  clear c27
  by_cases c35 : x7_2 = true
  rotate_left
  · replace c35 := Bool.eq_false_iff.mpr c35
    subst c35
    rw [if_neg (show ¬ (false = true) by decide)] at H
    simp only [Option.some.injEq, Prod.mk.injEq] at H
    obtain ⟨rfl, rfl, rfl⟩ := H
    have hnb36 := NB439_430.out
    have hnc36 := NB430_439.out
    have hnb37 := NB439_431.out
    have hnc37 := NB431_439.out
    obtain ⟨hcz38_0, hcz38_1, hfz38_0, hfz38_1⟩ := bc2_ BK439.out
    obtain ⟨Ao39, co39, eo39⟩ := Kd.R_slice HO_440000.out
    subst eo39
    have hnb40 := NB431_430.out
    have hnc40 := NB430_431.out
    obtain ⟨hcz41_0, hcz41_1, hfz41_0, hfz41_1⟩ := bc2_ BK431.out
    obtain ⟨Ao42, co42, eo42⟩ := Kd.S_slice HO_440001.out
    subst eo42
    go_wp2
    refine bodyPost_ret (results_ct rfl _ _ gb431 63 #[.slice Ao39 x440000_2.length co39, .slice Ao42 x440001_2.length co42] (0, 0) _ rfl (pp_ BK431.out) Try.underlying63 rfl (by kernel_rfl)) rfl ?_
    exact ⟨_, _, er_, pr_ (Kd.R_mono (rf2_ HO_440000.out BK431.out) (fun _ hk => trivial)), ps_ (Kd.S_mono (Kd.S_far (p := ⟨gb431, 1, none⟩) (Kd.S_far (p := ⟨gb431, 0, none⟩) (Kd.S_types HO_440001.out BK431.out (by decide)) (fun _ hk => hk.2) (.slice Ao39 x440000_2.length co39)) (fun _ hk => hk.2) (.slice Ao42 x440001_2.length co42)) (fun _ hk => hk.1)), pb3_ HB.out GE430.out GE431.out GE439.out⟩
  subst c35
  rw [if_pos rfl] at H
  by_cases c43 : 0 ≤ x8_2
  rotate_left
  · rw [if_neg c43] at H
    exact absurd H (by simp)
  rw [if_pos c43] at H
  have c43b0 : decide (0 ≤ x8_2) = true := decide_eq_true c43
  clear c43
  replace H := Option.bind_eq_some_iff.mp H
  obtain ⟨⟨t441, t444, t447⟩, A440, H⟩ := H
  (try dsimp only at H)
  have A44 := Aside0.mk A440
  clear A440
  have H' := Aside0.mk H
  clear H
  try go_wp2
  have n0_ := Aside0.mk (Kd.R_drew HO_440000.out)
  have n1_ := Aside0.mk (Kd.S_drew HO_440001.out)
  have n2_ := Aside0.mk (blk_drew BK430.out)
  have n3_ := Aside0.mk (blk_drew BK431.out)
  have n4_ := Aside0.mk (blk_drew BK439.out)
  have n5_ := Aside0.mk (below_drew1 HB.out)
  clear HO_440000
  clear HO_440001
  clear BK430
  clear BK431
  clear BK439
  clear HB
  have HO_440000 := n0_
  have HO_440001 := n1_
  have BK430 := n2_
  have BK431 := n3_
  have BK439 := n4_
  have HB := n5_
  clear n0_ n1_ n2_ n3_ n4_ n5_
  have p440 : 0 ≤ (x8_2 : Int) := dt_
  have q440 : x8_2 < (l0.length : Int) := dt_
  obtain ⟨ad440, A440_1, c440_1, A440_2, c440_2, e440, hx440_0, hx440_1, hx440_2, hx440_3, hl440_1, hi440_1, hl440_2, hi440_2⟩ := at_T50 HR0.out x8_2 p440 q440
  have hw440_3 := hx440_3
  have hw440_2 := hx440_2
  have hw440_1 := hx440_1
  have hw440_0 := hx440_0
  cases e440
  replace hx440_0 := (HB.out.cell (World.block_lt_of_cell? w _ hx440_0)).trans hx440_0
  replace hx440_1 := (HB.out.cell (World.block_lt_of_cell? w _ hx440_1)).trans hx440_1
  replace hx440_2 := (HB.out.cell (World.block_lt_of_cell? w _ hx440_2)).trans hx440_2
  replace hx440_3 := (HB.out.cell (World.block_lt_of_cell? w _ hx440_3)).trans hx440_3
  have HR440_1 := Aside0.mk hi440_1
  have HC440_1 := Aside0.mk hl440_1
  clear hi440_1 hl440_1
  have HR440_2 := Aside0.mk hi440_2
  have HC440_2 := Aside0.mk hl440_2
  clear hi440_2 hl440_2
  replace p440 := eq_true p440
  replace q440 := eq_true q440
  obtain ⟨Ao46, co46, eo46⟩ := Kd.R_slice HO_440000.out
  (first | subst eo46 | (injection eo46 with f1_ f2_ f3_; have f4_ := f1_.symm; have f5_ := f3_.symm; clear f1_ f2_ f3_; subst f4_; subst f5_))
  obtain ⟨Ao47, co47, eo47⟩ := Kd.S_slice HO_440001.out
  (first | subst eo47 | (injection eo47 with f1_ f2_ f3_; have f4_ := f1_.symm; have f5_ := f3_.symm; clear f1_ f2_ f3_; subst f4_; subst f5_))
  refine start_ (n := 11) (S := fun w' => w'.cell? ⟨gb439, 0, none⟩ = some (.slice Ao46 x440000_2.length co46) ∧ w'.cell? ⟨gb439, 1, none⟩ = some (.slice Ao47 x440001_2.length co47) ∧ w'.cell? (ad440.add ((x8_2).toNat * 4)) = some (.int .i64 ((rd_T50 l0 x8_2).f0)) ∧ w'.cell? ⟨(ad440.add ((x8_2).toNat * 4)).block, (ad440.add ((x8_2).toNat * 4)).off + 1, none⟩ = some (.slice A440_1 ((rd_T50 l0 x8_2).f1).length c440_1) ∧ w'.cell? ⟨(ad440.add ((x8_2).toNat * 4)).block, (ad440.add ((x8_2).toNat * 4)).off + 2, none⟩ = some (.slice A440_2 ((rd_T50 l0 x8_2).f2).length c440_2) ∧ w'.cell? ⟨(ad440.add ((x8_2).toNat * 4)).block, (ad440.add ((x8_2).toNat * 4)).off + 3, none⟩ = some (.bool ((rd_T50 l0 x8_2).f3))) (ds := [9]) #[false, false, false, false, false, false, false, false, false, false, false] (by kernel_rfl) rfl rfl ⟨(blk_cell BK439.out 0).trans rfl, (blk_cell BK439.out 1).trans rfl, ((HB.out.cell (World.block_lt_of_cell? w _ hw440_0)).trans hw440_0), ((HB.out.cell (World.block_lt_of_cell? w _ hw440_1)).trans hw440_1), ((HB.out.cell (World.block_lt_of_cell? w _ hw440_2)).trans hw440_2), ((HB.out.cell (World.block_lt_of_cell? w _ hw440_3)).trans hw440_3)⟩ (fun hHeld => ?_); refine with_tabW impl_PassPath.tab7 impl_PassPath.bits7 (fun HT_ HW_ => ?_)
  generalize wr.drew = w45 at HO_440000 HO_440001 BK430 BK431 BK439 HB HR440_1 HR440_2 hx440_0 hx440_1 hx440_2 hx440_3 hHeld ⊢
  refine pu_ 0 (some 30) (tf_ 1 11) HT_ ?_
  refine pu_ 1 (some 31) (tf_ 2 11) HT_ ?_
  refine pu_ 2 (some 32) (tf_ 3 11) HT_ ?_
  refine ta_ 3 (some 33) (tf_ 4 11) HT_ HW_ hHeld ?_
  refine ta_ 4 (some 34) (tf_ 5 11) HT_ HW_ hHeld ?_
  refine on_ 5 (some 35) (tf_ 6 11) HT_ (fun K hK => ?_)
  refine goes_ Try.func86 (by kernel_rfl) rfl #[.agg #[.int .i64 ((rd_T50 l0 x8_2).f0), .slice A440_1 ((rd_T50 l0 x8_2).f1).length c440_1, .slice A440_2 ((rd_T50 l0 x8_2).f2).length c440_2, .bool ((rd_T50 l0 x8_2).f3)], .agg #[.slice Ao46 x440000_2.length co46, .slice Ao47 x440001_2.length co47]] (by rfl) rfl rfl mp_ ?_
  with_reducible refine (impl_PassBox.calls k2 ((rd_T50 l0 x8_2).f0) _ _ ((rd_T50 l0 x8_2).f1) _ _ ((rd_T50 l0 x8_2).f2) ((rd_T50 l0 x8_2).f3) _ _ x440000_2 _ _ x440001_2 t441 t444 t447 _ ?side1 ?side2 ?side3 ?side4 ?side5 ?side6 ?side7 ?side8 A44.out).mono ?_
  (case side1 => exact pc_ (Kd.C_below HR440_1.out HB.out))
  (case side2 => exact HC440_1.out)
  (case side3 => exact pc_ (Kd.C_below HR440_2.out HB.out))
  (case side4 => exact HC440_2.out)
  (case side5 => exact pc_ ((Kd.R_reads' HO_440000.out).2.2))
  (case side6 => exact (Kd.R_reads' HO_440000.out).2.1)
  (case side7 => exact pc_ ((Kd.S_reads' HO_440001.out).2.2))
  (case side8 => exact (Kd.S_reads' HO_440001.out).2.1)
  rintro e w48 ⟨v442, v445, rfl, ho0, ho1, hb⟩
  refine ⟨_, rfl, ?_⟩
  have n0_ := Aside0.mk (Kd.R_elder' (pr_ HO_440000.out) (Kd.R_base ho0) hb)
  have n1_ := Aside0.mk (Kd.S_mono (Kd.S_told (Kd.S_told (Kd.S_old (ps_ HO_440001.out) hb) (Kd.R_base ho0)) (Kd.S_base ho1)) (fun _ h_ => h_.1))
  have n2_ := Aside0.mk (Kd.R_lower (Kd.R_new' ho0 (Kd.R_lt (pr_ HO_440000.out))) (below_size (pb3_ HB.out GE430.out GE431.out GE439.out)))
  have n3_ := Aside0.mk (Kd.S_lower (Kd.S_new' (Kd.S_new' ho1 (Kd.R_lt (pr_ HO_440000.out))) (Kd.S_lt (ps_ HO_440001.out))) (below_size (pb3_ HB.out GE430.out GE431.out GE439.out)))
  have n4_ := Aside0.mk (bb_ BK430.out hb)
  have n5_ := Aside0.mk (bb_ BK431.out hb)
  have n6_ := Aside0.mk (bb_ BK439.out hb)
  have n7_ := Aside0.mk (below_step (pb3_ HB.out GE430.out GE431.out GE439.out) hb)
  clear HO_440000
  clear HO_440001
  clear BK430
  clear BK431
  clear BK439
  clear HB
  have HO_440000 := n0_
  have HO_440001 := n1_
  have HO443 := n2_
  have HO446 := n3_
  have BK430 := n4_
  have BK431 := n5_
  have BK439 := n6_
  have HB := n7_
  clear n0_ n1_ n2_ n3_ n4_ n5_ n6_ n7_
  (try clear hb)
  (try clear hb2)
  (try clear hk)
  (try clear hi)
  (try clear ho0)
  (try clear ho1)
  obtain ⟨Ao49, co49, eo49⟩ := Kd.R_slice HO443.out
  (first | subst eo49 | (injection eo49 with f1_ f2_ f3_; have f4_ := f1_.symm; have f5_ := f3_.symm; clear f1_ f2_ f3_; subst f4_; subst f5_))
  obtain ⟨Ao51, co51, eo51⟩ := Kd.S_slice HO446.out
  (first | subst eo51 | (injection eo51 with f1_ f2_ f3_; have f4_ := f1_.symm; have f5_ := f3_.symm; clear f1_ f2_ f3_; subst f4_; subst f5_))
  refine hK.out _ _ ⟨(blk_cell BK439.out 0).trans rfl, (blk_cell BK439.out 1).trans rfl, ((HB.out.cell (World.block_lt_of_cell? w _ hw440_0)).trans hw440_0), ((HB.out.cell (World.block_lt_of_cell? w _ hw440_1)).trans hw440_1), ((HB.out.cell (World.block_lt_of_cell? w _ hw440_2)).trans hw440_2), ((HB.out.cell (World.block_lt_of_cell? w _ hw440_3)).trans hw440_3)⟩ (fun hHeld => ?_)
  clear hK K
  refine no_ (some 35) ?_
  refine pu_ 6 (some 29) (tf_ 7 11) HT_ ?_
  refine pu_ 7 (some 36) (tf_ 8 11) HT_ ?_
  refine pu_ 8 (some 37) (tf_ 9 11) HT_ ?_
  refine last_ (i := 9) (N := none) #[true, true, true, true, true, true, true, true, true, true, false] rfl rfl (one_of HT_.out (by kernel_rfl)) (by decide) (fun K hK => ?_)
  have hs50 : w48.cell? ⟨gb439, 0, none⟩ = some (.slice Ao46 x440000_2.length co46) := (blk_cell BK439.out 0).trans rfl
  have hfs50 := blk_frozen BK439.out 0
  have hns50_0 := NB430_439.out
  have hns50_1 := NB431_439.out
  have hms50_0 := NB439_430.out
  have hms50_1 := NB439_431.out
  have hs52 : w48.cell? ⟨gb439, 1, none⟩ = some (.slice Ao47 x440001_2.length co47) := (blk_cell BK439.out 1).trans rfl
  have hfs52 := blk_frozen BK439.out 1
  have hns52_0 := NB430_439.out
  have hns52_1 := NB431_439.out
  have hms52_0 := NB439_430.out
  have hms52_1 := NB439_431.out
  refine skip_ (w1 := ?_) (by rfl) rfl ?_ ?_
  rotate_left
  · go_simp
    rfl
  refine hK.out _ _ ?_
  clear hK K
  refine pu_ 10 (some 7) (tf_ 11 11) HT_ ?_
  refine done_ (done_of HT_.out (by kernel_rfl)) ?_
  try go_wp2
  go_roundg k2
  case measure => have := HJ2.out; have := HK2.out; omega
  case rel => exact ⟨(t447), (wrap64 (x8_2 + 1)), (t441), (t444), (.slice Ao49 t441.length co49), (.slice Ao51 t444.length co51), el_, el_, H', ⟨by have := HJ2.out; have := HK2.out; omega⟩, ⟨pr_ (Kd.R_mono (rf2_ HO443.out BK439.out) (fun _ hk => trivial))⟩, ⟨ps_ (Kd.S_mono (Kd.S_far (p := ⟨gb439, 1, none⟩) (Kd.S_far (p := ⟨gb439, 0, none⟩) (Kd.S_types HO446.out BK439.out (by decide)) (fun _ hk => hk.2) (.slice Ao49 t441.length co49)) (fun _ hk => hk.2) (.slice Ao51 t444.length co51)) (fun _ hk => hk.1.1.1))⟩, ⟨pp_ BK430.out⟩, ⟨pp_ BK431.out⟩, ⟨pp_ BK439.out⟩, ⟨pb3_ HB.out GE430.out GE431.out GE439.out⟩⟩

/-! ### impl_PlainHello: function 65 -/
def impl_PlainHello.f (l0 : List Int) : Option (List Int × (List (S69))) := (some (([] : List Int) : List Int)).bind fun y449 => (if y449.length + l0.length < 17592186044416 then (some ((y449 ++ l0), ([] : List (S69)))) else (none))
set_option maxHeartbeats 8000000 in
set_option maxRecDepth 100000 in
theorem impl_PlainHello.calls (A0 : Option Addr) (c0 : Nat) (l0 : List Int) (r1 : List Int) (r2 : List (S69)) (w : World) (hr0 : Kd.C (Kd.int .i64) w A0 l0.length l0) (hc0 : l0.length ≤ c0) (h : impl_PlainHello.f l0 = some (r1, r2)) :
    Calls Try.prog 65 #[.slice A0 l0.length c0] w fun e w' => ∃ v0_ v1_ : Value, e = .returned (.agg #[v0_, v1_]) ∧ Kd.R (Kd.int .i64) 3 w' w.heap.size (fun _ => True) v0_ r1 ∧ Kd.S k69 69 w' w.heap.size (fun k_ => some k_ ≠ (v0_ : Value).ownBlock) v1_ r2 ∧ Below w.heap.size w w' := by
  have hu63 := Try.underlying63
  have HR0 := Aside0.mk hr0
  have HC0 := Aside0.mk hc0
  clear hr0 hc0
  have HB := Aside0.mk (Below.refl w.heap.size w)
  have H : ((some (([] : List Int) : List Int)).bind fun y449 => (if y449.length + l0.length < 17592186044416 then (some ((y449 ++ l0), ([] : List (S69)))) else (none))) = some (r1, r2) := h
  clear h
  obtain ⟨y449, hy449⟩ : ∃ y_ : List Int, y_ = (([] : List Int)) := ⟨_, rfl⟩
  replace H : (if y449.length + l0.length < 17592186044416 then (some ((y449 ++ l0), ([] : List (S69)))) else (none)) = some (r1, r2) := by first | (rw [hy449]; with_reducible exact H) | (have H2_ := (Option.bind_some _ _).symm.trans H; rw [hy449]; with_reducible exact H2_) | (have H2_ := (Option.bind_some _ _).symm.trans H; with_reducible exact H2_) | with_reducible exact H | (rw [hy449]; exact H) | exact H
  have Ny449 := Aside0.mk hy449
  clear hy449
  by_cases c2 : y449.length + l0.length < 17592186044416
  rotate_left
  · rw [if_neg c2] at H
    exact absurd H (by simp)
  rw [if_pos c2] at H
  have LMc2 := Aside0.mk c2
  clear c2
  obtain ⟨y452, hy452⟩ : ∃ y_ : List Int, y_ = (y449 ++ l0) := ⟨_, rfl⟩
  replace H : (some (y452, ([] : List (S69)))) = some (r1, r2) := by first | (rw [hy452]; with_reducible exact H) | (have H2_ := (Option.bind_some _ _).symm.trans H; rw [hy452]; with_reducible exact H2_) | (have H2_ := (Option.bind_some _ _).symm.trans H; with_reducible exact H2_) | with_reducible exact H | (rw [hy452]; exact H) | exact H
  have Ny452 := Aside0.mk hy452
  clear hy452
  simp only [Option.some.injEq, Prod.mk.injEq] at H
  obtain ⟨rfl, rfl⟩ := H
  go_enter Try.func65, Try.ntmps65
  go_wp2_with (first | ((with_reducible refine gate_dst (N := 2) rfl ?_); refine box_event ?hg (N := 2) ?hd (cs := #[.slice none 0 0, .slice none 0 0]) (t := 63) ?hr ?_; (case hd => rfl); (case hg => rfl); (case hr => first | (go_simp; done) | (go_simp; rfl)); intro gb448 hg w3 hbox hb; have n0_ := Aside0.mk (below_step (pb_ HB.out) hb); have n1_ := Aside0.mk (hbox); have n2_ := Aside0.mk ((by rw [hg]; exact (below_size (pb_ HB.out)) : w.heap.size ≤ gb448)); have n3_ := Aside0.mk ((by rw [hg]; exact (below_size (pb_ HB.out)) : w.heap.size ≤ gb448)); clear HB; have HB := n0_; have BK448 := n1_; have GW448 := n2_; have GE448 := n3_; clear n0_ n1_ n2_ n3_; clear hb hbox hg) | ((with_reducible refine gate_dst (N := 3) rfl ?_); refine Kd.R_lit (Kd.int .i64) _ 3 ?hg (N := 3) ?hd (xs := ([] : List Int)) (inner := []) (ok := fun _ => True) (okp := fun _ => True) ?hr ?hp (fun _ hk => hk) trivial (Below.refl _ _) (Nat.le_refl _) (by simp) ?_; (case hd => rfl); (case hg => rfl); (case hr => first | (go_simp; done) | (go_simp; rfl)); (case hp => exact (Reps.none _ _)); intro v450 w4 ho5 hb hg_ hnew_; clear hg_ hnew_; (first | rw [← Ny449.out] at ho5 | (simp only [Int.reduceToNat] at ho5; rw [← Ny449.out] at ho5)); have n0_ := Aside0.mk (Kd.R_lower ho5 (below_size (pb1_ HB.out GE448.out))); have n1_ := Aside0.mk (bb_ BK448.out hb); have n2_ := Aside0.mk (below_step (pb1_ HB.out GE448.out) hb); clear BK448; clear HB; have HO451 := n0_; have BK448 := n1_; have HB := n2_; clear n0_ n1_ n2_; clear hb ho5) | ((with_reducible refine gate_builtin (b := .append) (xs := #[.tmp 3, .tmp 4]) rfl ?_); at_builtin; refine Kd.R_append_rows (Kd.int .i64) (w0 := w) w.heap.size rfl (.tmp 3) (.tmp 4) 23 3 (.int .i64 0) 8 rfl Try.underlying23 info3 rfl (by decide) (by omega) v450 y449 l0 _ _ _ (fun _ => True) (fun _ => False) rfl rfl ?aO ?aR (fun _ _ h => h) (fun _ h => h.elim) ?aF ?aB ?aS ?aL ?_; (case aR => exact pc_ (Kd.C_below HR0.out HB.out)); (case aB => exact (pb1_ HB.out GE448.out)); (case aF => exact (fun _ _ => trivial)); (case aO => exact (pr_ HO451.out)); (case aS => exact (below_size (pb1_ HB.out GE448.out))); (case aL => have := LMc2.out; omega); intro v453 w6 ho hb hg hat; rw [← Ny452.out] at ho; have n0_ := Aside0.mk (blk_grown (g := gb448) (o := .cells #[.slice none 0 0, .slice none 0 0] 63 (0, 0)) (pk_ BK448.out) hg (Kd.R_ne HO451.out BK448.out (by decide))); have n1_ := Aside0.mk (hb); have n2_ := Aside0.mk (ho); clear BK448; clear HB; clear HO451; have BK448 := n0_; have HB := n1_; have HO454 := n2_; clear n0_ n1_ n2_; clear ho hb hg hat; obtain ⟨Ao7, co7, eo7⟩ := Kd.R_slice HO454.out; subst eo7; have hcz8_0 : w6.cell? ⟨gb448, 0, none⟩ = some (.slice none 0 0) := (blk_cell BK448.out 0).trans rfl; have hcz8_1 : w6.cell? ⟨gb448, 1, none⟩ = some (.slice none 0 0) := (blk_cell BK448.out 1).trans rfl; have hfz8_0 := blk_frozen BK448.out 0; have hfz8_1 := blk_frozen BK448.out 1))
  refine bodyPost_ret (results_cell_row rfl _ _ gb448 63 #[.slice Ao7 y452.length co7, .slice none 0 0] (0, 0) _ rfl (pp_ BK448.out) Try.underlying63 rfl (by kernel_rfl)) rfl ?_
  exact ⟨_, _, er_, pr_ (Kd.R_mono (rf2_ HO454.out BK448.out) (fun _ hk => trivial)), by first | exact Kd.S_nil _ _ _ _ _ | exact Kd.N_nil _ _ _ _ _ | exact Kd.V_nil _ _ _ _ _ | exact Kd.Q_nil _ _ _ _ _ | exact Kd.R_nil _ _ _ _ _, pb1_ HB.out GE448.out⟩

/-! ### impl_IsOpenPath: function 72 -/
def impl_IsOpenPath.f (k : Nat) (l0 : List (S50)) (l1 : List Int) : Option (Bool) := (impl_AreVersions.f k l1).bind fun t455 => (if t455 = true then (if 1 ≤ (l1.length : Int) then ((impl_PlainHello.f (l1.take 1)).bind fun bt457 => ((impl_PassPath.f k l0 bt457.1 bt457.2).bind fun bt463 => (some bt463.2.2))) else (none)) else (some false))
theorem impl_IsOpenPath.mono : ∀ a0 a1 k, LeO (impl_IsOpenPath.f k a0 a1) (impl_IsOpenPath.f (k + 1) a0 a1) := by
  intro a0 a1 k
  unfold impl_IsOpenPath.f
  repeat' first
      | (with_reducible exact impl_AreVersions.mono _ _)
      | (with_reducible exact impl_PassPath.mono _ _ _ _)
      | (with_reducible exact LeO.refl _)
      | (with_reducible exact LeO.none _)
      | (with_reducible refine LeO.ite ?_ ?_)
      | (with_reducible refine LeO.bind ?_ (fun _ => ?_))
      | exact impl_AreVersions.mono _ _
      | exact impl_PassPath.mono _ _ _ _
      | exact LeO.none _
      | refine LeO.ite ?_ ?_
      | refine LeO.bind ?_ (fun _ => ?_)
set_option maxHeartbeats 8000000 in
set_option maxRecDepth 100000 in
theorem impl_IsOpenPath.calls (k : Nat) (A0 : Option Addr) (c0 : Nat) (l0 : List (S50)) (A1 : Option Addr) (c1 : Nat) (l1 : List Int) (r : Bool) (w : World) (hr0 : Kd.C k50 w A0 l0.length l0) (hc0 : l0.length ≤ c0) (hr1 : Kd.C (Kd.int .i64) w A1 l1.length l1) (hc1 : l1.length ≤ c1) (h : impl_IsOpenPath.f k l0 l1 = some r) :
    Calls Try.prog 72 #[.slice A0 l0.length c0, .slice A1 l1.length c1] w fun e w' => e = .returned (.bool r) ∧ Below w.heap.size w w' := by
  have hu63 := Try.underlying63
  have HR0 := Aside0.mk hr0
  have HC0 := Aside0.mk hc0
  clear hr0 hc0
  have HR1 := Aside0.mk hr1
  have HC1 := Aside0.mk hc1
  clear hr1 hc1
  have HB := Aside0.mk (Below.refl w.heap.size w)
  have H : ((impl_AreVersions.f k l1).bind fun t455 => (if t455 = true then (if 1 ≤ (l1.length : Int) then ((impl_PlainHello.f (l1.take 1)).bind fun bt457 => ((impl_PassPath.f k l0 bt457.1 bt457.2).bind fun bt463 => (some bt463.2.2))) else (none)) else (some false))) = some r := h
  clear h
  replace H := Option.bind_eq_some_iff.mp H
  obtain ⟨t455, A30, H⟩ := H
  (try dsimp only at H)
  have A3 := Aside0.mk A30
  clear A30
  have HS_ := Aside0.mk H
  clear H
  go_enter Try.func72, Try.ntmps72
  go_upto_if 9 with (first | ((with_reducible refine gate_callee (f := 55) rfl ?_); refine goesL_ (some 8) rfl rfl Try.func55 (by kernel_rfl) rfl #[.slice A1 l1.length c1] rfl mp_ ?_; (with_reducible refine (impl_AreVersions.calls k _ _ l1 t455 _ ?side1 ?side2 A3.out).mono ?_); (case side1 => exact pc_ HR1.out); (case side2 => exact HC1.out); rintro e w' ⟨rfl, ⟨nd, rfl⟩⟩; refine ⟨_, rfl, ?_⟩))
  (try simp only [Act.put, List.setIfInBounds_toArray, List.set_cons_zero, List.set_cons_succ])
  have H := HS_.out
  clear HS_
  by_cases c4 : t455 = true
  rotate_left
  · replace c4 := Bool.eq_false_iff.mpr c4
    subst c4
    rw [if_neg (show ¬ (false = true) by decide)] at H
    obtain rfl := Option.some.inj H
    go_wp2
    go_ret
    exact ⟨er_, pb_ HB.out⟩
  subst c4
  rw [if_pos rfl] at H
  by_cases c5 : 1 ≤ (l1.length : Int)
  rotate_left
  · rw [if_neg c5] at H
    exact absurd H (by simp)
  rw [if_pos c5] at H
  have c5b0 := eq_true c5
  have c5b1 : decide (1 ≤ (l1.length : Int)) = true := decide_eq_true c5
  clear c5
  replace H := Option.bind_eq_some_iff.mp H
  obtain ⟨⟨t457, t460⟩, A60, H⟩ := H
  (try dsimp only at H)
  have A6 := Aside0.mk A60
  clear A60
  replace H := Option.bind_eq_some_iff.mp H
  obtain ⟨⟨t463, t466, t469⟩, A70, H⟩ := H
  replace H : (some t469) = some r := H
  have A7 := Aside0.mk A70
  clear A70
  obtain rfl := Option.some.inj H
  obtain ⟨i08, hi08, _, hsz8, _⟩ := info_parts info3
  obtain ⟨hcut8, hA8, hC8⟩ := print_take_of (P := Try.prog) (Value.int .i64) 0 23 3 .i64 Try.underlying23 hi08 hsz8 A1 c1 l1 1 (by omega) dt_ HC1.out
  have HR456 := Aside0.mk (Kd.C_of_reads (h1 := fun _ => rfl) (hA8 _ (Kd.reads_of_C HR1.out)))
  have HC456 := Aside0.mk hC8
  clear hA8 hC8 hi08 hsz8
  go_wp2_with (first | ((with_reducible refine gate_callee (f := 65) rfl ?_); refine goesL_ (some 14) rfl rfl Try.func65 (by kernel_rfl) rfl #[.slice A1 (l1.take 1).length c1] rfl (by (try simp only [List.map_toArray, List.map_cons, List.map_nil]); first | done | (rw [show (l1.take 1).length = 1 from (by rw [List.length_take]; have h_ : (1 : Int) ≤ (l1.length : Int) := dt_; omega)] <;> rfl) | rfl | (simp only [List.length_drop, List.length_take]; rfl)) ?_; (with_reducible refine (impl_PlainHello.calls _ _ (l1.take 1) t457 t460 _ ?side1 ?side2 A6.out).mono ?_); (case side1 => exact pc_ (Kd.C_below HR456.out (pb_ HB.out))); (case side2 => exact HC456.out); rintro e w9 ⟨v458, v461, rfl, ho0, ho1, hb⟩; refine ⟨_, rfl, ?_⟩; have n0_ := Aside0.mk (Kd.R_lower ho0 (below_size (pb_ HB.out))); have n1_ := Aside0.mk (Kd.S_lower ho1 (below_size (pb_ HB.out))); have n2_ := Aside0.mk (below_step (pb_ HB.out) hb); clear HB; have HO459 := n0_; have HO462 := n1_; have HB := n2_; clear n0_ n1_ n2_; (try clear hb); (try clear hb2); (try clear hk); (try clear hi); (try clear ho0); (try clear ho1); obtain ⟨Ao10, co10, eo10⟩ := Kd.R_slice HO459.out; subst eo10; obtain ⟨Ao11, co11, eo11⟩ := Kd.S_slice HO462.out; subst eo11) | ((with_reducible refine gate_callee (f := 64) rfl ?_); refine goesL_ (some 15) rfl rfl Try.func64 (by kernel_rfl) rfl #[.slice A0 l0.length c0, .agg #[.slice Ao10 t457.length co10, .slice Ao11 t460.length co11]] rfl mp_ ?_; (with_reducible refine (impl_PassPath.calls k _ _ l0 _ _ t457 _ _ t460 t463 t466 t469 _ ?side1 ?side2 ?side3 ?side4 ?side5 ?side6 A7.out).mono ?_); (case side1 => exact pc_ (Kd.C_below HR0.out HB.out)); (case side2 => exact HC0.out); (case side3 => exact pc_ ((Kd.R_reads' HO459.out).2.2)); (case side4 => exact (Kd.R_reads' HO459.out).2.1); (case side5 => exact pc_ ((Kd.S_reads' HO462.out).2.2)); (case side6 => exact (Kd.S_reads' HO462.out).2.1); rintro e w12 ⟨v464, v467, rfl, ho0, ho1, hb⟩; refine ⟨_, rfl, ?_⟩; have n0_ := Aside0.mk (Kd.R_elder' (pr_ HO459.out) (Kd.R_base ho0) hb); have n1_ := Aside0.mk (Kd.S_mono (Kd.S_told (Kd.S_told (Kd.S_old (ps_ HO462.out) hb) (Kd.R_base ho0)) (Kd.S_base ho1)) (fun _ h_ => h_.1)); have n2_ := Aside0.mk (Kd.R_lower (Kd.R_new' ho0 (Kd.R_lt (pr_ HO459.out))) (below_size (pb_ HB.out))); have n3_ := Aside0.mk (Kd.S_lower (Kd.S_new' (Kd.S_new' ho1 (Kd.R_lt (pr_ HO459.out))) (Kd.S_lt (ps_ HO462.out))) (below_size (pb_ HB.out))); have n4_ := Aside0.mk (below_step (pb_ HB.out) hb); clear HO459; clear HO462; clear HB; have HO459 := n0_; have HO462 := n1_; have HO465 := n2_; have HO468 := n3_; have HB := n4_; clear n0_ n1_ n2_ n3_ n4_; (try clear hb); (try clear hb2); (try clear hk); (try clear hi); (try clear ho0); (try clear ho1)) | ((with_reducible refine gate_dst (N := 5) rfl ?_); refine box_event ?hg (N := 5) ?hd (cs := #[.slice none 0 0, .slice none 0 0]) (t := 63) ?hr ?_; (case hd => rfl); (case hg => rfl); (case hr => first | (go_simp; done) | (go_simp; rfl)); intro gb470 hg w13 hbox hb; have n0_ := Aside0.mk (Kd.R_below (pr_ HO459.out) hb); have n1_ := Aside0.mk (Kd.S_below (ps_ HO462.out) hb); have n2_ := Aside0.mk (Kd.R_below (pr_ HO465.out) hb); have n3_ := Aside0.mk (Kd.S_below (ps_ HO468.out) hb); have n4_ := Aside0.mk (below_step (pb_ HB.out) hb); have n5_ := Aside0.mk (hbox); have n6_ := Aside0.mk ((by rw [hg]; exact (below_size (pb_ HB.out)) : w.heap.size ≤ gb470)); have n7_ := Aside0.mk ((by rw [hg]; exact (below_size (pb_ HB.out)) : w.heap.size ≤ gb470)); clear HO459; clear HO462; clear HO465; clear HO468; clear HB; have HO459 := n0_; have HO462 := n1_; have HO465 := n2_; have HO468 := n3_; have HB := n4_; have BK470 := n5_; have GW470 := n6_; have GE470 := n7_; clear n0_ n1_ n2_ n3_ n4_ n5_ n6_ n7_; clear hb hbox hg; obtain ⟨Ao14, co14, eo14⟩ := Kd.R_slice HO465.out; subst eo14; have hcz15_0 : w13.cell? ⟨gb470, 0, none⟩ = some (.slice none 0 0) := (blk_cell BK470.out 0).trans rfl; have hcz15_1 : w13.cell? ⟨gb470, 1, none⟩ = some (.slice none 0 0) := (blk_cell BK470.out 1).trans rfl; have hfz15_0 := blk_frozen BK470.out 0; have hfz15_1 := blk_frozen BK470.out 1; obtain ⟨Ao16, co16, eo16⟩ := Kd.S_slice HO468.out; subst eo16))
  go_ret
  exact ⟨er_, pb1_ HB.out GE470.out⟩

end Go.Proofs.Ytpoandlbmaljhaa.Print
