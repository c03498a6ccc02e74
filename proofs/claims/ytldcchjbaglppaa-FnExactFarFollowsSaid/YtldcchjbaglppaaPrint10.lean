-- Written by a program of this session (printx.py) out of the translation; Lean checks it.
import Derived.Test.YtldcchjbaglppaaPrint0
import Derived.Test.YtldcchjbaglppaaPrint4
import Derived.Test.YtldcchjbaglppaaPrint8
import Derived.Test.YtldcchjbaglppaaPrint9
namespace Go.Proofs.Ytldcchjbaglppaa.Print
open Go.RowKit Go.Proofs.YtldcchjbaglppaaW.PrintWords Go.Proofs.YtldcchjbaglppaaW.PrintLast Go.Proofs.YtldcchjbaglppaaW.PrintMore Go.Proofs.Ytldcchjbaglppaa.Short
attribute [local go_sem] max2_int min2_int max_two min_two max_three min_three max_four min_four   -- for this text's walks alone
set_option linter.unusedVariables false
set_option linter.unusedSimpArgs false

/-! ### impl_Follows: function 48 -/
mutual
def impl_Follows.j0 : Nat → Bool → Int → List Bool → List (S78) → Int → List Bool → List (S78) → Option (Bool)
  | 0, _, _, _, _, _, _, _ => none
  | k + 1, x14, x277000, x277001, x277002, x278000, x278001, x278002 => if x14 = true then (some false) else ((impl_FollowPairs.f k x277000 x277001 x277002 x278000 x278001 x278002).bind fun t280 => (impl_Follows.l0 k t280 (t280.length : Int) 0 x277000 x277001 x277002 x278000 x278001 x278002))
def impl_Follows.l0 : Nat → List (List Int) → Int → Int → Int → List Bool → List (S78) → Int → List Bool → List (S78) → Option (Bool)
  | 0, _, _, _, _, _, _, _, _, _ => none
  | k + 1, x17, x18, x19, x277000, x277001, x277002, x278000, x278001, x278002 => if x19 < x18 then (if 0 ≤ x19 then (if x19 < (x17.length : Int) then (if 0 < ((rd_L9 x17 x19).length : Int) then (if 1 < ((rd_L9 x17 x19).length : Int) then ((impl_FollowsAt.f k x277000 x277001 x277002 x278000 x278001 x278002 (rd (rd_L9 x17 x19) 0) (rd (rd_L9 x17 x19) 1)).bind fun t286 => (if t286 = true then (impl_Follows.l0 k x17 x18 (wrap64 (x19 + 1)) x277000 x277001 x277002 x278000 x278001 x278002) else (some false))) else (none)) else (none)) else (none)) else (none)) else (some true)
end
def impl_Follows.f (k : Nat) (a0_0 : Int) (l0_1 : List Bool) (l0_2 : List (S78)) (a1_0 : Int) (l1_1 : List Bool) (l1_2 : List (S78)) : Option (Bool) := (impl_IsMachine.f k a0_0 l0_1 l0_2).bind fun t278 => (if t278 = true then ((impl_IsMachine.f k a1_0 l1_1 l1_2).bind fun t279 => (impl_Follows.j0 k (!t279) a0_0 l0_1 l0_2 a1_0 l1_1 l1_2)) else (impl_Follows.j0 k true a0_0 l0_1 l0_2 a1_0 l1_1 l1_2))
theorem impl_Follows.mono_l : ∀ k, (∀ y0 y1 y2 y3 y4 y5 y6, LeO (impl_Follows.j0 k y0 y1 y2 y3 y4 y5 y6) (impl_Follows.j0 (k + 1) y0 y1 y2 y3 y4 y5 y6)) ∧ (∀ y0 y1 y2 y3 y4 y5 y6 y7 y8, LeO (impl_Follows.l0 k y0 y1 y2 y3 y4 y5 y6 y7 y8) (impl_Follows.l0 (k + 1) y0 y1 y2 y3 y4 y5 y6 y7 y8))
  | 0 => ⟨fun _ _ _ _ _ _ _ r h => by simp [impl_Follows.j0] at h, fun _ _ _ _ _ _ _ _ _ r h => by simp [impl_Follows.l0] at h⟩
  | k + 1 => by
    obtain ⟨ih0, ih1⟩ := impl_Follows.mono_l k
    refine ⟨?_, ?_⟩
    · intro y0 y1 y2 y3 y4 y5 y6
      unfold impl_Follows.j0
      repeat' first
      | (with_reducible exact ih0 _ _ _ _ _ _ _)
      | (with_reducible exact ih1 _ _ _ _ _ _ _ _ _)
      | (with_reducible exact impl_FollowPairs.mono _ _ _ _ _ _ _)
      | (with_reducible exact impl_FollowsAt.mono _ _ _ _ _ _ _ _ _)
      | (with_reducible exact impl_IsMachine.mono _ _ _ _)
      | (with_reducible exact LeO.refl _)
      | (with_reducible exact LeO.none _)
      | (with_reducible refine LeO.ite ?_ ?_)
      | (with_reducible refine LeO.bind ?_ (fun _ => ?_))
      | exact ih0 _ _ _ _ _ _ _
      | exact ih1 _ _ _ _ _ _ _ _ _
      | exact impl_FollowPairs.mono _ _ _ _ _ _ _
      | exact impl_FollowsAt.mono _ _ _ _ _ _ _ _ _
      | exact impl_IsMachine.mono _ _ _ _
      | exact LeO.none _
      | refine LeO.ite ?_ ?_
      | refine LeO.bind ?_ (fun _ => ?_)
    · intro y0 y1 y2 y3 y4 y5 y6 y7 y8
      unfold impl_Follows.l0
      repeat' first
      | (with_reducible exact ih0 _ _ _ _ _ _ _)
      | (with_reducible exact ih1 _ _ _ _ _ _ _ _ _)
      | (with_reducible exact impl_FollowPairs.mono _ _ _ _ _ _ _)
      | (with_reducible exact impl_FollowsAt.mono _ _ _ _ _ _ _ _ _)
      | (with_reducible exact impl_IsMachine.mono _ _ _ _)
      | (with_reducible exact LeO.refl _)
      | (with_reducible exact LeO.none _)
      | (with_reducible refine LeO.ite ?_ ?_)
      | (with_reducible refine LeO.bind ?_ (fun _ => ?_))
      | exact ih0 _ _ _ _ _ _ _
      | exact ih1 _ _ _ _ _ _ _ _ _
      | exact impl_FollowPairs.mono _ _ _ _ _ _ _
      | exact impl_FollowsAt.mono _ _ _ _ _ _ _ _ _
      | exact impl_IsMachine.mono _ _ _ _
      | exact LeO.none _
      | refine LeO.ite ?_ ?_
      | refine LeO.bind ?_ (fun _ => ?_)
theorem impl_Follows.mono : ∀ a0 a1 a2 a3 a4 a5 k, LeO (impl_Follows.f k a0 a1 a2 a3 a4 a5) (impl_Follows.f (k + 1) a0 a1 a2 a3 a4 a5) := by
  intro a0 a1 a2 a3 a4 a5 k
  obtain ⟨ih0, ih1⟩ := impl_Follows.mono_l k
  unfold impl_Follows.f
  repeat' first
      | (with_reducible exact ih0 _ _ _ _ _ _ _)
      | (with_reducible exact ih1 _ _ _ _ _ _ _ _ _)
      | (with_reducible exact impl_FollowPairs.mono _ _ _ _ _ _ _)
      | (with_reducible exact impl_FollowsAt.mono _ _ _ _ _ _ _ _ _)
      | (with_reducible exact impl_IsMachine.mono _ _ _ _)
      | (with_reducible exact LeO.refl _)
      | (with_reducible exact LeO.none _)
      | (with_reducible refine LeO.ite ?_ ?_)
      | (with_reducible refine LeO.bind ?_ (fun _ => ?_))
      | exact ih0 _ _ _ _ _ _ _
      | exact ih1 _ _ _ _ _ _ _ _ _
      | exact impl_FollowPairs.mono _ _ _ _ _ _ _
      | exact impl_FollowsAt.mono _ _ _ _ _ _ _ _ _
      | exact impl_IsMachine.mono _ _ _ _
      | exact LeO.none _
      | refine LeO.ite ?_ ?_
      | refine LeO.bind ?_ (fun _ => ?_)
def impl_Follows.T6 : Bool × List (List Nat × List Nat) := (true, [([], []), ([], []), ([], []), ([2], [2]), ([3], [3]), ([], []), ([5], [5]), ([6], [6]), ([0, 1, 4, 7], [0, 1, 4, 7]), ([8], [8])])
def impl_Follows.B6 : List Nat := [0, 0, 0, 4, 12, 0, 32, 96, 255, 511]
theorem impl_Follows.tab6 : rtab .any (opsOf Try.f48 6) = impl_Follows.T6 := by kernel_rfl
theorem impl_Follows.bits6 : waitsOk impl_Follows.T6.2 impl_Follows.B6 = true := by kernel_rfl
set_option maxHeartbeats 8000000 in
set_option maxRecDepth 100000 in
theorem impl_Follows.calls (k : Nat) (a0_0 : Int) (A0_1 : Option Addr) (c0_1 : Nat) (l0_1 : List Bool) (A0_2 : Option Addr) (c0_2 : Nat) (l0_2 : List (S78)) (a1_0 : Int) (A1_1 : Option Addr) (c1_1 : Nat) (l1_1 : List Bool) (A1_2 : Option Addr) (c1_2 : Nat) (l1_2 : List (S78)) (r : Bool) (w : World) (hr0_1 : Kd.C Kd.bool w A0_1 l0_1.length l0_1) (hc0_1 : l0_1.length ≤ c0_1) (hr0_2 : Kd.C k78 w A0_2 l0_2.length l0_2) (hc0_2 : l0_2.length ≤ c0_2) (hr1_1 : Kd.C Kd.bool w A1_1 l1_1.length l1_1) (hc1_1 : l1_1.length ≤ c1_1) (hr1_2 : Kd.C k78 w A1_2 l1_2.length l1_2) (hc1_2 : l1_2.length ≤ c1_2) (h : impl_Follows.f k a0_0 l0_1 l0_2 a1_0 l1_1 l1_2 = some r) :
    Calls Try.prog 48 #[.agg #[.int .i64 a0_0, .slice A0_1 l0_1.length c0_1, .slice A0_2 l0_2.length c0_2], .agg #[.int .i64 a1_0, .slice A1_1 l1_1.length c1_1, .slice A1_2 l1_2.length c1_2]] w fun e w' => e = .returned (.bool r) ∧ Below w.heap.size w w' := by
  have hu34 := Try.underlying34
  have HR0_1 := Aside0.mk hr0_1
  have HC0_1 := Aside0.mk hc0_1
  clear hr0_1 hc0_1
  have HR0_2 := Aside0.mk hr0_2
  have HC0_2 := Aside0.mk hc0_2
  clear hr0_2 hc0_2
  have HR1_1 := Aside0.mk hr1_1
  have HC1_1 := Aside0.mk hc1_1
  clear hr1_1 hc1_1
  have HR1_2 := Aside0.mk hr1_2
  have HC1_2 := Aside0.mk hc1_2
  clear hr1_2 hc1_2
  have HB := Aside0.mk (Below.refl w.heap.size w)
  have H : ((impl_IsMachine.f k a0_0 l0_1 l0_2).bind fun t278 => (if t278 = true then ((impl_IsMachine.f k a1_0 l1_1 l1_2).bind fun t279 => (impl_Follows.j0 k (!t279) a0_0 l0_1 l0_2 a1_0 l1_1 l1_2)) else (impl_Follows.j0 k true a0_0 l0_1 l0_2 a1_0 l1_1 l1_2))) = some r := h
  clear h
  have HC3 := Aside0.mk H
  clear H
  go_enter Try.func48, Try.ntmps48
  go_upto_region 1 with (first | ((with_reducible refine gate_dst (N := 2) rfl ?_); refine box_event ?hg (N := 2) ?hd (cs := #[.int .i64 a0_0, .slice A0_1 l0_1.length c0_1, .slice A0_2 l0_2.length c0_2]) (t := 34) ?hr ?_; (case hd => rfl); (case hg => rfl); (case hr => first | (go_simp; done) | (go_simp; rfl)); intro gb276 hg w4 hbox hb; have n0_ := Aside0.mk (below_step (pb_ HB.out) hb); have n1_ := Aside0.mk (hbox); have n2_ := Aside0.mk ((by rw [hg]; exact (below_size (pb_ HB.out)) : w.heap.size ≤ gb276)); have n3_ := Aside0.mk ((by rw [hg]; exact (below_size (pb_ HB.out)) : w.heap.size ≤ gb276)); clear HB; have HB := n0_; have BK276 := n1_; have GW276 := n2_; have GE276 := n3_; clear n0_ n1_ n2_ n3_; clear hb hbox hg) | ((with_reducible refine gate_dst (N := 3) rfl ?_); refine box_event ?hg (N := 3) ?hd (cs := #[.int .i64 a1_0, .slice A1_1 l1_1.length c1_1, .slice A1_2 l1_2.length c1_2]) (t := 34) ?hr ?_; (case hd => rfl); (case hg => rfl); (case hr => first | (go_simp; done) | (go_simp; rfl)); intro gb277 hg w5 hbox hb; have n0_ := Aside0.mk (bb_ BK276.out hb); have n1_ := Aside0.mk (below_step (pb1_ HB.out GE276.out) hb); have n2_ := Aside0.mk (hbox); have n3_ := Aside0.mk ((by rw [hg]; exact (below_size (pb1_ HB.out GE276.out)) : w.heap.size ≤ gb277)); have n4_ := Aside0.mk ((by rw [hg]; exact (below_size (pb1_ HB.out GE276.out)) : w.heap.size ≤ gb277)); have n5_ := Aside0.mk ((by rw [hg]; exact Nat.ne_of_lt (blk_lt (pk_ BK276.out)) : gb276 ≠ gb277)); have n6_ := Aside0.mk ((by rw [hg]; exact Nat.ne_of_gt (blk_lt (pk_ BK276.out)) : gb277 ≠ gb276)); clear BK276; clear HB; have BK276 := n0_; have HB := n1_; have BK277 := n2_; have GW277 := n3_; have GE277 := n4_; have NB276_277 := n5_; have NB277_276 := n6_; clear n0_ n1_ n2_ n3_ n4_ n5_ n6_; clear hb hbox hg))
  (try simp only [Act.put, List.setIfInBounds_toArray, List.set_cons_zero, List.set_cons_succ])
  go_cut [14] (fun v14 wc => ∃ (kq : Nat) (x14_2 : Bool), v14 = .bool x14_2 ∧ Aside0 (impl_Follows.j0 kq x14_2 a0_0 l0_1 l0_2 a1_0 l1_1 l1_2 = some r) ∧ Aside0 (kq ≤ k) ∧ Aside0 (wc.heap[gb276]? = some (.cells #[.int .i64 a0_0, (.slice A0_1 l0_1.length c0_1), (.slice A0_2 l0_2.length c0_2)] 34 (0, 0))) ∧ Aside0 (wc.heap[gb277]? = some (.cells #[.int .i64 a1_0, (.slice A1_1 l1_1.length c1_1), (.slice A1_2 l1_2.length c1_2)] 34 (0, 0))) ∧ Aside0 (Below w.heap.size w wc))
  case first =>
    have H := HC3.out
    clear HC3
    replace H := Option.bind_eq_some_iff.mp H
    obtain ⟨t278, A60, H⟩ := H
    (try dsimp only at H)
    have A6 := Aside0.mk A60
    clear A60
    by_cases c7 : t278 = true
    rotate_left
    · replace c7 := Bool.eq_false_iff.mpr c7
      subst c7
      rw [if_neg (show ¬ (false = true) by decide)] at H
      have H' := Aside0.mk H
      clear H
      have hnb8 := NB276_277.out
      have hnc8 := NB277_276.out
      obtain ⟨hcz9_0, hcz9_1, hcz9_2, hfz9_0, hfz9_1, hfz9_2⟩ := bc3_ BK276.out
      go_wp2_with (first | ((with_reducible refine gate_callee (f := 55) rfl ?_); refine gl_ (some 8) Try.func55 #[.agg #[.int .i64 a0_0, .slice A0_1 l0_1.length c0_1, .slice A0_2 l0_2.length c0_2]] ?_; (with_reducible refine (impl_IsMachine.calls k a0_0 _ _ l0_1 _ _ l0_2 false _ ?side1 ?side2 ?side3 ?side4 A6.out).mono ?_); (case side1 => exact cb_ HR0_1 HB); (case side2 => exact HC0_1.out); (case side3 => exact cb_ HR0_2 HB); (case side4 => exact HC0_2.out); rintro e w10 ⟨rfl, hb⟩; refine ⟨_, rfl, ?_⟩; have _ := Aside0.mk (bb_ BK276.out hb); have _ := Aside0.mk (bb_ BK277.out hb); have _ := Aside0.mk (below_step (pb2_ HB.out GE276.out GE277.out) hb); clear BK276 BK277 HB; rename_i BK276 BK277 HB; (try clear hb); (try clear hb2); (try clear hk); (try clear hi)))
      go_meet
      case rel => exact ⟨_, (true), el_, H', ⟨by first | omega | exact Nat.le_refl _⟩, ⟨pk_ BK276.out⟩, ⟨pk_ BK277.out⟩, ⟨pb2_ HB.out GE276.out GE277.out⟩⟩
    subst c7
    rw [if_pos rfl] at H
    replace H := Option.bind_eq_some_iff.mp H
    obtain ⟨t279, A110, H⟩ := H
    replace H : (impl_Follows.j0 k (!t279) a0_0 l0_1 l0_2 a1_0 l1_1 l1_2) = some r := H
    have A11 := Aside0.mk A110
    clear A110
    have H' := Aside0.mk H
    clear H
    have hnb12 := NB276_277.out
    have hnc12 := NB277_276.out
    obtain ⟨hcz13_0, hcz13_1, hcz13_2, hfz13_0, hfz13_1, hfz13_2⟩ := bc3_ BK276.out
    go_wp2_with (first | ((with_reducible refine gate_callee (f := 55) rfl ?_); refine gl_ (some 8) Try.func55 #[.agg #[.int .i64 a0_0, .slice A0_1 l0_1.length c0_1, .slice A0_2 l0_2.length c0_2]] ?_; (with_reducible refine (impl_IsMachine.calls k a0_0 _ _ l0_1 _ _ l0_2 true _ ?side1 ?side2 ?side3 ?side4 A6.out).mono ?_); (case side1 => exact cb_ HR0_1 HB); (case side2 => exact HC0_1.out); (case side3 => exact cb_ HR0_2 HB); (case side4 => exact HC0_2.out); rintro e w14 ⟨rfl, hb⟩; refine ⟨_, rfl, ?_⟩; have _ := Aside0.mk (bb_ BK276.out hb); have _ := Aside0.mk (bb_ BK277.out hb); have _ := Aside0.mk (below_step (pb2_ HB.out GE276.out GE277.out) hb); clear BK276 BK277 HB; rename_i BK276 BK277 HB; (try clear hb); (try clear hb2); (try clear hk); (try clear hi); obtain ⟨hcz15_0, hcz15_1, hcz15_2, hfz15_0, hfz15_1, hfz15_2⟩ := bc3_ BK277.out) | (go_at_call 55; (with_reducible refine (impl_IsMachine.calls k a1_0 _ _ l1_1 _ _ l1_2 t279 _ ?side1 ?side2 ?side3 ?side4 A11.out).mono ?_); (case side1 => exact cb_ HR1_1 HB); (case side2 => exact HC1_1.out); (case side3 => exact cb_ HR1_2 HB); (case side4 => exact HC1_2.out); rintro e w16 ⟨rfl, hb⟩; have _ := Aside0.mk (bb_ BK276.out hb); have _ := Aside0.mk (bb_ BK277.out hb); have _ := Aside0.mk (below_step (pb2_ HB.out GE276.out GE277.out) hb); clear BK276 BK277 HB; rename_i BK276 BK277 HB; (try clear hb); (try clear hb2); (try clear hk); (try clear hi)))
    go_meet
    case rel => exact ⟨_, (!t279), el_, H', ⟨by first | omega | exact Nat.le_refl _⟩, ⟨pk_ BK276.out⟩, ⟨pk_ BK277.out⟩, ⟨pb2_ HB.out GE276.out GE277.out⟩⟩
  clear HC3
  try clear c1
  try clear p2
  try clear c4
  try clear c5
  try clear c7
  try clear c8
  try clear c12
  try clear hcz13_0
  try clear hcz13_1
  try clear hcz13_2
  try clear hcz15_0
  try clear hcz15_1
  try clear hcz15_2
  try clear hcz9_0
  try clear hcz9_1
  try clear hcz9_2
  try clear hfz13_0
  try clear hfz13_1
  try clear hfz13_2
  try clear hfz15_0
  try clear hfz15_1
  try clear hfz15_2
  try clear hfz9_0
  try clear hfz9_1
  try clear hfz9_2
  obtain ⟨kq, x14_2, rfl, HA, HJ2, BK276, BK277, HB⟩ := hcut
  rcases kq with _ | kj2
  · exact absurd HA.out (by simp [impl_Follows.j0])
  have H := HA.out
  clear HA
  simp only [impl_Follows.j0] at H
  by_cases c17 : x14_2 = true
  · subst c17
    rw [if_pos rfl] at H
    obtain rfl := Option.some.inj H
    go_wp2
    go_ret
    exact ⟨er_, pb2_ HB.out GE276.out GE277.out⟩
  replace c17 := Bool.eq_false_iff.mpr c17
  subst c17
  rw [if_neg (show ¬ (false = true) by decide)] at H
  replace H := Option.bind_eq_some_iff.mp H
  obtain ⟨t280, A180, H⟩ := H
  (try dsimp only at H)
  have A18 := Aside0.mk A180
  clear A180
  have H' := Aside0.mk H
  clear H
  have hnb19 := NB276_277.out
  have hnc19 := NB277_276.out
  obtain ⟨hcz20_0, hcz20_1, hcz20_2, hfz20_0, hfz20_1, hfz20_2⟩ := bc3_ BK276.out
  obtain ⟨hcz21_0, hcz21_1, hcz21_2, hfz21_0, hfz21_1, hfz21_2⟩ := bc3_ BK277.out
  go_wp2_with (first | ((with_reducible refine gate_callee (f := 64) rfl ?_); refine gl_ (some 17) Try.func64 #[.agg #[.int .i64 a0_0, .slice A0_1 l0_1.length c0_1, .slice A0_2 l0_2.length c0_2], .agg #[.int .i64 a1_0, .slice A1_1 l1_1.length c1_1, .slice A1_2 l1_2.length c1_2]] ?_; (with_reducible refine (impl_FollowPairs.calls kj2 a0_0 _ _ l0_1 _ _ l0_2 a1_0 _ _ l1_1 _ _ l1_2 t280 _ ?side1 ?side2 ?side3 ?side4 ?side5 ?side6 ?side7 ?side8 A18.out).mono ?_); (case side1 => exact cb_ HR0_1 HB); (case side2 => exact HC0_1.out); (case side3 => exact cb_ HR0_2 HB); (case side4 => exact HC0_2.out); (case side5 => exact cb_ HR1_1 HB); (case side6 => exact HC1_1.out); (case side7 => exact cb_ HR1_2 HB); (case side8 => exact HC1_2.out); rintro e w22 ⟨v281, rfl, ho0, hb⟩; refine ⟨_, rfl, ?_⟩; have _ := Aside0.mk (Kd.N_lower (Kd.N_mono (ok' := fun k_ => k_ ≠ gb276 ∧ k_ ≠ gb277) ho0 (fun k_ hk_ => ⟨(Kd.freshB (g := gb276) (o := .cells #[.int .i64 a0_0, .slice A0_1 l0_1.length c0_1, .slice A0_2 l0_2.length c0_2] 34 (0, 0)) (pk_ BK276.out) k_ hk_), (Kd.freshB (g := gb277) (o := .cells #[.int .i64 a1_0, .slice A1_1 l1_1.length c1_1, .slice A1_2 l1_2.length c1_2] 34 (0, 0)) (pk_ BK277.out) k_ hk_)⟩)) (below_size (pb2_ HB.out GE276.out GE277.out))); have _ := Aside0.mk (bb_ BK276.out hb); have _ := Aside0.mk (bb_ BK277.out hb); have _ := Aside0.mk (below_step (pb2_ HB.out GE276.out GE277.out) hb); clear BK276 BK277 HB; rename_i HO282 BK276 BK277 HB; (try clear hb); (try clear hb2); (try clear hk); (try clear hi); (try clear ho0); obtain ⟨Ao23, co23, eo23⟩ := Kd.N_slice HO282.out; subst eo23))
  (try simp only [Act.put, List.setIfInBounds_toArray, List.set_cons_zero, List.set_cons_succ])
  go_loopg [19] kj2 (fun kq v19 w' => ∃ (x19_2 : Int), v19 = .int .i64 x19_2 ∧ Aside0 (impl_Follows.l0 kq t280 (t280.length : Int) x19_2 a0_0 l0_1 l0_2 a1_0 l1_1 l1_2 = some r) ∧ Aside0 (kq ≤ kj2) ∧ Aside0 (Kd.N (Kd.slice 3 (Kd.int .i64)) 39 w' w.heap.size (fun k_ => k_ ≠ gb276 ∧ k_ ≠ gb277) (.slice Ao23 t280.length co23) t280) ∧ Aside0 (w'.heap[gb276]? = some (.cells #[.int .i64 a0_0, (.slice A0_1 l0_1.length c0_1), (.slice A0_2 l0_2.length c0_2)] 34 (0, 0))) ∧ Aside0 (w'.heap[gb277]? = some (.cells #[.int .i64 a1_0, (.slice A1_1 l1_1.length c1_1), (.slice A1_2 l1_2.length c1_2)] 34 (0, 0))) ∧ Aside0 (Below w.heap.size w w'))
  case atStart => exact ⟨(0), el_, H', ⟨Nat.le_refl _⟩, ⟨by (with_reducible repeat (first | apply Kd.N_alloc | apply Kd.N_drewN | apply Kd.N_drew)); exact HO282.out⟩, ⟨pk_ BK276.out⟩, ⟨pk_ BK277.out⟩, ⟨pb2_ HB.out GE276.out GE277.out⟩⟩
  clear H'
  try clear c1
  try clear p2
  try clear c4
  try clear c5
  try clear c6
  try clear c7
  try clear c8
  try clear c12
  try clear c17
  try clear c19
  try clear hcz13_0
  try clear hcz13_1
  try clear hcz13_2
  try clear hcz15_0
  try clear hcz15_1
  try clear hcz15_2
  try clear hcz20_0
  try clear hcz20_1
  try clear hcz20_2
  try clear hcz21_0
  try clear hcz21_1
  try clear hcz21_2
  try clear hcz9_0
  try clear hcz9_1
  try clear hcz9_2
  try clear hfz13_0
  try clear hfz13_1
  try clear hfz13_2
  try clear hfz15_0
  try clear hfz15_1
  try clear hfz15_2
  try clear hfz20_0
  try clear hfz20_1
  try clear hfz20_2
  try clear hfz21_0
  try clear hfz21_1
  try clear hfz21_2
  try clear hfz9_0
  try clear hfz9_1
  try clear hfz9_2
  try clear p2
  obtain ⟨x19_2, rfl, HA, HK2, HO_17, BK276, BK277, HB⟩ := hrel
  rcases gk with _ | k2
  · exact absurd HA.out (by simp [impl_Follows.l0])
  have H := HA.out
  clear HA
  simp only [impl_Follows.l0] at H
  by_cases c24 : x19_2 < (t280.length : Int)
  rotate_left
  · rw [if_neg c24] at H
    have c24b0 : decide (x19_2 < (t280.length : Int)) = false := decide_eq_false c24
    clear c24
    obtain rfl := Option.some.inj H
    go_wp2
    go_ret
    exact ⟨er_, pb2_ HB.out GE276.out GE277.out⟩
  rw [if_pos c24] at H
  have c24b0 : decide (x19_2 < (t280.length : Int)) = true := decide_eq_true c24
  clear c24
  by_cases c25 : 0 ≤ x19_2
  rotate_left
  · rw [if_neg c25] at H
    exact absurd H (by simp)
  rw [if_pos c25] at H
  have c25b0 : decide (0 ≤ x19_2) = true := decide_eq_true c25
  clear c25
  by_cases c26 : x19_2 < (t280.length : Int)
  rotate_left
  · rw [if_neg c26] at H
    exact absurd H (by simp)
  rw [if_pos c26] at H
  have c26b0 : decide (x19_2 < (t280.length : Int)) = true := decide_eq_true c26
  clear c26
  by_cases c27 : 0 < ((rd_L9 t280 x19_2).length : Int)
  rotate_left
  · rw [if_neg c27] at H
    exact absurd H (by simp)
  rw [if_pos c27] at H
  have c27b0 : decide (0 < ((rd_L9 t280 x19_2).length : Int)) = true := decide_eq_true c27
  have c27b1 : decide (0 < (rd_L9 t280 x19_2).length) = true := decide_eq_true (by omega)
  clear c27
  by_cases c28 : 1 < ((rd_L9 t280 x19_2).length : Int)
  rotate_left
  · rw [if_neg c28] at H
    exact absurd H (by simp)
  rw [if_pos c28] at H
  have c28b0 : decide (1 < ((rd_L9 t280 x19_2).length : Int)) = true := decide_eq_true c28
  have c28b1 : decide (1 < (rd_L9 t280 x19_2).length) = true := decide_eq_true (by omega)
  clear c28
  replace H := Option.bind_eq_some_iff.mp H
  obtain ⟨t286, A290, H⟩ := H
  (try dsimp only at H)
  have A29 := Aside0.mk A290
  clear A290
  have HS_ := Aside0.mk H
  clear H
  have p283 : 0 ≤ (x19_2 : Int) := dt_
  have q283 : x19_2 < (t280.length : Int) := dt_
  obtain ⟨ad283, A283_0, c283_0, e283, hx283_0, hl283_0, hi283_0⟩ := at_L9 (Kd.N_reads' HO_17.out).2.2 x19_2 p283 q283
  cases e283
  obtain ⟨ce283, hce283, hMe283, hcc283⟩ := Kd.N_get HO_17.out [] x19_2 p283 (by first | exact q283 | exact dt_ | (have e_ := (Kd.N_reads' HO_17.out).1; omega))
  obtain ⟨ua283_0, uc283_0, rfl, ul283_0, ge283_0⟩ := Kd.FK_slice_open hMe283
  have hv283_0 := hcc283 0 _ rfl
  rw [Nat.add_zero, show ((Kd.slice 3 (Kd.int .i64))).sz = 1 from rfl, Nat.mul_one] at hv283_0
  replace hv283_0 := Option.some.inj (hv283_0.symm.trans hx283_0)
  injection hv283_0 with hva_ hvn_ hvc_
  rw [hva_] at ge283_0
  rw [hvc_] at ul283_0
  have HL283_0 := Aside0.mk (show Kd.V (Kd.int .i64) 3 _ w.heap.size _ _ (rd_L9 t280 x19_2) from Kd.V_mk ul283_0 ge283_0)
  clear hva_ hvn_ hvc_ ge283_0 ul283_0
  clear hcc283 hce283
  have HR283_0 := Aside0.mk hi283_0
  have HC283_0 := Aside0.mk hl283_0
  clear hi283_0 hl283_0
  replace p283 := eq_true p283
  replace q283 := eq_true q283
  try go_wp2
  have _ := Aside0.mk (Kd.N_drew HO_17.out)
  have _ := Aside0.mk (Kd.V_drew HL283_0.out)
  have _ := Aside0.mk (blk_drew BK276.out)
  have _ := Aside0.mk (blk_drew BK277.out)
  have _ := Aside0.mk (Kd.C_drew HR283_0.out)
  have _ := Aside0.mk (below_drew1 HB.out)
  clear HO_17 HL283_0 BK276 BK277 HR283_0 HB
  rename_i HO_17 HL283_0 BK276 BK277 HR283_0 HB
  have p284 : 0 ≤ (0 : Int) := (by omega)
  have q284 : 0 < ((rd_L9 t280 x19_2).length : Int) := dt_
  obtain ⟨ad284, e284, hx284_0⟩ := Kd.at_int (by repeat (first | (with_reducible exact HR283_0.out) | (with_reducible refine Kd.C_alloc ?_ _) | (with_reducible refine Kd.C_drewN ?_ _) | (with_reducible refine Kd.C_drew ?_) | exact HR283_0.out)) 0 p284 q284
  cases e284
  have qi284 : (0 < (rd_L9 t280 x19_2).length) = True := eq_true (by omega)
  (try rw [show ((0 : Int)).toNat = 0 from rfl] at hx284_0)
  (try rw [Addr.add_zero'] at hx284_0)
  replace p284 := eq_true p284
  replace q284 := eq_true q284
  have p285 : 0 ≤ (1 : Int) := (by omega)
  have q285 : 1 < ((rd_L9 t280 x19_2).length : Int) := dt_
  obtain ⟨ad285, e285, hx285_0⟩ := Kd.at_int (by repeat (first | (with_reducible exact HR283_0.out) | (with_reducible refine Kd.C_alloc ?_ _) | (with_reducible refine Kd.C_drewN ?_ _) | (with_reducible refine Kd.C_drew ?_) | exact HR283_0.out)) 1 p285 q285
  obtain rfl : ad284 = ad285 := (by injection e285)
  (try simp only [show (1 : Int).toNat = 1 from rfl, Nat.reduceMul, Nat.reduceEqDiff, Go.Addr.add, ↓reduceIte] at hx285_0)
  have qi285 : (1 < (rd_L9 t280 x19_2).length) = True := eq_true (by omega)
  (try rw [show ((1 : Int)).toNat = 1 from rfl] at hx285_0)
  replace p285 := eq_true p285
  replace q285 := eq_true q285
  refine start_ (n := 10) (S := fun w' => w'.cell? ⟨gb276, 0, none⟩ = some (.int .i64 a0_0) ∧ w'.cell? ⟨gb276, 1, none⟩ = some (.slice A0_1 l0_1.length c0_1) ∧ w'.cell? ⟨gb276, 2, none⟩ = some (.slice A0_2 l0_2.length c0_2) ∧ w'.cell? ⟨gb277, 0, none⟩ = some (.int .i64 a1_0) ∧ w'.cell? ⟨gb277, 1, none⟩ = some (.slice A1_1 l1_1.length c1_1) ∧ w'.cell? ⟨gb277, 2, none⟩ = some (.slice A1_2 l1_2.length c1_2) ∧ w'.cell? ad284 = some (.int .i64 (rd (rd_L9 t280 x19_2) 0)) ∧ w'.cell? ⟨ad284.block, ad284.off + 1, none⟩ = some (.int .i64 (rd (rd_L9 t280 x19_2) 1))) (ds := []) (tf_ 0 10) (by kernel_rfl) rfl rfl ⟨(blk_cell BK276.out 0).trans rfl, (blk_cell BK276.out 1).trans rfl, (blk_cell BK276.out 2).trans rfl, (blk_cell BK277.out 0).trans rfl, (blk_cell BK277.out 1).trans rfl, (blk_cell BK277.out 2).trans rfl, hx284_0, hx285_0⟩ (fun hHeld => ?_); refine with_tabW impl_Follows.tab6 impl_Follows.bits6 (fun HT_ HW_ => ?_)
  generalize wr.drew = w30 at HO_17 HL283_0 BK276 BK277 HR283_0 HB hx284_0 hx285_0 hHeld ⊢
  refine pu_ 2 (some 25) (tm_ 10 4) HT_ ?_
  refine pu_ 3 (some 26) (tm_ 10 12) HT_ ?_
  refine pu_ 5 (some 28) (tm_ 10 44) HT_ ?_
  refine pu_ 6 (some 29) (tm_ 10 108) HT_ ?_
  refine ta_ 0 (some 23) (tm_ 10 109) HT_ HW_ hHeld ?_
  refine ta_ 1 (some 24) (tm_ 10 111) HT_ HW_ hHeld ?_
  refine ta_ 4 (some 27) (tf_ 7 10) HT_ HW_ hHeld ?_
  refine ta_ 7 (some 30) (tf_ 8 10) HT_ HW_ hHeld ?_
  refine on_ 8 (some 31) (tf_ 9 10) HT_ (fun K hK => ?_)
  refine goes_ Try.func65 (by kernel_rfl) rfl #[.agg #[.int .i64 a0_0, .slice A0_1 l0_1.length c0_1, .slice A0_2 l0_2.length c0_2], .agg #[.int .i64 a1_0, .slice A1_1 l1_1.length c1_1, .slice A1_2 l1_2.length c1_2], .int .i64 (rd (rd_L9 t280 x19_2) 0), .int .i64 (rd (rd_L9 t280 x19_2) 1)] (by rfl) rfl rfl mp_ ?_
  with_reducible refine (impl_FollowsAt.calls k2 a0_0 _ _ l0_1 _ _ l0_2 a1_0 _ _ l1_1 _ _ l1_2 (rd (rd_L9 t280 x19_2) 0) (rd (rd_L9 t280 x19_2) 1) t286 _ ?side1 ?side2 ?side3 ?side4 ?side5 ?side6 ?side7 ?side8 A29.out).mono ?_
  (case side1 => exact cb_ HR0_1 HB)
  (case side2 => exact HC0_1.out)
  (case side3 => exact cb_ HR0_2 HB)
  (case side4 => exact HC0_2.out)
  (case side5 => exact cb_ HR1_1 HB)
  (case side6 => exact HC1_1.out)
  (case side7 => exact cb_ HR1_2 HB)
  (case side8 => exact HC1_2.out)
  rintro e w31 ⟨rfl, hb⟩
  have HS6_ := (hb.cell (World.block_lt_of_cell? _ _ (hHeld.2.2.2.2.2.2.1))).trans (hHeld.2.2.2.2.2.2.1)
  have HS7_ := (hb.cell (World.block_lt_of_cell? _ _ (hHeld.2.2.2.2.2.2.2))).trans (hHeld.2.2.2.2.2.2.2)
  refine ⟨_, rfl, ?_⟩
  have _ := Aside0.mk (Kd.N_below (by (with_reducible repeat (first | apply Kd.N_alloc | apply Kd.N_drewN | apply Kd.N_drew)); exact HO_17.out) hb)
  have _ := Aside0.mk (Kd.V_below (by (with_reducible repeat (first | apply Kd.V_alloc | apply Kd.V_drewN | apply Kd.V_drew)); exact HL283_0.out) hb)
  have _ := Aside0.mk (bb_ BK276.out hb)
  have _ := Aside0.mk (bb_ BK277.out hb)
  have _ := Aside0.mk (Kd.C_below (by repeat (first | (with_reducible exact HR283_0.out) | (with_reducible refine Kd.C_alloc ?_ _) | (with_reducible refine Kd.C_drewN ?_ _) | (with_reducible refine Kd.C_drew ?_) | exact HR283_0.out)) hb)
  have _ := Aside0.mk (below_step (pb2_ HB.out GE276.out GE277.out) hb)
  clear HO_17 HL283_0 BK276 BK277 HR283_0 HB
  rename_i HO_17 HL283_0 BK276 BK277 HR283_0 HB
  (try clear hb)
  (try clear hb2)
  (try clear hk)
  (try clear hi)
  refine hK.out _ _ ⟨(blk_cell BK276.out 0).trans rfl, (blk_cell BK276.out 1).trans rfl, (blk_cell BK276.out 2).trans rfl, (blk_cell BK277.out 0).trans rfl, (blk_cell BK277.out 1).trans rfl, (blk_cell BK277.out 2).trans rfl, HS6_, HS7_⟩ (fun hHeld => ?_)
  clear hK K
  refine no_ (some 31) ?_
  refine pu_ 9 (some 32) (tf_ 10 10) HT_ ?_
  refine done_ (done_of HT_.out (by kernel_rfl)) ?_
  go_upto_if 32 with (fail)
  have H := HS_.out
  clear HS_
  by_cases c32 : t286 = true
  rotate_left
  · replace c32 := Bool.eq_false_iff.mpr c32
    subst c32
    rw [if_neg (show ¬ (false = true) by decide)] at H
    obtain rfl := Option.some.inj H
    go_wp2
    go_ret
    exact ⟨er_, pb2_ HB.out GE276.out GE277.out⟩
  subst c32
  rw [if_pos rfl] at H
  have H' := Aside0.mk H
  clear H
  go_wp2
  go_roundg k2
  case measure => have := HJ2.out; have := HK2.out; omega
  case rel => exact ⟨(wrap64 (x19_2 + 1)), el_, H', ⟨by have := HJ2.out; have := HK2.out; omega⟩, ⟨by (with_reducible repeat (first | apply Kd.N_alloc | apply Kd.N_drewN | apply Kd.N_drew)); exact HO_17.out⟩, ⟨pk_ BK276.out⟩, ⟨pk_ BK277.out⟩, ⟨pb2_ HB.out GE276.out GE277.out⟩⟩

/-! ### impl_BreaksAt: function 29 -/
def impl_BreaksAt.l0 : Nat → List (S34) → Int → Option (Int)
  | 0, _, _ => none
  | k + 1, x0, x3 => if x3 < (x0.length : Int) then (if 0 ≤ x3 then (if 0 ≤ (wrap64 (x3 - 1)) then (if (wrap64 (x3 - 1)) < (x0.length : Int) then ((impl_Follows.f k ((rd_T34 x0 x3).f0) ((rd_T34 x0 x3).f1) ((rd_T34 x0 x3).f2) ((rd_T34 x0 (wrap64 (x3 - 1))).f0) ((rd_T34 x0 (wrap64 (x3 - 1))).f1) ((rd_T34 x0 (wrap64 (x3 - 1))).f2)).bind fun t289 => (if t289 = true then (impl_BreaksAt.l0 k x0 (wrap64 (x3 + 1))) else (some x3))) else (none)) else (none)) else (none)) else (some (-1))
def impl_BreaksAt.f (k : Nat) (l0 : List (S34)) : Option (Int) := impl_BreaksAt.l0 k l0 1
theorem impl_BreaksAt.mono_l : ∀ k, (∀ y0 y1, LeO (impl_BreaksAt.l0 k y0 y1) (impl_BreaksAt.l0 (k + 1) y0 y1))
  | 0 => fun _ _ r h => by simp [impl_BreaksAt.l0] at h
  | k + 1 => by
    have ih0 := impl_BreaksAt.mono_l k
    · intro y0 y1
      unfold impl_BreaksAt.l0
      repeat' first
      | (with_reducible exact ih0 _ _)
      | (with_reducible exact impl_Follows.mono _ _ _ _ _ _ _)
      | (with_reducible exact LeO.refl _)
      | (with_reducible exact LeO.none _)
      | (with_reducible refine LeO.ite ?_ ?_)
      | (with_reducible refine LeO.bind ?_ (fun _ => ?_))
      | exact ih0 _ _
      | exact impl_Follows.mono _ _ _ _ _ _ _
      | exact LeO.none _
      | refine LeO.ite ?_ ?_
      | refine LeO.bind ?_ (fun _ => ?_)
theorem impl_BreaksAt.mono : ∀ a0 k, LeO (impl_BreaksAt.f k a0) (impl_BreaksAt.f (k + 1) a0) := by
  intro a0 k
  have ih0 := impl_BreaksAt.mono_l k
  unfold impl_BreaksAt.f
  repeat' first
      | (with_reducible exact ih0 _ _)
      | (with_reducible exact impl_Follows.mono _ _ _ _ _ _ _)
      | (with_reducible exact LeO.refl _)
      | (with_reducible exact LeO.none _)
      | (with_reducible refine LeO.ite ?_ ?_)
      | (with_reducible refine LeO.bind ?_ (fun _ => ?_))
      | exact ih0 _ _
      | exact impl_Follows.mono _ _ _ _ _ _ _
      | exact LeO.none _
      | refine LeO.ite ?_ ?_
      | refine LeO.bind ?_ (fun _ => ?_)
def impl_BreaksAt.T4 : Bool × List (List Nat × List Nat) := (true, [([], []), ([], []), ([0, 1], [0, 1]), ([2], [2]), ([], []), ([], []), ([5], [5]), ([4, 6], [4, 6]), ([7], [7]), ([3, 8], [3, 8]), ([9], [9])])
def impl_BreaksAt.B4 : List Nat := [0, 0, 3, 7, 0, 0, 32, 112, 240, 511, 1023]
theorem impl_BreaksAt.tab4 : rtab .any (opsOf Try.f29 4) = impl_BreaksAt.T4 := by kernel_rfl
theorem impl_BreaksAt.bits4 : waitsOk impl_BreaksAt.T4.2 impl_BreaksAt.B4 = true := by kernel_rfl
set_option maxHeartbeats 8000000 in
set_option maxRecDepth 100000 in
theorem impl_BreaksAt.calls (k : Nat) (A0 : Option Addr) (c0 : Nat) (l0 : List (S34)) (r : Int) (w : World) (hr0 : Kd.C k34 w A0 l0.length l0) (hc0 : l0.length ≤ c0) (h : impl_BreaksAt.f k l0 = some r) :
    Calls Try.prog 29 #[.slice A0 l0.length c0] w fun e w' => e = .returned (.int .i64 r) ∧ Below w.heap.size w w' := by
  have hu34 := Try.underlying34
  have HR0 := Aside0.mk hr0
  have HC0 := Aside0.mk hc0
  clear hr0 hc0
  have HB := Aside0.mk (Below.refl w.heap.size w)
  have H : (impl_BreaksAt.l0 k l0 1) = some r := h
  clear h
  have H' := Aside0.mk H
  clear H
  go_enter Try.func29, Try.ntmps29
  go_wp2
  go_loopg [3] k (fun kq v3 w' => ∃ (x3_1 : Int), v3 = .int .i64 x3_1 ∧ Aside0 (impl_BreaksAt.l0 kq l0 x3_1 = some r) ∧ Aside0 (kq ≤ k) ∧ Aside0 (Below w.heap.size w w'))
  case atStart => exact ⟨(1), el_, H', ⟨Nat.le_refl _⟩, ⟨pb_ HB.out⟩⟩
  clear H'
  obtain ⟨x3_1, rfl, HA, HK1, HB⟩ := hrel
  rcases gk with _ | k1
  · exact absurd HA.out (by simp [impl_BreaksAt.l0])
  have H := HA.out
  clear HA
  simp only [impl_BreaksAt.l0] at H
  by_cases c2 : x3_1 < (l0.length : Int)
  rotate_left
  · rw [if_neg c2] at H
    have c2b0 : decide (x3_1 < (l0.length : Int)) = false := decide_eq_false c2
    clear c2
    obtain rfl := Option.some.inj H
    go_wp2
    go_ret
    exact ⟨er_, pb_ HB.out⟩
  rw [if_pos c2] at H
  have c2b0 : decide (x3_1 < (l0.length : Int)) = true := decide_eq_true c2
  clear c2
  by_cases c3 : 0 ≤ x3_1
  rotate_left
  · rw [if_neg c3] at H
    exact absurd H (by simp)
  rw [if_pos c3] at H
  have c3b0 : decide (0 ≤ x3_1) = true := decide_eq_true c3
  clear c3
  obtain ⟨ji4, hji4⟩ : ∃ j_ : Int, (wrap64 (x3_1 - 1)) = j_ := ⟨_, rfl⟩
  replace H : (if 0 ≤ (ji4) then (if (ji4) < (l0.length : Int) then ((impl_Follows.f k1 ((rd_T34 l0 x3_1).f0) ((rd_T34 l0 x3_1).f1) ((rd_T34 l0 x3_1).f2) ((rd_T34 l0 (ji4)).f0) ((rd_T34 l0 (ji4)).f1) ((rd_T34 l0 (ji4)).f2)).bind fun t289 => (if t289 = true then (impl_BreaksAt.l0 k1 l0 (wrap64 (x3_1 + 1))) else (some x3_1))) else (none)) else (none)) = some r := by first | (rw [hji4] at H; exact H) | (simp only [hji4] at H ⊢; exact H)
  have hji4w : (IntKind.i64.wrap (x3_1 - 1)) = ji4 := (i64_w _).trans hji4
  by_cases c5 : 0 ≤ (ji4)
  rotate_left
  · rw [if_neg c5] at H
    exact absurd H (by simp)
  rw [if_pos c5] at H
  have c5b0 : decide (0 ≤ (ji4)) = true := decide_eq_true c5
  clear c5
  by_cases c6 : (ji4) < (l0.length : Int)
  rotate_left
  · rw [if_neg c6] at H
    exact absurd H (by simp)
  rw [if_pos c6] at H
  have c6b0 : decide ((ji4) < (l0.length : Int)) = true := decide_eq_true c6
  clear c6
  replace H := Option.bind_eq_some_iff.mp H
  obtain ⟨t289, A70, H⟩ := H
  (try dsimp only at H)
  have A7 := Aside0.mk A70
  clear A70
  have HS_ := Aside0.mk H
  clear H
  try go_wp2
  have _ := Aside0.mk (below_drew1 HB.out)
  clear HB
  rename_i HB
  have p287 : 0 ≤ (x3_1 : Int) := dt_
  have q287 : x3_1 < (l0.length : Int) := dt_
  obtain ⟨ad287, A287_1, c287_1, A287_2, c287_2, e287, hx287_0, hx287_1, hx287_2, hl287_1, hi287_1, hl287_2, hi287_2⟩ := at_T34 HR0.out x3_1 p287 q287
  have hw287_2 := hx287_2
  have hw287_1 := hx287_1
  have hw287_0 := hx287_0
  cases e287
  replace hx287_0 := bt_ HB hx287_0
  replace hx287_1 := bt_ HB hx287_1
  replace hx287_2 := bt_ HB hx287_2
  have HR287_1 := Aside0.mk hi287_1
  have HC287_1 := Aside0.mk hl287_1
  clear hi287_1 hl287_1
  have HR287_2 := Aside0.mk hi287_2
  have HC287_2 := Aside0.mk hl287_2
  clear hi287_2 hl287_2
  replace p287 := eq_true p287
  replace q287 := eq_true q287
  have p288 : 0 ≤ ((ji4) : Int) := dt_
  have q288 : (ji4) < (l0.length : Int) := dt_
  obtain ⟨ad288, A288_1, c288_1, A288_2, c288_2, e288, hx288_0, hx288_1, hx288_2, hl288_1, hi288_1, hl288_2, hi288_2⟩ := at_T34 HR0.out (ji4) p288 q288
  have hw288_2 := hx288_2
  have hw288_1 := hx288_1
  have hw288_0 := hx288_0
  obtain rfl : ad287 = ad288 := (by injection e288)
  replace hx288_0 := bt_ HB hx288_0
  replace hx288_1 := bt_ HB hx288_1
  replace hx288_2 := bt_ HB hx288_2
  have HR288_1 := Aside0.mk hi288_1
  have HC288_1 := Aside0.mk hl288_1
  clear hi288_1 hl288_1
  have HR288_2 := Aside0.mk hi288_2
  have HC288_2 := Aside0.mk hl288_2
  clear hi288_2 hl288_2
  replace p288 := eq_true p288
  replace q288 := eq_true q288
  refine start_ (n := 11) (S := fun w' => w'.cell? (ad287.add ((x3_1).toNat * 3)) = some (.int .i64 ((rd_T34 l0 x3_1).f0)) ∧ w'.cell? ⟨(ad287.add ((x3_1).toNat * 3)).block, (ad287.add ((x3_1).toNat * 3)).off + 1, none⟩ = some (.slice A287_1 ((rd_T34 l0 x3_1).f1).length c287_1) ∧ w'.cell? ⟨(ad287.add ((x3_1).toNat * 3)).block, (ad287.add ((x3_1).toNat * 3)).off + 2, none⟩ = some (.slice A287_2 ((rd_T34 l0 x3_1).f2).length c287_2) ∧ w'.cell? (ad287.add (((ji4)).toNat * 3)) = some (.int .i64 ((rd_T34 l0 (ji4)).f0)) ∧ w'.cell? ⟨(ad287.add (((ji4)).toNat * 3)).block, (ad287.add (((ji4)).toNat * 3)).off + 1, none⟩ = some (.slice A288_1 ((rd_T34 l0 (ji4)).f1).length c288_1) ∧ w'.cell? ⟨(ad287.add (((ji4)).toNat * 3)).block, (ad287.add (((ji4)).toNat * 3)).off + 2, none⟩ = some (.slice A288_2 ((rd_T34 l0 (ji4)).f2).length c288_2)) (ds := []) (tf_ 0 11) (by kernel_rfl) rfl rfl ⟨(bt_ HB hw287_0), (bt_ HB hw287_1), (bt_ HB hw287_2), (bt_ HB hw288_0), (bt_ HB hw288_1), (bt_ HB hw288_2)⟩ (fun hHeld => ?_); refine with_tabW impl_BreaksAt.tab4 impl_BreaksAt.bits4 (fun HT_ HW_ => ?_)
  generalize wr.drew = w8 at HB HR287_1 HR287_2 HR288_1 HR288_2 hx287_0 hx287_1 hx287_2 hx288_0 hx288_1 hx288_2 hHeld ⊢
  refine pu_ 0 (some 10) (tf_ 1 11) HT_ ?_
  refine pu_ 1 (some 11) (tf_ 2 11) HT_ ?_
  refine pu_ 2 (some 12) (tf_ 3 11) HT_ ?_
  refine pu_ 4 (some 14) (tm_ 11 23) HT_ ?_
  refine pu_ 5 (some 15) (tm_ 11 55) HT_ ?_
  refine pu_ 6 (some 16) (tm_ 11 119) HT_ ?_
  refine pu_ 7 (some 17) (tm_ 11 247) HT_ ?_
  refine ta_ 3 (some 13) (tf_ 8 11) HT_ HW_ hHeld ?_
  refine ta_ 8 (some 18) (tf_ 9 11) HT_ HW_ hHeld ?_
  refine on_ 9 (some 19) (tf_ 10 11) HT_ (fun K hK => ?_)
  refine goes_ Try.func48 (by kernel_rfl) rfl #[.agg #[.int .i64 ((rd_T34 l0 x3_1).f0), .slice A287_1 ((rd_T34 l0 x3_1).f1).length c287_1, .slice A287_2 ((rd_T34 l0 x3_1).f2).length c287_2], .agg #[.int .i64 ((rd_T34 l0 (ji4)).f0), .slice A288_1 ((rd_T34 l0 (ji4)).f1).length c288_1, .slice A288_2 ((rd_T34 l0 (ji4)).f2).length c288_2]] (by rfl) rfl rfl (by (try simp only [List.map_toArray, List.map_cons, List.map_nil]); first | done | (simp only [hji4]; rfl) | rfl | (simp only [List.length_drop, List.length_take]; rfl)) ?_
  with_reducible refine (impl_Follows.calls k1 ((rd_T34 l0 x3_1).f0) _ _ ((rd_T34 l0 x3_1).f1) _ _ ((rd_T34 l0 x3_1).f2) ((rd_T34 l0 (ji4)).f0) _ _ ((rd_T34 l0 (ji4)).f1) _ _ ((rd_T34 l0 (ji4)).f2) t289 _ ?side1 ?side2 ?side3 ?side4 ?side5 ?side6 ?side7 ?side8 A7.out).mono ?_
  (case side1 => exact cb_ HR287_1 HB)
  (case side2 => exact HC287_1.out)
  (case side3 => exact cb_ HR287_2 HB)
  (case side4 => exact HC287_2.out)
  (case side5 => exact cb_ HR288_1 HB)
  (case side6 => exact HC288_1.out)
  (case side7 => exact cb_ HR288_2 HB)
  (case side8 => exact HC288_2.out)
  rintro e w9 ⟨rfl, hb⟩
  refine ⟨_, rfl, ?_⟩
  have _ := Aside0.mk (below_step (pb_ HB.out) hb)
  clear HB
  rename_i HB
  (try clear hb)
  (try clear hb2)
  (try clear hk)
  (try clear hi)
  refine hK.out _ _ ⟨(bt_ HB hw287_0), (bt_ HB hw287_1), (bt_ HB hw287_2), (bt_ HB hw288_0), (bt_ HB hw288_1), (bt_ HB hw288_2)⟩ (fun hHeld => ?_)
  clear hK K
  refine no_ (some 19) ?_
  refine pu_ 10 (some 20) (tf_ 11 11) HT_ ?_
  refine done_ (done_of HT_.out (by kernel_rfl)) ?_
  go_upto_if 20 with (fail)
  have H := HS_.out
  clear HS_
  by_cases c10 : t289 = true
  rotate_left
  · replace c10 := Bool.eq_false_iff.mpr c10
    subst c10
    rw [if_neg (show ¬ (false = true) by decide)] at H
    obtain rfl := Option.some.inj H
    go_wp2
    go_ret
    exact ⟨by first | rfl | (simp [errW_none, errW_some] <;> rfl) | (simp only [← hji4]; first | rfl | (simp [errW_none, errW_some] <;> rfl)) | (simp [*, errW_none, errW_some] <;> rfl), pb_ HB.out⟩
  subst c10
  rw [if_pos rfl] at H
  have H' := Aside0.mk H
  clear H
  go_wp2
  go_roundg k1
  case measure => have := HK1.out; omega
  case rel => exact ⟨(wrap64 (x3_1 + 1)), el_, H', ⟨by have := HK1.out; omega⟩, ⟨pb_ HB.out⟩⟩

/-! ### spec_l1In: function 45 -/
def spec_l1In.f (a0 : Int) (a1 : Int) (a2 : Int) : Option (Bool) := if a0 ≥ a1 then (some (decide (a0 ≤ a2))) else (some false)
set_option maxHeartbeats 8000000 in
set_option maxRecDepth 100000 in
theorem spec_l1In.calls (a0 : Int) (a1 : Int) (a2 : Int) (r : Bool) (w : World) (h : spec_l1In.f a0 a1 a2 = some r) :
    Calls Try.prog 45 #[.int .i64 a0, .int .i64 a1, .int .i64 a2] w fun e w' => e = .returned (.bool r) ∧ Drawn0 w w' := by
  have H : (if a0 ≥ a1 then (some (decide (a0 ≤ a2))) else (some false)) = some r := h
  clear h
  by_cases c4 : a0 ≥ a1
  rotate_left
  · rw [if_neg c4] at H
    have c4b0 : decide (a1 ≤ a0) = false := decide_eq_false c4
    clear c4
    obtain rfl := Option.some.inj H
    go_enter Try.func45, Try.ntmps45
    go_wp2
    go_ret
    exact ⟨by first | rfl | (simp; done) | (simp [*]; done), by repeat (first | exact Drawn0.refl _ | apply Drawn0.step)⟩
  rw [if_pos c4] at H
  have c4b0 : decide (a1 ≤ a0) = true := decide_eq_true c4
  clear c4
  obtain rfl := Option.some.inj H
  go_enter Try.func45, Try.ntmps45
  go_wp2
  go_ret
  exact ⟨by first | rfl | (simp; done) | (simp [*]; done), by repeat (first | exact Drawn0.refl _ | apply Drawn0.step)⟩

/-! ### spec_MoveOf: function 68 -/
def spec_MoveOf.l0 : Nat → Int → Bool → Int → Int → Int → List Bool → List (S78) → Option (Int)
  | 0, _, _, _, _, _, _, _ => none
  | k + 1, x1, x2, x3, x9, x291000, x291001, x291002 => if x9 < (x291002.length : Int) then (if 0 ≤ x9 then (if ((rd_T78 x291002 x9).f0) = x1 then (if (((rd_T78 x291002 x9).f1) == x2) = true then (if ((rd_T78 x291002 x9).f2) = x3 then (some x9) else (spec_MoveOf.l0 k x1 x2 x3 (wrap64 (x9 + 1)) x291000 x291001 x291002)) else (spec_MoveOf.l0 k x1 x2 x3 (wrap64 (x9 + 1)) x291000 x291001 x291002)) else (spec_MoveOf.l0 k x1 x2 x3 (wrap64 (x9 + 1)) x291000 x291001 x291002)) else (none)) else (some (-1))
def spec_MoveOf.f (k : Nat) (a0_0 : Int) (l0_1 : List Bool) (l0_2 : List (S78)) (a1 : Int) (a2 : Bool) (a3 : Int) : Option (Int) := spec_MoveOf.l0 k a1 a2 a3 0 a0_0 l0_1 l0_2
theorem spec_MoveOf.mono_l : ∀ k, (∀ y0 y1 y2 y3 y4 y5 y6, LeO (spec_MoveOf.l0 k y0 y1 y2 y3 y4 y5 y6) (spec_MoveOf.l0 (k + 1) y0 y1 y2 y3 y4 y5 y6))
  | 0 => fun _ _ _ _ _ _ _ r h => by simp [spec_MoveOf.l0] at h
  | k + 1 => by
    have ih0 := spec_MoveOf.mono_l k
    · intro y0 y1 y2 y3 y4 y5 y6
      unfold spec_MoveOf.l0
      repeat' first
      | (with_reducible exact ih0 _ _ _ _ _ _ _)
      | (with_reducible exact LeO.refl _)
      | (with_reducible exact LeO.none _)
      | (with_reducible refine LeO.ite ?_ ?_)
      | (with_reducible refine LeO.bind ?_ (fun _ => ?_))
      | exact ih0 _ _ _ _ _ _ _
      | exact LeO.none _
      | refine LeO.ite ?_ ?_
      | refine LeO.bind ?_ (fun _ => ?_)
theorem spec_MoveOf.mono : ∀ a0 a1 a2 a3 a4 a5 k, LeO (spec_MoveOf.f k a0 a1 a2 a3 a4 a5) (spec_MoveOf.f (k + 1) a0 a1 a2 a3 a4 a5) := by
  intro a0 a1 a2 a3 a4 a5 k
  have ih0 := spec_MoveOf.mono_l k
  unfold spec_MoveOf.f
  repeat' first
      | (with_reducible exact ih0 _ _ _ _ _ _ _)
      | (with_reducible exact LeO.refl _)
      | (with_reducible exact LeO.none _)
      | (with_reducible refine LeO.ite ?_ ?_)
      | (with_reducible refine LeO.bind ?_ (fun _ => ?_))
      | exact ih0 _ _ _ _ _ _ _
      | exact LeO.none _
      | refine LeO.ite ?_ ?_
      | refine LeO.bind ?_ (fun _ => ?_)
set_option maxHeartbeats 8000000 in
set_option maxRecDepth 100000 in
theorem spec_MoveOf.calls (k : Nat) (a0_0 : Int) (A0_1 : Option Addr) (c0_1 : Nat) (l0_1 : List Bool) (A0_2 : Option Addr) (c0_2 : Nat) (l0_2 : List (S78)) (a1 : Int) (a2 : Bool) (a3 : Int) (r : Int) (w : World) (hr0_1 : Kd.C Kd.bool w A0_1 l0_1.length l0_1) (hc0_1 : l0_1.length ≤ c0_1) (hr0_2 : Kd.C k78 w A0_2 l0_2.length l0_2) (hc0_2 : l0_2.length ≤ c0_2) (h : spec_MoveOf.f k a0_0 l0_1 l0_2 a1 a2 a3 = some r) :
    Calls Try.prog 68 #[.agg #[.int .i64 a0_0, .slice A0_1 l0_1.length c0_1, .slice A0_2 l0_2.length c0_2], .int .i64 a1, .bool a2, .int .i64 a3] w fun e w' => e = .returned (.int .i64 r) ∧ Below w.heap.size w w' := by
  have hu34 := Try.underlying34
  have hu78 := Try.underlying78
  have HR0_1 := Aside0.mk hr0_1
  have HC0_1 := Aside0.mk hc0_1
  clear hr0_1 hc0_1
  have HR0_2 := Aside0.mk hr0_2
  have HC0_2 := Aside0.mk hc0_2
  clear hr0_2 hc0_2
  have HB := Aside0.mk (Below.refl w.heap.size w)
  have H : (spec_MoveOf.l0 k a1 a2 a3 0 a0_0 l0_1 l0_2) = some r := h
  clear h
  have H' := Aside0.mk H
  clear H
  go_enter Try.func68, Try.ntmps68
  go_wp2_with (first | ((with_reducible refine gate_dst (N := 4) rfl ?_); refine box_event ?hg (N := 4) ?hd (cs := #[.int .i64 a0_0, .slice A0_1 l0_1.length c0_1, .slice A0_2 l0_2.length c0_2]) (t := 34) ?hr ?_; (case hd => rfl); (case hg => rfl); (case hr => first | (go_simp; done) | (go_simp; rfl)); intro gb290 hg w5 hbox hb; have n0_ := Aside0.mk (below_step (pb_ HB.out) hb); have n1_ := Aside0.mk (hbox); have n2_ := Aside0.mk ((by rw [hg]; exact (below_size (pb_ HB.out)) : w.heap.size ≤ gb290)); have n3_ := Aside0.mk ((by rw [hg]; exact (below_size (pb_ HB.out)) : w.heap.size ≤ gb290)); clear HB; have HB := n0_; have BK290 := n1_; have GW290 := n2_; have GE290 := n3_; clear n0_ n1_ n2_ n3_; clear hb hbox hg))
  (try simp only [Act.put, List.setIfInBounds_toArray, List.set_cons_zero, List.set_cons_succ])
  go_loopg [9] k (fun kq v9 w' => ∃ (x9_1 : Int), v9 = .int .i64 x9_1 ∧ Aside0 (spec_MoveOf.l0 kq a1 a2 a3 x9_1 a0_0 l0_1 l0_2 = some r) ∧ Aside0 (kq ≤ k) ∧ Aside0 (w'.heap[gb290]? = some (.cells #[.int .i64 a0_0, (.slice A0_1 l0_1.length c0_1), (.slice A0_2 l0_2.length c0_2)] 34 (0, 0))) ∧ Aside0 (Below w.heap.size w w'))
  case atStart => exact ⟨(0), el_, H', ⟨Nat.le_refl _⟩, ⟨pk_ BK290.out⟩, ⟨pb1_ HB.out GE290.out⟩⟩
  clear H'
  try clear p2
  obtain ⟨x9_1, rfl, HA, HK1, BK290, HB⟩ := hrel
  rcases gk with _ | k1
  · exact absurd HA.out (by simp [spec_MoveOf.l0])
  have H := HA.out
  clear HA
  simp only [spec_MoveOf.l0] at H
  by_cases c6 : x9_1 < (l0_2.length : Int)
  rotate_left
  · rw [if_neg c6] at H
    have c6b0 : decide (x9_1 < (l0_2.length : Int)) = false := decide_eq_false c6
    clear c6
    obtain rfl := Option.some.inj H
    obtain ⟨hcz7_0, hcz7_1, hcz7_2, hfz7_0, hfz7_1, hfz7_2⟩ := bc3_ BK290.out
    go_wp2
    go_ret
    exact ⟨er_, pb1_ HB.out GE290.out⟩
  rw [if_pos c6] at H
  have c6b0 : decide (x9_1 < (l0_2.length : Int)) = true := decide_eq_true c6
  clear c6
  by_cases c8 : 0 ≤ x9_1
  rotate_left
  · rw [if_neg c8] at H
    exact absurd H (by simp)
  rw [if_pos c8] at H
  have c8b0 : decide (0 ≤ x9_1) = true := decide_eq_true c8
  clear c8
  have HS_ := Aside0.mk H
  clear H
  obtain ⟨hcz9_0, hcz9_1, hcz9_2, hfz9_0, hfz9_1, hfz9_2⟩ := bc3_ BK290.out
  have p291 : 0 ≤ (x9_1 : Int) := dt_
  have q291 : x9_1 < (l0_2.length : Int) := dt_
  obtain ⟨ad291, e291, hx291_0, hx291_1, hx291_2, hx291_3⟩ := at_T78 HR0_2.out x9_1 p291 q291
  cases e291
  replace hx291_0 := bt_ HB hx291_0
  replace hx291_1 := bt_ HB hx291_1
  replace hx291_2 := bt_ HB hx291_2
  replace hx291_3 := bt_ HB hx291_3
  replace p291 := eq_true p291
  replace q291 := eq_true q291
  go_upto_region 5 with (first | ((with_reducible refine gate_dst (N := 10) rfl ?_); refine box_event ?hg (N := 10) ?hd (cs := #[.int .i64 0, .bool false, .int .i64 0, .int .i64 0]) (t := 78) ?hr ?_; (case hd => rfl); (case hg => rfl); (case hr => first | (go_simp; done) | (go_simp; rfl)); intro gb292 hg w10 hbox hb; have n0_ := Aside0.mk (bb_ BK290.out hb); have n1_ := Aside0.mk (below_step (pb1_ HB.out GE290.out) hb); have n2_ := Aside0.mk (hbox); have n3_ := Aside0.mk ((by rw [hg]; exact (below_size (pb1_ HB.out GE290.out)) : w.heap.size ≤ gb292)); have n4_ := Aside0.mk ((by rw [hg]; exact (below_size (pb1_ HB.out GE290.out)) : w.heap.size ≤ gb292)); have n5_ := Aside0.mk ((by rw [hg]; exact Nat.ne_of_lt (blk_lt (pk_ BK290.out)) : gb290 ≠ gb292)); have n6_ := Aside0.mk ((by rw [hg]; exact Nat.ne_of_gt (blk_lt (pk_ BK290.out)) : gb292 ≠ gb290)); clear BK290; clear HB; have BK290 := n0_; have HB := n1_; have BK292 := n2_; have GW292 := n3_; have GE292 := n4_; have NB290_292 := n5_; have NB292_290 := n6_; clear n0_ n1_ n2_ n3_ n4_ n5_ n6_; clear hb hbox hg; have hnb11 := NB292_290.out; have hnc11 := NB290_292.out; obtain ⟨hcz12_0, hcz12_1, hcz12_2, hcz12_3, hfz12_0, hfz12_1, hfz12_2, hfz12_3⟩ := bc4_ BK292.out))
  (try simp only [Act.put, List.setIfInBounds_toArray, List.set_cons_zero, List.set_cons_succ])
  have H := HS_.out
  clear HS_
  by_cases c13 : ((rd_T78 l0_2 x9_1).f0) = a1
  rotate_left
  · rw [if_neg c13] at H
    have c13b0 : (((rd_T78 l0_2 x9_1).f0) == a1) = false := beq_eq_false_iff_ne.mpr c13
    have c13b1 : (((rd_T78 l0_2 x9_1).f0) != a1) = true := bne_iff_ne.mpr c13
    (first | rw [c13b0] | (simp only [i64_w, i32_w]; rw [c13b0]) | rw [c13b1] | (have c_ := c13b1; rw [bne] at c_; rw [c_]; clear c_) | skip)
    have H' := Aside0.mk H
    clear H
    have hnb14 := NB292_290.out
    have hnc14 := NB290_292.out
    obtain ⟨hcz15_0, hcz15_1, hcz15_2, hcz15_3, hfz15_0, hfz15_1, hfz15_2, hfz15_3⟩ := bc4_ BK292.out
    go_wp2
    go_roundg k1
    case measure => have := HK1.out; omega
    case rel => exact ⟨(wrap64 (x9_1 + 1)), el_, H', ⟨by have := HK1.out; omega⟩, ⟨pp_ BK290.out⟩, ⟨pb2_ HB.out GE290.out GE292.out⟩⟩
  rw [if_pos c13] at H
  have c13b0 : (((rd_T78 l0_2 x9_1).f0) == a1) = true := beq_iff_eq.mpr c13
  have c13b1 : (((rd_T78 l0_2 x9_1).f0) != a1) = false := bne_eq_false_iff_eq.mpr c13
  clear c13
  (first | rw [c13b0] | (simp only [i64_w, i32_w]; rw [c13b0]) | rw [c13b1] | (have c_ := c13b1; rw [bne] at c_; rw [c_]; clear c_) | skip)
  by_cases c16 : (((rd_T78 l0_2 x9_1).f1) == a2) = true
  rotate_left
  · rw [if_neg c16] at H
    have c16b0 : (((rd_T78 l0_2 x9_1).f1) == a2) = false := by simpa using c16
    (try (have c16b1 : decide (((rd_T78 l0_2 x9_1).f1) = a2) = false := by simpa using c16))
    (try (have c16b2 : (((rd_T78 l0_2 x9_1).f1) == a2) = false := by simpa using c16))
    (try (have c16b3 : ¬ (((rd_T78 l0_2 x9_1).f1) = a2) := by simpa using c16))
    clear c16
    have H' := Aside0.mk H
    clear H
    have hnb17 := NB292_290.out
    have hnc17 := NB290_292.out
    obtain ⟨hcz18_0, hcz18_1, hcz18_2, hcz18_3, hfz18_0, hfz18_1, hfz18_2, hfz18_3⟩ := bc4_ BK292.out
    go_wp2
    go_roundg k1
    case measure => have := HK1.out; omega
    case rel => exact ⟨(wrap64 (x9_1 + 1)), el_, H', ⟨by have := HK1.out; omega⟩, ⟨pp_ BK290.out⟩, ⟨pb2_ HB.out GE290.out GE292.out⟩⟩
  rw [if_pos c16] at H
  have c16b0 : (((rd_T78 l0_2 x9_1).f1) == a2) = true := c16
  (try (have c16b1 : decide (((rd_T78 l0_2 x9_1).f1) = a2) = true := by simpa using c16))
  (try (have c16b2 : (((rd_T78 l0_2 x9_1).f1) == a2) = true := by simpa using c16))
  clear c16
  by_cases c19 : ((rd_T78 l0_2 x9_1).f2) = a3
  rotate_left
  · rw [if_neg c19] at H
    have c19b0 : (((rd_T78 l0_2 x9_1).f2) == a3) = false := beq_eq_false_iff_ne.mpr c19
    have c19b1 : (((rd_T78 l0_2 x9_1).f2) != a3) = true := bne_iff_ne.mpr c19
    have H' := Aside0.mk H
    clear H
    have hnb20 := NB292_290.out
    have hnc20 := NB290_292.out
    obtain ⟨hcz21_0, hcz21_1, hcz21_2, hcz21_3, hfz21_0, hfz21_1, hfz21_2, hfz21_3⟩ := bc4_ BK292.out
    go_wp2
    go_roundg k1
    case measure => have := HK1.out; omega
    case rel => exact ⟨(wrap64 (x9_1 + 1)), el_, H', ⟨by have := HK1.out; omega⟩, ⟨pp_ BK290.out⟩, ⟨pb2_ HB.out GE290.out GE292.out⟩⟩
  rw [if_pos c19] at H
  have c19b0 : (((rd_T78 l0_2 x9_1).f2) == a3) = true := beq_iff_eq.mpr c19
  have c19b1 : (((rd_T78 l0_2 x9_1).f2) != a3) = false := bne_eq_false_iff_eq.mpr c19
  clear c19
  obtain rfl := Option.some.inj H
  have hnb22 := NB292_290.out
  have hnc22 := NB290_292.out
  obtain ⟨hcz23_0, hcz23_1, hcz23_2, hcz23_3, hfz23_0, hfz23_1, hfz23_2, hfz23_3⟩ := bc4_ BK292.out
  go_wp2
  go_ret
  exact ⟨er_, pb2_ HB.out GE290.out GE292.out⟩

end Go.Proofs.Ytldcchjbaglppaa.Print
