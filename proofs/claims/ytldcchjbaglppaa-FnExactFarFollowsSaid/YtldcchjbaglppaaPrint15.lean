-- Written by a program of this session (printx.py) out of the translation; Lean checks it.
import Derived.Test.YtldcchjbaglppaaPrint0
import Derived.Test.YtldcchjbaglppaaPrint12
import Derived.Test.YtldcchjbaglppaaPrint13
import Derived.Test.YtldcchjbaglppaaPrint14
namespace Go.Proofs.Ytldcchjbaglppaa.Print
open Go.RowKit Go.Proofs.YtldcchjbaglppaaW.PrintWords Go.Proofs.YtldcchjbaglppaaW.PrintLast Go.Proofs.YtldcchjbaglppaaW.PrintMore Go.Proofs.Ytldcchjbaglppaa.Short
attribute [local go_sem] max2_int min2_int max_two min_two max_three min_three max_four min_four   -- for this text's walks alone
set_option linter.unusedVariables false
set_option linter.unusedSimpArgs false

/-! ### spec_Follows: function 46 -/
mutual
def spec_Follows.j0 : Nat → Bool → Int → List Bool → List (S78) → Int → List Bool → List (S78) → Option (Bool)
  | 0, _, _, _, _, _, _, _ => none
  | k + 1, x14, x421000, x421001, x421002, x422000, x422001, x422002 => if x14 = true then (some false) else ((spec_FollowPairs.f k x421000 x421001 x421002 x422000 x422001 x422002).bind fun t424 => (spec_Follows.l0 k t424 0 x421000 x421001 x421002 x422000 x422001 x422002))
def spec_Follows.l0 : Nat → List (List Int) → Int → Int → List Bool → List (S78) → Int → List Bool → List (S78) → Option (Bool)
  | 0, _, _, _, _, _, _, _, _ => none
  | k + 1, x5, x6, x421000, x421001, x421002, x422000, x422001, x422002 => if x6 < (x5.length : Int) then (if 0 ≤ x6 then (if 0 < ((rd_L9 x5 x6).length : Int) then (if 1 < ((rd_L9 x5 x6).length : Int) then ((spec_FollowsAt.f k x421000 x421001 x421002 x422000 x422001 x422002 (rd (rd_L9 x5 x6) 0) (rd (rd_L9 x5 x6) 1)).bind fun t431 => (if t431 = true then (spec_Follows.l0 k x5 (wrap64 (x6 + 1)) x421000 x421001 x421002 x422000 x422001 x422002) else (some false))) else (none)) else (none)) else (none)) else (some true)
end
def spec_Follows.f (k : Nat) (a0_0 : Int) (l0_1 : List Bool) (l0_2 : List (S78)) (a1_0 : Int) (l1_1 : List Bool) (l1_2 : List (S78)) : Option (Bool) := (spec_IsMachine.f k a0_0 l0_1 l0_2).bind fun t422 => (if t422 = true then ((spec_IsMachine.f k a1_0 l1_1 l1_2).bind fun t423 => (spec_Follows.j0 k (!t423) a0_0 l0_1 l0_2 a1_0 l1_1 l1_2)) else (spec_Follows.j0 k true a0_0 l0_1 l0_2 a1_0 l1_1 l1_2))
theorem spec_Follows.mono_l : ∀ k, (∀ y0 y1 y2 y3 y4 y5 y6, LeO (spec_Follows.j0 k y0 y1 y2 y3 y4 y5 y6) (spec_Follows.j0 (k + 1) y0 y1 y2 y3 y4 y5 y6)) ∧ (∀ y0 y1 y2 y3 y4 y5 y6 y7, LeO (spec_Follows.l0 k y0 y1 y2 y3 y4 y5 y6 y7) (spec_Follows.l0 (k + 1) y0 y1 y2 y3 y4 y5 y6 y7))
  | 0 => ⟨fun _ _ _ _ _ _ _ r h => by simp [spec_Follows.j0] at h, fun _ _ _ _ _ _ _ _ r h => by simp [spec_Follows.l0] at h⟩
  | k + 1 => by
    obtain ⟨ih0, ih1⟩ := spec_Follows.mono_l k
    refine ⟨?_, ?_⟩
    · intro y0 y1 y2 y3 y4 y5 y6
      unfold spec_Follows.j0
      repeat' first
      | (with_reducible exact ih0 _ _ _ _ _ _ _)
      | (with_reducible exact ih1 _ _ _ _ _ _ _ _)
      | (with_reducible exact spec_FollowPairs.mono _ _ _ _ _ _ _)
      | (with_reducible exact spec_FollowsAt.mono _ _ _ _ _ _ _ _ _)
      | (with_reducible exact spec_IsMachine.mono _ _ _ _)
      | (with_reducible exact LeO.refl _)
      | (with_reducible exact LeO.none _)
      | (with_reducible refine LeO.ite ?_ ?_)
      | (with_reducible refine LeO.bind ?_ (fun _ => ?_))
      | exact ih0 _ _ _ _ _ _ _
      | exact ih1 _ _ _ _ _ _ _ _
      | exact spec_FollowPairs.mono _ _ _ _ _ _ _
      | exact spec_FollowsAt.mono _ _ _ _ _ _ _ _ _
      | exact spec_IsMachine.mono _ _ _ _
      | exact LeO.none _
      | refine LeO.ite ?_ ?_
      | refine LeO.bind ?_ (fun _ => ?_)
    · intro y0 y1 y2 y3 y4 y5 y6 y7
      unfold spec_Follows.l0
      repeat' first
      | (with_reducible exact ih0 _ _ _ _ _ _ _)
      | (with_reducible exact ih1 _ _ _ _ _ _ _ _)
      | (with_reducible exact spec_FollowPairs.mono _ _ _ _ _ _ _)
      | (with_reducible exact spec_FollowsAt.mono _ _ _ _ _ _ _ _ _)
      | (with_reducible exact spec_IsMachine.mono _ _ _ _)
      | (with_reducible exact LeO.refl _)
      | (with_reducible exact LeO.none _)
      | (with_reducible refine LeO.ite ?_ ?_)
      | (with_reducible refine LeO.bind ?_ (fun _ => ?_))
      | exact ih0 _ _ _ _ _ _ _
      | exact ih1 _ _ _ _ _ _ _ _
      | exact spec_FollowPairs.mono _ _ _ _ _ _ _
      | exact spec_FollowsAt.mono _ _ _ _ _ _ _ _ _
      | exact spec_IsMachine.mono _ _ _ _
      | exact LeO.none _
      | refine LeO.ite ?_ ?_
      | refine LeO.bind ?_ (fun _ => ?_)
theorem spec_Follows.mono : ∀ a0 a1 a2 a3 a4 a5 k, LeO (spec_Follows.f k a0 a1 a2 a3 a4 a5) (spec_Follows.f (k + 1) a0 a1 a2 a3 a4 a5) := by
  intro a0 a1 a2 a3 a4 a5 k
  obtain ⟨ih0, ih1⟩ := spec_Follows.mono_l k
  unfold spec_Follows.f
  repeat' first
      | (with_reducible exact ih0 _ _ _ _ _ _ _)
      | (with_reducible exact ih1 _ _ _ _ _ _ _ _)
      | (with_reducible exact spec_FollowPairs.mono _ _ _ _ _ _ _)
      | (with_reducible exact spec_FollowsAt.mono _ _ _ _ _ _ _ _ _)
      | (with_reducible exact spec_IsMachine.mono _ _ _ _)
      | (with_reducible exact LeO.refl _)
      | (with_reducible exact LeO.none _)
      | (with_reducible refine LeO.ite ?_ ?_)
      | (with_reducible refine LeO.bind ?_ (fun _ => ?_))
      | exact ih0 _ _ _ _ _ _ _
      | exact ih1 _ _ _ _ _ _ _ _
      | exact spec_FollowPairs.mono _ _ _ _ _ _ _
      | exact spec_FollowsAt.mono _ _ _ _ _ _ _ _ _
      | exact spec_IsMachine.mono _ _ _ _
      | exact LeO.none _
      | refine LeO.ite ?_ ?_
      | refine LeO.bind ?_ (fun _ => ?_)
def spec_Follows.T7 : Bool × List (List Nat × List Nat) := (true, [([], []), ([], []), ([], []), ([], []), ([2, 3], [2, 3]), ([4], [4]), ([5], [5]), ([6], [6]), ([], []), ([], []), ([8, 9], [8, 9]), ([10], [10]), ([11], [11]), ([12], [12]), ([0, 1, 7, 13], [0, 1, 7, 13]), ([14], [14])])
def spec_Follows.B7 : List Nat := [0, 0, 0, 0, 12, 28, 60, 124, 0, 0, 768, 1792, 3840, 7936, 16383, 32767]
theorem spec_Follows.tab7 : rtab .any (opsOf Try.f46 7) = spec_Follows.T7 := by kernel_rfl
theorem spec_Follows.bits7 : waitsOk spec_Follows.T7.2 spec_Follows.B7 = true := by kernel_rfl
set_option maxHeartbeats 8000000 in
set_option maxRecDepth 100000 in
theorem spec_Follows.calls (k : Nat) (a0_0 : Int) (A0_1 : Option Addr) (c0_1 : Nat) (l0_1 : List Bool) (A0_2 : Option Addr) (c0_2 : Nat) (l0_2 : List (S78)) (a1_0 : Int) (A1_1 : Option Addr) (c1_1 : Nat) (l1_1 : List Bool) (A1_2 : Option Addr) (c1_2 : Nat) (l1_2 : List (S78)) (r : Bool) (w : World) (hr0_1 : Kd.C Kd.bool w A0_1 l0_1.length l0_1) (hc0_1 : l0_1.length ≤ c0_1) (hr0_2 : Kd.C k78 w A0_2 l0_2.length l0_2) (hc0_2 : l0_2.length ≤ c0_2) (hr1_1 : Kd.C Kd.bool w A1_1 l1_1.length l1_1) (hc1_1 : l1_1.length ≤ c1_1) (hr1_2 : Kd.C k78 w A1_2 l1_2.length l1_2) (hc1_2 : l1_2.length ≤ c1_2) (h : spec_Follows.f k a0_0 l0_1 l0_2 a1_0 l1_1 l1_2 = some r) :
    Calls Try.prog 46 #[.agg #[.int .i64 a0_0, .slice A0_1 l0_1.length c0_1, .slice A0_2 l0_2.length c0_2], .agg #[.int .i64 a1_0, .slice A1_1 l1_1.length c1_1, .slice A1_2 l1_2.length c1_2]] w fun e w' => e = .returned (.bool r) ∧ Below w.heap.size w w' := by
  have hu34 := Try.underlying34
  have HR0_1 := Aside0.mk hr0_1
  have HC0_1 := Aside0.mk hc0_1
  clear hr0_1 hc0_1
  have HR0_2 := Aside0.mk hr0_2
  have HC0_2 := Aside0.mk hc0_2
  clear hr0_2 hc0_2
  have HR1_1 := Aside0.mk hr1_1
  have HC1_1 := Aside0.mk hc1_1
  clear hr1_1 hc1_1
  have HR1_2 := Aside0.mk hr1_2
  have HC1_2 := Aside0.mk hc1_2
  clear hr1_2 hc1_2
  have HB := Aside0.mk (Below.refl w.heap.size w)
  have H : ((spec_IsMachine.f k a0_0 l0_1 l0_2).bind fun t422 => (if t422 = true then ((spec_IsMachine.f k a1_0 l1_1 l1_2).bind fun t423 => (spec_Follows.j0 k (!t423) a0_0 l0_1 l0_2 a1_0 l1_1 l1_2)) else (spec_Follows.j0 k true a0_0 l0_1 l0_2 a1_0 l1_1 l1_2))) = some r := h
  clear h
  have HC3 := Aside0.mk H
  clear H
  go_enter Try.func46, Try.ntmps46
  go_upto_region 1 with (first | ((with_reducible refine gate_dst (N := 2) rfl ?_); refine box_event ?hg (N := 2) ?hd (cs := #[.int .i64 a0_0, .slice A0_1 l0_1.length c0_1, .slice A0_2 l0_2.length c0_2]) (t := 34) ?hr ?_; (case hd => rfl); (case hg => rfl); (case hr => first | (go_simp; done) | (go_simp; rfl)); intro gb420 hg w4 hbox hb; have n0_ := Aside0.mk (below_step (pb_ HB.out) hb); have n1_ := Aside0.mk (hbox); have n2_ := Aside0.mk ((by rw [hg]; exact (below_size (pb_ HB.out)) : w.heap.size ≤ gb420)); have n3_ := Aside0.mk ((by rw [hg]; exact (below_size (pb_ HB.out)) : w.heap.size ≤ gb420)); clear HB; have HB := n0_; have BK420 := n1_; have GW420 := n2_; have GE420 := n3_; clear n0_ n1_ n2_ n3_; clear hb hbox hg) | ((with_reducible refine gate_dst (N := 3) rfl ?_); refine box_event ?hg (N := 3) ?hd (cs := #[.int .i64 a1_0, .slice A1_1 l1_1.length c1_1, .slice A1_2 l1_2.length c1_2]) (t := 34) ?hr ?_; (case hd => rfl); (case hg => rfl); (case hr => first | (go_simp; done) | (go_simp; rfl)); intro gb421 hg w5 hbox hb; have n0_ := Aside0.mk (bb_ BK420.out hb); have n1_ := Aside0.mk (below_step (pb1_ HB.out GE420.out) hb); have n2_ := Aside0.mk (hbox); have n3_ := Aside0.mk ((by rw [hg]; exact (below_size (pb1_ HB.out GE420.out)) : w.heap.size ≤ gb421)); have n4_ := Aside0.mk ((by rw [hg]; exact (below_size (pb1_ HB.out GE420.out)) : w.heap.size ≤ gb421)); have n5_ := Aside0.mk ((by rw [hg]; exact Nat.ne_of_lt (blk_lt (pk_ BK420.out)) : gb420 ≠ gb421)); have n6_ := Aside0.mk ((by rw [hg]; exact Nat.ne_of_gt (blk_lt (pk_ BK420.out)) : gb421 ≠ gb420)); clear BK420; clear HB; have BK420 := n0_; have HB := n1_; have BK421 := n2_; have GW421 := n3_; have GE421 := n4_; have NB420_421 := n5_; have NB421_420 := n6_; clear n0_ n1_ n2_ n3_ n4_ n5_ n6_; clear hb hbox hg))
  (try simp only [Act.put, List.setIfInBounds_toArray, List.set_cons_zero, List.set_cons_succ])
  go_cut [14] (fun v14 wc => ∃ (kq : Nat) (x14_2 : Bool), v14 = .bool x14_2 ∧ Aside0 (spec_Follows.j0 kq x14_2 a0_0 l0_1 l0_2 a1_0 l1_1 l1_2 = some r) ∧ Aside0 (kq ≤ k) ∧ Aside0 (wc.heap[gb420]? = some (.cells #[.int .i64 a0_0, (.slice A0_1 l0_1.length c0_1), (.slice A0_2 l0_2.length c0_2)] 34 (0, 0))) ∧ Aside0 (wc.heap[gb421]? = some (.cells #[.int .i64 a1_0, (.slice A1_1 l1_1.length c1_1), (.slice A1_2 l1_2.length c1_2)] 34 (0, 0))) ∧ Aside0 (Below w.heap.size w wc))
  case first =>
    have H := HC3.out
    clear HC3
    replace H := Option.bind_eq_some_iff.mp H
    obtain ⟨t422, A60, H⟩ := H
    (try dsimp only at H)
    have A6 := Aside0.mk A60
    clear A60
    by_cases c7 : t422 = true
    rotate_left
    · replace c7 := Bool.eq_false_iff.mpr c7
      subst c7
      rw [if_neg (show ¬ (false = true) by decide)] at H
      have H' := Aside0.mk H
      clear H
      have hnb8 := NB420_421.out
      have hnc8 := NB421_420.out
      obtain ⟨hcz9_0, hcz9_1, hcz9_2, hfz9_0, hfz9_1, hfz9_2⟩ := bc3_ BK420.out
      go_wp2_with (first | ((with_reducible refine gate_callee (f := 59) rfl ?_); refine gl_ (some 8) Try.func59 #[.agg #[.int .i64 a0_0, .slice A0_1 l0_1.length c0_1, .slice A0_2 l0_2.length c0_2]] ?_; (with_reducible refine (spec_IsMachine.calls k a0_0 _ _ l0_1 _ _ l0_2 false _ ?side1 ?side2 ?side3 ?side4 A6.out).mono ?_); (case side1 => exact cb_ HR0_1 HB); (case side2 => exact HC0_1.out); (case side3 => exact cb_ HR0_2 HB); (case side4 => exact HC0_2.out); rintro e w10 ⟨rfl, hb⟩; refine ⟨_, rfl, ?_⟩; have _ := Aside0.mk (bb_ BK420.out hb); have _ := Aside0.mk (bb_ BK421.out hb); have _ := Aside0.mk (below_step (pb2_ HB.out GE420.out GE421.out) hb); clear BK420 BK421 HB; rename_i BK420 BK421 HB; (try clear hb); (try clear hb2); (try clear hk); (try clear hi)))
      go_meet
      case rel => exact ⟨_, (true), el_, H', ⟨by first | omega | exact Nat.le_refl _⟩, ⟨pk_ BK420.out⟩, ⟨pk_ BK421.out⟩, ⟨pb2_ HB.out GE420.out GE421.out⟩⟩
    subst c7
    rw [if_pos rfl] at H
    replace H := Option.bind_eq_some_iff.mp H
    obtain ⟨t423, A110, H⟩ := H
    replace H : (spec_Follows.j0 k (!t423) a0_0 l0_1 l0_2 a1_0 l1_1 l1_2) = some r := H
    have A11 := Aside0.mk A110
    clear A110
    have H' := Aside0.mk H
    clear H
    have hnb12 := NB420_421.out
    have hnc12 := NB421_420.out
    obtain ⟨hcz13_0, hcz13_1, hcz13_2, hfz13_0, hfz13_1, hfz13_2⟩ := bc3_ BK420.out
    go_wp2_with (first | ((with_reducible refine gate_callee (f := 59) rfl ?_); refine gl_ (some 8) Try.func59 #[.agg #[.int .i64 a0_0, .slice A0_1 l0_1.length c0_1, .slice A0_2 l0_2.length c0_2]] ?_; (with_reducible refine (spec_IsMachine.calls k a0_0 _ _ l0_1 _ _ l0_2 true _ ?side1 ?side2 ?side3 ?side4 A6.out).mono ?_); (case side1 => exact cb_ HR0_1 HB); (case side2 => exact HC0_1.out); (case side3 => exact cb_ HR0_2 HB); (case side4 => exact HC0_2.out); rintro e w14 ⟨rfl, hb⟩; refine ⟨_, rfl, ?_⟩; have _ := Aside0.mk (bb_ BK420.out hb); have _ := Aside0.mk (bb_ BK421.out hb); have _ := Aside0.mk (below_step (pb2_ HB.out GE420.out GE421.out) hb); clear BK420 BK421 HB; rename_i BK420 BK421 HB; (try clear hb); (try clear hb2); (try clear hk); (try clear hi); obtain ⟨hcz15_0, hcz15_1, hcz15_2, hfz15_0, hfz15_1, hfz15_2⟩ := bc3_ BK421.out) | (go_at_call 59; (with_reducible refine (spec_IsMachine.calls k a1_0 _ _ l1_1 _ _ l1_2 t423 _ ?side1 ?side2 ?side3 ?side4 A11.out).mono ?_); (case side1 => exact cb_ HR1_1 HB); (case side2 => exact HC1_1.out); (case side3 => exact cb_ HR1_2 HB); (case side4 => exact HC1_2.out); rintro e w16 ⟨rfl, hb⟩; have _ := Aside0.mk (bb_ BK420.out hb); have _ := Aside0.mk (bb_ BK421.out hb); have _ := Aside0.mk (below_step (pb2_ HB.out GE420.out GE421.out) hb); clear BK420 BK421 HB; rename_i BK420 BK421 HB; (try clear hb); (try clear hb2); (try clear hk); (try clear hi)))
    go_meet
    case rel => exact ⟨_, (!t423), el_, H', ⟨by first | omega | exact Nat.le_refl _⟩, ⟨pk_ BK420.out⟩, ⟨pk_ BK421.out⟩, ⟨pb2_ HB.out GE420.out GE421.out⟩⟩
  clear HC3
  try clear c1
  try clear p2
  try clear c4
  try clear c5
  try clear c7
  try clear c8
  try clear c12
  try clear hcz13_0
  try clear hcz13_1
  try clear hcz13_2
  try clear hcz15_0
  try clear hcz15_1
  try clear hcz15_2
  try clear hcz9_0
  try clear hcz9_1
  try clear hcz9_2
  try clear hfz13_0
  try clear hfz13_1
  try clear hfz13_2
  try clear hfz15_0
  try clear hfz15_1
  try clear hfz15_2
  try clear hfz9_0
  try clear hfz9_1
  try clear hfz9_2
  obtain ⟨kq, x14_2, rfl, HA, HJ2, BK420, BK421, HB⟩ := hcut
  rcases kq with _ | kj2
  · exact absurd HA.out (by simp [spec_Follows.j0])
  have H := HA.out
  clear HA
  simp only [spec_Follows.j0] at H
  by_cases c17 : x14_2 = true
  · subst c17
    rw [if_pos rfl] at H
    obtain rfl := Option.some.inj H
    go_wp2
    go_ret
    exact ⟨er_, pb2_ HB.out GE420.out GE421.out⟩
  replace c17 := Bool.eq_false_iff.mpr c17
  subst c17
  rw [if_neg (show ¬ (false = true) by decide)] at H
  replace H := Option.bind_eq_some_iff.mp H
  obtain ⟨t424, A180, H⟩ := H
  replace H : (spec_Follows.l0 kj2 t424 0 a0_0 l0_1 l0_2 a1_0 l1_1 l1_2) = some r := H
  have A18 := Aside0.mk A180
  clear A180
  have H' := Aside0.mk H
  clear H
  have hnb19 := NB420_421.out
  have hnc19 := NB421_420.out
  obtain ⟨hcz20_0, hcz20_1, hcz20_2, hfz20_0, hfz20_1, hfz20_2⟩ := bc3_ BK420.out
  obtain ⟨hcz21_0, hcz21_1, hcz21_2, hfz21_0, hfz21_1, hfz21_2⟩ := bc3_ BK421.out
  go_wp2_with (first | ((with_reducible refine gate_callee (f := 62) rfl ?_); refine gl_ (some 17) Try.func62 #[.agg #[.int .i64 a0_0, .slice A0_1 l0_1.length c0_1, .slice A0_2 l0_2.length c0_2], .agg #[.int .i64 a1_0, .slice A1_1 l1_1.length c1_1, .slice A1_2 l1_2.length c1_2]] ?_; (with_reducible refine (spec_FollowPairs.calls kj2 a0_0 _ _ l0_1 _ _ l0_2 a1_0 _ _ l1_1 _ _ l1_2 t424 _ ?side1 ?side2 ?side3 ?side4 ?side5 ?side6 ?side7 ?side8 A18.out).mono ?_); (case side1 => exact cb_ HR0_1 HB); (case side2 => exact HC0_1.out); (case side3 => exact cb_ HR0_2 HB); (case side4 => exact HC0_2.out); (case side5 => exact cb_ HR1_1 HB); (case side6 => exact HC1_1.out); (case side7 => exact cb_ HR1_2 HB); (case side8 => exact HC1_2.out); rintro e w22 ⟨v425, rfl, ho0, hb⟩; refine ⟨_, rfl, ?_⟩; have _ := Aside0.mk (Kd.S_lower ho0 (below_size (pb2_ HB.out GE420.out GE421.out))); have _ := Aside0.mk (bb_ BK420.out hb); have _ := Aside0.mk (bb_ BK421.out hb); have _ := Aside0.mk (below_step (pb2_ HB.out GE420.out GE421.out) hb); clear BK420 BK421 HB; rename_i HO426 BK420 BK421 HB; (try clear hb); (try clear hb2); (try clear hk); (try clear hi); (try clear ho0)))
  (try simp only [Act.put, List.setIfInBounds_toArray, List.set_cons_zero, List.set_cons_succ])
  go_loopg [6] kj2 (fun kq v6 w' => ∃ (x6_2 : Int), v6 = .int .i64 x6_2 ∧ Aside0 (spec_Follows.l0 kq t424 x6_2 a0_0 l0_1 l0_2 a1_0 l1_1 l1_2 = some r) ∧ Aside0 (kq ≤ kj2) ∧ Aside0 (Kd.S (Kd.slice 3 (Kd.int .i64)) 39 w' w.heap.size (fun _ => True) v425 t424) ∧ Aside0 (w'.heap[gb420]? = some (.cells #[.int .i64 a0_0, (.slice A0_1 l0_1.length c0_1), (.slice A0_2 l0_2.length c0_2)] 34 (0, 0))) ∧ Aside0 (w'.heap[gb421]? = some (.cells #[.int .i64 a1_0, (.slice A1_1 l1_1.length c1_1), (.slice A1_2 l1_2.length c1_2)] 34 (0, 0))) ∧ Aside0 (Below w.heap.size w w'))
  case atStart => exact ⟨(0), el_, H', ⟨Nat.le_refl _⟩, ⟨ps_ HO426.out⟩, ⟨pk_ BK420.out⟩, ⟨pk_ BK421.out⟩, ⟨pb2_ HB.out GE420.out GE421.out⟩⟩
  clear H'
  try clear c1
  try clear p2
  try clear c4
  try clear c5
  try clear c6
  try clear c7
  try clear c8
  try clear c12
  try clear c17
  try clear c19
  try clear hcz13_0
  try clear hcz13_1
  try clear hcz13_2
  try clear hcz15_0
  try clear hcz15_1
  try clear hcz15_2
  try clear hcz20_0
  try clear hcz20_1
  try clear hcz20_2
  try clear hcz21_0
  try clear hcz21_1
  try clear hcz21_2
  try clear hcz9_0
  try clear hcz9_1
  try clear hcz9_2
  try clear hfz13_0
  try clear hfz13_1
  try clear hfz13_2
  try clear hfz15_0
  try clear hfz15_1
  try clear hfz15_2
  try clear hfz20_0
  try clear hfz20_1
  try clear hfz20_2
  try clear hfz21_0
  try clear hfz21_1
  try clear hfz21_2
  try clear hfz9_0
  try clear hfz9_1
  try clear hfz9_2
  try clear p2
  obtain ⟨x6_2, rfl, HA, HK2, HO_5, BK420, BK421, HB⟩ := hrel
  rcases gk with _ | k2
  · exact absurd HA.out (by simp [spec_Follows.l0])
  have H := HA.out
  clear HA
  simp only [spec_Follows.l0] at H
  by_cases c23 : x6_2 < (t424.length : Int)
  rotate_left
  · rw [if_neg c23] at H
    have c23b0 : decide (x6_2 < (t424.length : Int)) = false := decide_eq_false c23
    clear c23
    obtain rfl := Option.some.inj H
    obtain ⟨Ao24, co24, eo24⟩ := Kd.S_slice HO_5.out
    subst eo24
    go_wp2
    go_ret
    exact ⟨er_, pb2_ HB.out GE420.out GE421.out⟩
  rw [if_pos c23] at H
  have c23b0 : decide (x6_2 < (t424.length : Int)) = true := decide_eq_true c23
  clear c23
  by_cases c25 : 0 ≤ x6_2
  rotate_left
  · rw [if_neg c25] at H
    exact absurd H (by simp)
  rw [if_pos c25] at H
  have c25b0 : decide (0 ≤ x6_2) = true := decide_eq_true c25
  clear c25
  by_cases c26 : 0 < ((rd_L9 t424 x6_2).length : Int)
  rotate_left
  · rw [if_neg c26] at H
    exact absurd H (by simp)
  rw [if_pos c26] at H
  have c26b0 : decide (0 < ((rd_L9 t424 x6_2).length : Int)) = true := decide_eq_true c26
  have c26b1 : decide (0 < (rd_L9 t424 x6_2).length) = true := decide_eq_true (by omega)
  clear c26
  by_cases c27 : 1 < ((rd_L9 t424 x6_2).length : Int)
  rotate_left
  · rw [if_neg c27] at H
    exact absurd H (by simp)
  rw [if_pos c27] at H
  have c27b0 : decide (1 < ((rd_L9 t424 x6_2).length : Int)) = true := decide_eq_true c27
  have c27b1 : decide (1 < (rd_L9 t424 x6_2).length) = true := decide_eq_true (by omega)
  clear c27
  replace H := Option.bind_eq_some_iff.mp H
  obtain ⟨t431, A280, H⟩ := H
  (try dsimp only at H)
  have A28 := Aside0.mk A280
  clear A280
  have HS_ := Aside0.mk H
  clear H
  obtain ⟨Ao29, co29, eo29⟩ := Kd.S_slice HO_5.out
  subst eo29
  try go_wp2
  have _ := Aside0.mk (Kd.S_drew HO_5.out)
  have _ := Aside0.mk (blk_drew BK420.out)
  have _ := Aside0.mk (blk_drew BK421.out)
  have _ := Aside0.mk (below_drew1 HB.out)
  clear HO_5 BK420 BK421 HB
  rename_i HO_5 BK420 BK421 HB
  have p427 : 0 ≤ (x6_2 : Int) := dt_
  have q427 : x6_2 < (t424.length : Int) := dt_
  obtain ⟨ad427, A427_0, c427_0, e427, hx427_0, hl427_0, hi427_0⟩ := at_L9 (Kd.S_reads' HO_5.out).2.2 x6_2 p427 q427
  cases e427
  obtain ⟨ce427, hce427, hMe427, hcc427⟩ := Kd.S_get HO_5.out [] x6_2 p427 (by first | exact q427 | exact dt_ | (have e_ := (Kd.S_reads' HO_5.out).1; omega))
  obtain ⟨ve427_0, rfl, ge427_0⟩ := hMe427
  have hv427_0 := hcc427 0 _ rfl
  rw [Nat.add_zero, show ((Kd.slice 3 (Kd.int .i64))).sz = 1 from rfl, Nat.mul_one] at hv427_0
  replace hv427_0 := Option.some.inj (hv427_0.symm.trans hx427_0)
  rw [hv427_0] at ge427_0
  have HL427_0 := Aside0.mk (show Kd.R (Kd.int .i64) 3 _ _ _ _ (rd_L9 t424 x6_2) from ge427_0)
  clear hv427_0 ge427_0
  clear hcc427 hce427
  have HR427_0 := Aside0.mk hi427_0
  have HC427_0 := Aside0.mk hl427_0
  clear hi427_0 hl427_0
  replace p427 := eq_true p427
  replace q427 := eq_true q427
  have p428 : 0 ≤ (0 : Int) := (by omega)
  have q428 : 0 < ((rd_L9 t424 x6_2).length : Int) := dt_
  obtain ⟨ad428, e428, hx428_0⟩ := Kd.at_int (by repeat (first | (with_reducible exact HR427_0.out) | (with_reducible refine Kd.C_alloc ?_ _) | (with_reducible refine Kd.C_drewN ?_ _) | (with_reducible refine Kd.C_drew ?_) | exact HR427_0.out)) 0 p428 q428
  cases e428
  have qi428 : (0 < (rd_L9 t424 x6_2).length) = True := eq_true (by omega)
  (try rw [show ((0 : Int)).toNat = 0 from rfl] at hx428_0)
  (try rw [Addr.add_zero'] at hx428_0)
  replace p428 := eq_true p428
  replace q428 := eq_true q428
  have p429 : 0 ≤ (x6_2 : Int) := dt_
  have q429 : x6_2 < (t424.length : Int) := dt_
  obtain ⟨ad429, A429_0, c429_0, e429, hx429_0, hl429_0, hi429_0⟩ := at_L9 (Kd.S_reads' HO_5.out).2.2 x6_2 p429 q429
  obtain rfl : ad427 = ad429 := (by injection e429)
  obtain ⟨ce429, hce429, hMe429, hcc429⟩ := Kd.S_get HO_5.out [] x6_2 p429 (by first | exact q429 | exact dt_ | (have e_ := (Kd.S_reads' HO_5.out).1; omega))
  obtain ⟨ve429_0, rfl, ge429_0⟩ := hMe429
  have hv429_0 := hcc429 0 _ rfl
  rw [Nat.add_zero, show ((Kd.slice 3 (Kd.int .i64))).sz = 1 from rfl, Nat.mul_one] at hv429_0
  replace hv429_0 := Option.some.inj (hv429_0.symm.trans hx429_0)
  rw [hv429_0] at ge429_0
  have HL429_0 := Aside0.mk (show Kd.R (Kd.int .i64) 3 _ _ _ _ (rd_L9 t424 x6_2) from ge429_0)
  clear hv429_0 ge429_0
  clear hcc429 hce429
  have HR429_0 := Aside0.mk hi429_0
  have HC429_0 := Aside0.mk hl429_0
  clear hi429_0 hl429_0
  replace p429 := eq_true p429
  replace q429 := eq_true q429
  have ea_ := Option.some.inj (hx427_0.symm.trans hx429_0)
  injection ea_ with ea_ en_ ec_
  subst ea_
  subst ec_
  clear en_
  have p430 : 0 ≤ (1 : Int) := (by omega)
  have q430 : 1 < ((rd_L9 t424 x6_2).length : Int) := dt_
  obtain ⟨ad430, e430, hx430_0⟩ := Kd.at_int (by repeat (first | (with_reducible exact HR429_0.out) | (with_reducible refine Kd.C_alloc ?_ _) | (with_reducible refine Kd.C_drewN ?_ _) | (with_reducible refine Kd.C_drew ?_) | exact HR429_0.out)) 1 p430 q430
  cases e430
  (try simp only [show (1 : Int).toNat = 1 from rfl, Nat.reduceMul, Nat.reduceEqDiff, Go.Addr.add, ↓reduceIte] at hx430_0)
  have qi430 : (1 < (rd_L9 t424 x6_2).length) = True := eq_true (by omega)
  (try rw [show ((1 : Int)).toNat = 1 from rfl] at hx430_0)
  replace p430 := eq_true p430
  replace q430 := eq_true q430
  refine start_ (n := 16) (S := fun w' => w'.cell? ⟨gb420, 0, none⟩ = some (.int .i64 a0_0) ∧ w'.cell? ⟨gb420, 1, none⟩ = some (.slice A0_1 l0_1.length c0_1) ∧ w'.cell? ⟨gb420, 2, none⟩ = some (.slice A0_2 l0_2.length c0_2) ∧ w'.cell? ⟨gb421, 0, none⟩ = some (.int .i64 a1_0) ∧ w'.cell? ⟨gb421, 1, none⟩ = some (.slice A1_1 l1_1.length c1_1) ∧ w'.cell? ⟨gb421, 2, none⟩ = some (.slice A1_2 l1_2.length c1_2) ∧ w'.cell? (ad427.add (x6_2).toNat) = some (.slice (some ad428) (rd_L9 t424 x6_2).length c427_0) ∧ w'.cell? ad428 = some (.int .i64 (rd (rd_L9 t424 x6_2) 0)) ∧ w'.cell? (ad427.add (x6_2).toNat) = some (.slice (some ad428) (rd_L9 t424 x6_2).length c427_0) ∧ w'.cell? ⟨ad428.block, ad428.off + 1, none⟩ = some (.int .i64 (rd (rd_L9 t424 x6_2) 1))) (ds := []) (tf_ 0 16) (by kernel_rfl) rfl rfl ⟨(blk_cell BK420.out 0).trans rfl, (blk_cell BK420.out 1).trans rfl, (blk_cell BK420.out 2).trans rfl, (blk_cell BK421.out 0).trans rfl, (blk_cell BK421.out 1).trans rfl, (blk_cell BK421.out 2).trans rfl, hx427_0, hx428_0, hx429_0, hx430_0⟩ (fun hHeld => ?_); refine with_tabW spec_Follows.tab7 spec_Follows.bits7 (fun HT_ HW_ => ?_)
  generalize wr.drew = w30 at HO_5 BK420 BK421 HB HL427_0 HL429_0 HR427_0 HR429_0 hx427_0 hx428_0 hx429_0 hx430_0 hHeld ⊢
  refine pu_ 2 (some 26) (tm_ 16 4) HT_ ?_
  refine pu_ 3 (some 27) (tm_ 16 12) HT_ ?_
  refine pu_ 4 (some 28) (tm_ 16 28) HT_ ?_
  refine pu_ 8 (some 32) (tm_ 16 284) HT_ ?_
  refine pu_ 9 (some 33) (tm_ 16 796) HT_ ?_
  refine pu_ 10 (some 34) (tm_ 16 1820) HT_ ?_
  refine ta_ 0 (some 24) (tm_ 16 1821) HT_ HW_ hHeld ?_
  refine ta_ 1 (some 25) (tm_ 16 1823) HT_ HW_ hHeld ?_
  refine ta_ 5 (some 29) (tm_ 16 1855) HT_ HW_ hHeld ?_
  refine pu_ 6 (some 30) (tm_ 16 1919) HT_ ?_
  refine ta_ 7 (some 31) (tf_ 11 16) HT_ HW_ hHeld ?_
  refine ta_ 11 (some 35) (tf_ 12 16) HT_ HW_ hHeld ?_
  refine pu_ 12 (some 36) (tf_ 13 16) HT_ ?_
  refine ta_ 13 (some 37) (tf_ 14 16) HT_ HW_ hHeld ?_
  refine on_ 14 (some 38) (tf_ 15 16) HT_ (fun K hK => ?_)
  refine goes_ Try.func63 (by kernel_rfl) rfl #[.agg #[.int .i64 a0_0, .slice A0_1 l0_1.length c0_1, .slice A0_2 l0_2.length c0_2], .agg #[.int .i64 a1_0, .slice A1_1 l1_1.length c1_1, .slice A1_2 l1_2.length c1_2], .int .i64 (rd (rd_L9 t424 x6_2) 0), .int .i64 (rd (rd_L9 t424 x6_2) 1)] (by rfl) rfl rfl mp_ ?_
  with_reducible refine (spec_FollowsAt.calls k2 a0_0 _ _ l0_1 _ _ l0_2 a1_0 _ _ l1_1 _ _ l1_2 (rd (rd_L9 t424 x6_2) 0) (rd (rd_L9 t424 x6_2) 1) t431 _ ?side1 ?side2 ?side3 ?side4 ?side5 ?side6 ?side7 ?side8 A28.out).mono ?_
  (case side1 => exact cb_ HR0_1 HB)
  (case side2 => exact HC0_1.out)
  (case side3 => exact cb_ HR0_2 HB)
  (case side4 => exact HC0_2.out)
  (case side5 => exact cb_ HR1_1 HB)
  (case side6 => exact HC1_1.out)
  (case side7 => exact cb_ HR1_2 HB)
  (case side8 => exact HC1_2.out)
  rintro e w31 ⟨rfl, hb⟩
  have HS6_ := (hb.cell (World.block_lt_of_cell? _ _ (hHeld.2.2.2.2.2.2.1))).trans (hHeld.2.2.2.2.2.2.1)
  have HS7_ := (hb.cell (World.block_lt_of_cell? _ _ (hHeld.2.2.2.2.2.2.2.1))).trans (hHeld.2.2.2.2.2.2.2.1)
  have HS8_ := (hb.cell (World.block_lt_of_cell? _ _ (hHeld.2.2.2.2.2.2.2.2.1))).trans (hHeld.2.2.2.2.2.2.2.2.1)
  have HS9_ := (hb.cell (World.block_lt_of_cell? _ _ (hHeld.2.2.2.2.2.2.2.2.2))).trans (hHeld.2.2.2.2.2.2.2.2.2)
  refine ⟨_, rfl, ?_⟩
  have _ := Aside0.mk (Kd.S_below (ps_ HO_5.out) hb)
  have _ := Aside0.mk (Kd.R_below (pr_ HL427_0.out) hb)
  have _ := Aside0.mk (Kd.R_below (pr_ HL429_0.out) hb)
  have _ := Aside0.mk (bb_ BK420.out hb)
  have _ := Aside0.mk (bb_ BK421.out hb)
  have _ := Aside0.mk (Kd.C_below (by repeat (first | (with_reducible exact HR427_0.out) | (with_reducible refine Kd.C_alloc ?_ _) | (with_reducible refine Kd.C_drewN ?_ _) | (with_reducible refine Kd.C_drew ?_) | exact HR427_0.out)) hb)
  have _ := Aside0.mk (Kd.C_below (by repeat (first | (with_reducible exact HR429_0.out) | (with_reducible refine Kd.C_alloc ?_ _) | (with_reducible refine Kd.C_drewN ?_ _) | (with_reducible refine Kd.C_drew ?_) | exact HR429_0.out)) hb)
  have _ := Aside0.mk (below_step (pb2_ HB.out GE420.out GE421.out) hb)
  clear HO_5 HL427_0 HL429_0 BK420 BK421 HR427_0 HR429_0 HB
  rename_i HO_5 HL427_0 HL429_0 BK420 BK421 HR427_0 HR429_0 HB
  (try clear hb)
  (try clear hb2)
  (try clear hk)
  (try clear hi)
  refine hK.out _ _ ⟨(blk_cell BK420.out 0).trans rfl, (blk_cell BK420.out 1).trans rfl, (blk_cell BK420.out 2).trans rfl, (blk_cell BK421.out 0).trans rfl, (blk_cell BK421.out 1).trans rfl, (blk_cell BK421.out 2).trans rfl, HS6_, HS7_, HS8_, HS9_⟩ (fun hHeld => ?_)
  clear hK K
  refine no_ (some 38) ?_
  refine pu_ 15 (some 39) (tf_ 16 16) HT_ ?_
  refine done_ (done_of HT_.out (by kernel_rfl)) ?_
  go_upto_if 39 with (fail)
  have H := HS_.out
  clear HS_
  by_cases c32 : t431 = true
  rotate_left
  · replace c32 := Bool.eq_false_iff.mpr c32
    subst c32
    rw [if_neg (show ¬ (false = true) by decide)] at H
    obtain rfl := Option.some.inj H
    go_wp2
    go_ret
    exact ⟨er_, pb2_ HB.out GE420.out GE421.out⟩
  subst c32
  rw [if_pos rfl] at H
  have H' := Aside0.mk H
  clear H
  go_wp2
  go_roundg k2
  case measure => have := HJ2.out; have := HK2.out; omega
  case rel => exact ⟨(wrap64 (x6_2 + 1)), el_, H', ⟨by have := HJ2.out; have := HK2.out; omega⟩, ⟨ps_ HO_5.out⟩, ⟨pk_ BK420.out⟩, ⟨pk_ BK421.out⟩, ⟨pb2_ HB.out GE420.out GE421.out⟩⟩

/-! ### spec_BreaksAt: function 33 -/
def spec_BreaksAt.l0 : Nat → List (S34) → Int → Option (Int)
  | 0, _, _ => none
  | k + 1, x0, x3 => if x3 < (x0.length : Int) then (if 0 ≤ x3 then (if 0 ≤ (wrap64 (x3 - 1)) then (if (wrap64 (x3 - 1)) < (x0.length : Int) then ((spec_Follows.f k ((rd_T34 x0 x3).f0) ((rd_T34 x0 x3).f1) ((rd_T34 x0 x3).f2) ((rd_T34 x0 (wrap64 (x3 - 1))).f0) ((rd_T34 x0 (wrap64 (x3 - 1))).f1) ((rd_T34 x0 (wrap64 (x3 - 1))).f2)).bind fun t434 => (if t434 = true then (spec_BreaksAt.l0 k x0 (wrap64 (x3 + 1))) else (some x3))) else (none)) else (none)) else (none)) else (some (-1))
def spec_BreaksAt.f (k : Nat) (l0 : List (S34)) : Option (Int) := spec_BreaksAt.l0 k l0 1
theorem spec_BreaksAt.mono_l : ∀ k, (∀ y0 y1, LeO (spec_BreaksAt.l0 k y0 y1) (spec_BreaksAt.l0 (k + 1) y0 y1))
  | 0 => fun _ _ r h => by simp [spec_BreaksAt.l0] at h
  | k + 1 => by
    have ih0 := spec_BreaksAt.mono_l k
    · intro y0 y1
      unfold spec_BreaksAt.l0
      repeat' first
      | (with_reducible exact ih0 _ _)
      | (with_reducible exact spec_Follows.mono _ _ _ _ _ _ _)
      | (with_reducible exact LeO.refl _)
      | (with_reducible exact LeO.none _)
      | (with_reducible refine LeO.ite ?_ ?_)
      | (with_reducible refine LeO.bind ?_ (fun _ => ?_))
      | exact ih0 _ _
      | exact spec_Follows.mono _ _ _ _ _ _ _
      | exact LeO.none _
      | refine LeO.ite ?_ ?_
      | refine LeO.bind ?_ (fun _ => ?_)
theorem spec_BreaksAt.mono : ∀ a0 k, LeO (spec_BreaksAt.f k a0) (spec_BreaksAt.f (k + 1) a0) := by
  intro a0 k
  have ih0 := spec_BreaksAt.mono_l k
  unfold spec_BreaksAt.f
  repeat' first
      | (with_reducible exact ih0 _ _)
      | (with_reducible exact spec_Follows.mono _ _ _ _ _ _ _)
      | (with_reducible exact LeO.refl _)
      | (with_reducible exact LeO.none _)
      | (with_reducible refine LeO.ite ?_ ?_)
      | (with_reducible refine LeO.bind ?_ (fun _ => ?_))
      | exact ih0 _ _
      | exact spec_Follows.mono _ _ _ _ _ _ _
      | exact LeO.none _
      | refine LeO.ite ?_ ?_
      | refine LeO.bind ?_ (fun _ => ?_)
def spec_BreaksAt.T4 : Bool × List (List Nat × List Nat) := (true, [([], []), ([], []), ([0, 1], [0, 1]), ([2], [2]), ([], []), ([], []), ([5], [5]), ([4, 6], [4, 6]), ([7], [7]), ([3, 8], [3, 8]), ([9], [9])])
def spec_BreaksAt.B4 : List Nat := [0, 0, 3, 7, 0, 0, 32, 112, 240, 511, 1023]
theorem spec_BreaksAt.tab4 : rtab .any (opsOf Try.f33 4) = spec_BreaksAt.T4 := by kernel_rfl
theorem spec_BreaksAt.bits4 : waitsOk spec_BreaksAt.T4.2 spec_BreaksAt.B4 = true := by kernel_rfl
set_option maxHeartbeats 8000000 in
set_option maxRecDepth 100000 in
theorem spec_BreaksAt.calls (k : Nat) (A0 : Option Addr) (c0 : Nat) (l0 : List (S34)) (r : Int) (w : World) (hr0 : Kd.C k34 w A0 l0.length l0) (hc0 : l0.length ≤ c0) (h : spec_BreaksAt.f k l0 = some r) :
    Calls Try.prog 33 #[.slice A0 l0.length c0] w fun e w' => e = .returned (.int .i64 r) ∧ Below w.heap.size w w' := by
  have hu34 := Try.underlying34
  have HR0 := Aside0.mk hr0
  have HC0 := Aside0.mk hc0
  clear hr0 hc0
  have HB := Aside0.mk (Below.refl w.heap.size w)
  have H : (spec_BreaksAt.l0 k l0 1) = some r := h
  clear h
  have H' := Aside0.mk H
  clear H
  go_enter Try.func33, Try.ntmps33
  go_wp2
  go_loopg [3] k (fun kq v3 w' => ∃ (x3_1 : Int), v3 = .int .i64 x3_1 ∧ Aside0 (spec_BreaksAt.l0 kq l0 x3_1 = some r) ∧ Aside0 (kq ≤ k) ∧ Aside0 (Below w.heap.size w w'))
  case atStart => exact ⟨(1), el_, H', ⟨Nat.le_refl _⟩, ⟨pb_ HB.out⟩⟩
  clear H'
  obtain ⟨x3_1, rfl, HA, HK1, HB⟩ := hrel
  rcases gk with _ | k1
  · exact absurd HA.out (by simp [spec_BreaksAt.l0])
  have H := HA.out
  clear HA
  simp only [spec_BreaksAt.l0] at H
  by_cases c2 : x3_1 < (l0.length : Int)
  rotate_left
  · rw [if_neg c2] at H
    have c2b0 : decide (x3_1 < (l0.length : Int)) = false := decide_eq_false c2
    clear c2
    obtain rfl := Option.some.inj H
    go_wp2
    go_ret
    exact ⟨er_, pb_ HB.out⟩
  rw [if_pos c2] at H
  have c2b0 : decide (x3_1 < (l0.length : Int)) = true := decide_eq_true c2
  clear c2
  by_cases c3 : 0 ≤ x3_1
  rotate_left
  · rw [if_neg c3] at H
    exact absurd H (by simp)
  rw [if_pos c3] at H
  have c3b0 : decide (0 ≤ x3_1) = true := decide_eq_true c3
  clear c3
  obtain ⟨ji4, hji4⟩ : ∃ j_ : Int, (wrap64 (x3_1 - 1)) = j_ := ⟨_, rfl⟩
  replace H : (if 0 ≤ (ji4) then (if (ji4) < (l0.length : Int) then ((spec_Follows.f k1 ((rd_T34 l0 x3_1).f0) ((rd_T34 l0 x3_1).f1) ((rd_T34 l0 x3_1).f2) ((rd_T34 l0 (ji4)).f0) ((rd_T34 l0 (ji4)).f1) ((rd_T34 l0 (ji4)).f2)).bind fun t434 => (if t434 = true then (spec_BreaksAt.l0 k1 l0 (wrap64 (x3_1 + 1))) else (some x3_1))) else (none)) else (none)) = some r := by first | (rw [hji4] at H; exact H) | (simp only [hji4] at H ⊢; exact H)
  have hji4w : (IntKind.i64.wrap (x3_1 - 1)) = ji4 := (i64_w _).trans hji4
  by_cases c5 : 0 ≤ (ji4)
  rotate_left
  · rw [if_neg c5] at H
    exact absurd H (by simp)
  rw [if_pos c5] at H
  have c5b0 : decide (0 ≤ (ji4)) = true := decide_eq_true c5
  clear c5
  by_cases c6 : (ji4) < (l0.length : Int)
  rotate_left
  · rw [if_neg c6] at H
    exact absurd H (by simp)
  rw [if_pos c6] at H
  have c6b0 : decide ((ji4) < (l0.length : Int)) = true := decide_eq_true c6
  clear c6
  replace H := Option.bind_eq_some_iff.mp H
  obtain ⟨t434, A70, H⟩ := H
  (try dsimp only at H)
  have A7 := Aside0.mk A70
  clear A70
  have HS_ := Aside0.mk H
  clear H
  try go_wp2
  have _ := Aside0.mk (below_drew1 HB.out)
  clear HB
  rename_i HB
  have p432 : 0 ≤ (x3_1 : Int) := dt_
  have q432 : x3_1 < (l0.length : Int) := dt_
  obtain ⟨ad432, A432_1, c432_1, A432_2, c432_2, e432, hx432_0, hx432_1, hx432_2, hl432_1, hi432_1, hl432_2, hi432_2⟩ := at_T34 HR0.out x3_1 p432 q432
  have hw432_2 := hx432_2
  have hw432_1 := hx432_1
  have hw432_0 := hx432_0
  cases e432
  replace hx432_0 := bt_ HB hx432_0
  replace hx432_1 := bt_ HB hx432_1
  replace hx432_2 := bt_ HB hx432_2
  have HR432_1 := Aside0.mk hi432_1
  have HC432_1 := Aside0.mk hl432_1
  clear hi432_1 hl432_1
  have HR432_2 := Aside0.mk hi432_2
  have HC432_2 := Aside0.mk hl432_2
  clear hi432_2 hl432_2
  replace p432 := eq_true p432
  replace q432 := eq_true q432
  have p433 : 0 ≤ ((ji4) : Int) := dt_
  have q433 : (ji4) < (l0.length : Int) := dt_
  obtain ⟨ad433, A433_1, c433_1, A433_2, c433_2, e433, hx433_0, hx433_1, hx433_2, hl433_1, hi433_1, hl433_2, hi433_2⟩ := at_T34 HR0.out (ji4) p433 q433
  have hw433_2 := hx433_2
  have hw433_1 := hx433_1
  have hw433_0 := hx433_0
  obtain rfl : ad432 = ad433 := (by injection e433)
  replace hx433_0 := bt_ HB hx433_0
  replace hx433_1 := bt_ HB hx433_1
  replace hx433_2 := bt_ HB hx433_2
  have HR433_1 := Aside0.mk hi433_1
  have HC433_1 := Aside0.mk hl433_1
  clear hi433_1 hl433_1
  have HR433_2 := Aside0.mk hi433_2
  have HC433_2 := Aside0.mk hl433_2
  clear hi433_2 hl433_2
  replace p433 := eq_true p433
  replace q433 := eq_true q433
  refine start_ (n := 11) (S := fun w' => w'.cell? (ad432.add ((x3_1).toNat * 3)) = some (.int .i64 ((rd_T34 l0 x3_1).f0)) ∧ w'.cell? ⟨(ad432.add ((x3_1).toNat * 3)).block, (ad432.add ((x3_1).toNat * 3)).off + 1, none⟩ = some (.slice A432_1 ((rd_T34 l0 x3_1).f1).length c432_1) ∧ w'.cell? ⟨(ad432.add ((x3_1).toNat * 3)).block, (ad432.add ((x3_1).toNat * 3)).off + 2, none⟩ = some (.slice A432_2 ((rd_T34 l0 x3_1).f2).length c432_2) ∧ w'.cell? (ad432.add (((ji4)).toNat * 3)) = some (.int .i64 ((rd_T34 l0 (ji4)).f0)) ∧ w'.cell? ⟨(ad432.add (((ji4)).toNat * 3)).block, (ad432.add (((ji4)).toNat * 3)).off + 1, none⟩ = some (.slice A433_1 ((rd_T34 l0 (ji4)).f1).length c433_1) ∧ w'.cell? ⟨(ad432.add (((ji4)).toNat * 3)).block, (ad432.add (((ji4)).toNat * 3)).off + 2, none⟩ = some (.slice A433_2 ((rd_T34 l0 (ji4)).f2).length c433_2)) (ds := []) (tf_ 0 11) (by kernel_rfl) rfl rfl ⟨(bt_ HB hw432_0), (bt_ HB hw432_1), (bt_ HB hw432_2), (bt_ HB hw433_0), (bt_ HB hw433_1), (bt_ HB hw433_2)⟩ (fun hHeld => ?_); refine with_tabW spec_BreaksAt.tab4 spec_BreaksAt.bits4 (fun HT_ HW_ => ?_)
  generalize wr.drew = w8 at HB HR432_1 HR432_2 HR433_1 HR433_2 hx432_0 hx432_1 hx432_2 hx433_0 hx433_1 hx433_2 hHeld ⊢
  refine pu_ 0 (some 10) (tf_ 1 11) HT_ ?_
  refine pu_ 1 (some 11) (tf_ 2 11) HT_ ?_
  refine pu_ 2 (some 12) (tf_ 3 11) HT_ ?_
  refine pu_ 4 (some 14) (tm_ 11 23) HT_ ?_
  refine pu_ 5 (some 15) (tm_ 11 55) HT_ ?_
  refine pu_ 6 (some 16) (tm_ 11 119) HT_ ?_
  refine pu_ 7 (some 17) (tm_ 11 247) HT_ ?_
  refine ta_ 3 (some 13) (tf_ 8 11) HT_ HW_ hHeld ?_
  refine ta_ 8 (some 18) (tf_ 9 11) HT_ HW_ hHeld ?_
  refine on_ 9 (some 19) (tf_ 10 11) HT_ (fun K hK => ?_)
  refine goes_ Try.func46 (by kernel_rfl) rfl #[.agg #[.int .i64 ((rd_T34 l0 x3_1).f0), .slice A432_1 ((rd_T34 l0 x3_1).f1).length c432_1, .slice A432_2 ((rd_T34 l0 x3_1).f2).length c432_2], .agg #[.int .i64 ((rd_T34 l0 (ji4)).f0), .slice A433_1 ((rd_T34 l0 (ji4)).f1).length c433_1, .slice A433_2 ((rd_T34 l0 (ji4)).f2).length c433_2]] (by rfl) rfl rfl (by (try simp only [List.map_toArray, List.map_cons, List.map_nil]); first | done | (simp only [hji4]; rfl) | rfl | (simp only [List.length_drop, List.length_take]; rfl)) ?_
  with_reducible refine (spec_Follows.calls k1 ((rd_T34 l0 x3_1).f0) _ _ ((rd_T34 l0 x3_1).f1) _ _ ((rd_T34 l0 x3_1).f2) ((rd_T34 l0 (ji4)).f0) _ _ ((rd_T34 l0 (ji4)).f1) _ _ ((rd_T34 l0 (ji4)).f2) t434 _ ?side1 ?side2 ?side3 ?side4 ?side5 ?side6 ?side7 ?side8 A7.out).mono ?_
  (case side1 => exact cb_ HR432_1 HB)
  (case side2 => exact HC432_1.out)
  (case side3 => exact cb_ HR432_2 HB)
  (case side4 => exact HC432_2.out)
  (case side5 => exact cb_ HR433_1 HB)
  (case side6 => exact HC433_1.out)
  (case side7 => exact cb_ HR433_2 HB)
  (case side8 => exact HC433_2.out)
  rintro e w9 ⟨rfl, hb⟩
  refine ⟨_, rfl, ?_⟩
  have _ := Aside0.mk (below_step (pb_ HB.out) hb)
  clear HB
  rename_i HB
  (try clear hb)
  (try clear hb2)
  (try clear hk)
  (try clear hi)
  refine hK.out _ _ ⟨(bt_ HB hw432_0), (bt_ HB hw432_1), (bt_ HB hw432_2), (bt_ HB hw433_0), (bt_ HB hw433_1), (bt_ HB hw433_2)⟩ (fun hHeld => ?_)
  clear hK K
  refine no_ (some 19) ?_
  refine pu_ 10 (some 20) (tf_ 11 11) HT_ ?_
  refine done_ (done_of HT_.out (by kernel_rfl)) ?_
  go_upto_if 20 with (fail)
  have H := HS_.out
  clear HS_
  by_cases c10 : t434 = true
  rotate_left
  · replace c10 := Bool.eq_false_iff.mpr c10
    subst c10
    rw [if_neg (show ¬ (false = true) by decide)] at H
    obtain rfl := Option.some.inj H
    go_wp2
    go_ret
    exact ⟨by first | rfl | (simp [errW_none, errW_some] <;> rfl) | (simp only [← hji4]; first | rfl | (simp [errW_none, errW_some] <;> rfl)) | (simp [*, errW_none, errW_some] <;> rfl), pb_ HB.out⟩
  subst c10
  rw [if_pos rfl] at H
  have H' := Aside0.mk H
  clear H
  go_wp2
  go_roundg k1
  case measure => have := HK1.out; omega
  case rel => exact ⟨(wrap64 (x3_1 + 1)), el_, H', ⟨by have := HK1.out; omega⟩, ⟨pb_ HB.out⟩⟩

end Go.Proofs.Ytldcchjbaglppaa.Print
