-- Written by a program of this session (printx.py) out of the translation; Lean checks it.
import Derived.Test.YtchnkakjjbfklaaPrint0
import Derived.Test.YtchnkakjjbfklaaPrint6
import Derived.Test.YtchnkakjjbfklaaPrint7
import Derived.Test.YtchnkakjjbfklaaPrint8
import Derived.Test.YtchnkakjjbfklaaPrint9
namespace Go.Proofs.Ytchnkakjjbfklaa.Print
open Go.RowKit Go.Proofs.YtchnkakjjbfklaaW.PrintWords Go.Proofs.YtchnkakjjbfklaaW.PrintLast Go.Proofs.YtchnkakjjbfklaaW.PrintMore Go.Proofs.Ytchnkakjjbfklaa.Short
attribute [local go_sem] max2_int min2_int max_two min_two max_three min_three max_four min_four   -- for this text's walks alone
set_option linter.unusedVariables false
set_option linter.unusedSimpArgs false

/-! ### spec_IsWorld: function 10 -/
mutual
def spec_IsWorld.l0 : Nat → Int → List Int → List Int → Int → List (S50) → Int → List Int → Int → Bool → Int → Int → List (S55) → List (S57) → Int → Int → Int → Option (Bool)
  | 0, _, _, _, _, _, _, _, _, _, _, _, _, _, _, _, _ => none
  | k + 1, x3, x392000, x392001, x392002, x392003, x392004, x392005, x392006, x392007, x392008, x392009, x392010, x392011, x392012, x392013, x392014 => if x3 < (x392003.length : Int) then (if 0 ≤ x3 then ((spec_IsEndpoint.f k ((rd_T50 x392003 x3).f0) ((rd_T50 x392003 x3).f1) ((rd_T50 x392003 x3).f2) ((rd_T50 x392003 x3).f3)).bind fun t393 => (if t393 = true then (spec_IsWorld.l0 k (wrap64 (x3 + 1)) x392000 x392001 x392002 x392003 x392004 x392005 x392006 x392007 x392008 x392009 x392010 x392011 x392012 x392013 x392014) else (some false))) else (none)) else ((spec_AreVersions.f k x392000).bind fun t394 => (if t394 = true then ((spec_l32Tags.f k x392001).bind fun t395 => (if t395 = true then ((spec_IsValidKey.f x392002).bind fun t396 => (if t396 = true then (if (x392003.length : Int) > 6 then (spec_IsWorld.j1 k true x392000 x392001 x392002 x392003 x392004 x392005 x392006 x392007 x392008 x392009 x392010 x392011 x392012 x392013 x392014) else ((spec_IsRollout.f k x392004 x392005 x392006 x392007).bind fun t397 => (if t397 = true then ((spec_l9Has.f k x392000 x392004).bind fun t398 => (if t398 = true then ((spec_ListsOf.f k x392000 x392001 x392002 x392003 x392004 x392005 x392006 x392007 x392008 x392009 x392010 x392011 x392012 x392013 x392014).bind fun t399 => ((spec_AllReach.f k x392000 t399).bind fun t402 => (spec_IsWorld.j1 k (!t402) x392000 x392001 x392002 x392003 x392004 x392005 x392006 x392007 x392008 x392009 x392010 x392011 x392012 x392013 x392014))) else (spec_IsWorld.j1 k true x392000 x392001 x392002 x392003 x392004 x392005 x392006 x392007 x392008 x392009 x392010 x392011 x392012 x392013 x392014))) else (spec_IsWorld.j1 k true x392000 x392001 x392002 x392003 x392004 x392005 x392006 x392007 x392008 x392009 x392010 x392011 x392012 x392013 x392014)))) else (spec_IsWorld.j1 k true x392000 x392001 x392002 x392003 x392004 x392005 x392006 x392007 x392008 x392009 x392010 x392011 x392012 x392013 x392014))) else (spec_IsWorld.j1 k true x392000 x392001 x392002 x392003 x392004 x392005 x392006 x392007 x392008 x392009 x392010 x392011 x392012 x392013 x392014))) else (spec_IsWorld.j1 k true x392000 x392001 x392002 x392003 x392004 x392005 x392006 x392007 x392008 x392009 x392010 x392011 x392012 x392013 x392014)))
def spec_IsWorld.j1 : Nat → Bool → List Int → List Int → Int → List (S50) → Int → List Int → Int → Bool → Int → Int → List (S55) → List (S57) → Int → Int → Int → Option (Bool)
  | 0, _, _, _, _, _, _, _, _, _, _, _, _, _, _, _, _ => none
  | k + 1, x62, x392000, x392001, x392002, x392003, x392004, x392005, x392006, x392007, x392008, x392009, x392010, x392011, x392012, x392013, x392014 => if x62 = true then (some false) else ((spec_l1In.f x392008 1 100).bind fun t403 => (if t403 = true then ((spec_l1In.f x392009 0 100).bind fun t404 => (if t404 = true then (if (x392010.length : Int) ≤ 60 then (if (x392011.length : Int) ≤ 60 then ((spec_l1In.f x392012 0 10000).bind fun t405 => (if t405 = true then ((spec_l1In.f x392013 0 (x392011.length : Int)).bind fun t406 => (if t406 = true then ((spec_l1In.f x392014 0 (x392005.length : Int)).bind fun t407 => (some t407)) else (some false))) else (some false))) else (some false)) else (some false)) else (some false))) else (some false)))
end
def spec_IsWorld.f (k : Nat) (l0_0 : List Int) (l0_1 : List Int) (a0_2 : Int) (l0_3 : List (S50)) (a0_4 : Int) (l0_5 : List Int) (a0_6 : Int) (a0_7 : Bool) (a0_8 : Int) (a0_9 : Int) (l0_10 : List (S55)) (l0_11 : List (S57)) (a0_12 : Int) (a0_13 : Int) (a0_14 : Int) : Option (Bool) := spec_IsWorld.l0 k 0 l0_0 l0_1 a0_2 l0_3 a0_4 l0_5 a0_6 a0_7 a0_8 a0_9 l0_10 l0_11 a0_12 a0_13 a0_14
theorem spec_IsWorld.mono_l : ∀ k, (∀ y0 y1 y2 y3 y4 y5 y6 y7 y8 y9 y10 y11 y12 y13 y14 y15, LeO (spec_IsWorld.l0 k y0 y1 y2 y3 y4 y5 y6 y7 y8 y9 y10 y11 y12 y13 y14 y15) (spec_IsWorld.l0 (k + 1) y0 y1 y2 y3 y4 y5 y6 y7 y8 y9 y10 y11 y12 y13 y14 y15)) ∧ (∀ y0 y1 y2 y3 y4 y5 y6 y7 y8 y9 y10 y11 y12 y13 y14 y15, LeO (spec_IsWorld.j1 k y0 y1 y2 y3 y4 y5 y6 y7 y8 y9 y10 y11 y12 y13 y14 y15) (spec_IsWorld.j1 (k + 1) y0 y1 y2 y3 y4 y5 y6 y7 y8 y9 y10 y11 y12 y13 y14 y15))
  | 0 => ⟨fun _ _ _ _ _ _ _ _ _ _ _ _ _ _ _ _ r h => by simp [spec_IsWorld.l0] at h, fun _ _ _ _ _ _ _ _ _ _ _ _ _ _ _ _ r h => by simp [spec_IsWorld.j1] at h⟩
  | k + 1 => by
    obtain ⟨ih0, ih1⟩ := spec_IsWorld.mono_l k
    refine ⟨?_, ?_⟩
    · intro y0 y1 y2 y3 y4 y5 y6 y7 y8 y9 y10 y11 y12 y13 y14 y15
      unfold spec_IsWorld.l0
      repeat' first
      | (with_reducible exact ih0 _ _ _ _ _ _ _ _ _ _ _ _ _ _ _ _)
      | (with_reducible exact ih1 _ _ _ _ _ _ _ _ _ _ _ _ _ _ _ _)
      | (with_reducible exact spec_AllReach.mono _ _ _)
      | (with_reducible exact spec_AreVersions.mono _ _)
      | (with_reducible exact spec_IsEndpoint.mono _ _ _ _ _)
      | (with_reducible exact spec_IsRollout.mono _ _ _ _ _)
      | (with_reducible exact spec_ListsOf.mono _ _ _ _ _ _ _ _ _ _ _ _ _ _ _ _)
      | (with_reducible exact spec_l32Tags.mono _ _)
      | (with_reducible exact spec_l9Has.mono _ _ _)
      | (with_reducible exact LeO.refl _)
      | (with_reducible exact LeO.none _)
      | (with_reducible refine LeO.ite ?_ ?_)
      | (with_reducible refine LeO.bind ?_ (fun _ => ?_))
      | exact ih0 _ _ _ _ _ _ _ _ _ _ _ _ _ _ _ _
      | exact ih1 _ _ _ _ _ _ _ _ _ _ _ _ _ _ _ _
      | exact spec_AllReach.mono _ _ _
      | exact spec_AreVersions.mono _ _
      | exact spec_IsEndpoint.mono _ _ _ _ _
      | exact spec_IsRollout.mono _ _ _ _ _
      | exact spec_ListsOf.mono _ _ _ _ _ _ _ _ _ _ _ _ _ _ _ _
      | exact spec_l32Tags.mono _ _
      | exact spec_l9Has.mono _ _ _
      | exact LeO.none _
      | refine LeO.ite ?_ ?_
      | refine LeO.bind ?_ (fun _ => ?_)
    · intro y0 y1 y2 y3 y4 y5 y6 y7 y8 y9 y10 y11 y12 y13 y14 y15
      unfold spec_IsWorld.j1
      repeat' first
      | (with_reducible exact ih0 _ _ _ _ _ _ _ _ _ _ _ _ _ _ _ _)
      | (with_reducible exact ih1 _ _ _ _ _ _ _ _ _ _ _ _ _ _ _ _)
      | (with_reducible exact spec_AllReach.mono _ _ _)
      | (with_reducible exact spec_AreVersions.mono _ _)
      | (with_reducible exact spec_IsEndpoint.mono _ _ _ _ _)
      | (with_reducible exact spec_IsRollout.mono _ _ _ _ _)
      | (with_reducible exact spec_ListsOf.mono _ _ _ _ _ _ _ _ _ _ _ _ _ _ _ _)
      | (with_reducible exact spec_l32Tags.mono _ _)
      | (with_reducible exact spec_l9Has.mono _ _ _)
      | (with_reducible exact LeO.refl _)
      | (with_reducible exact LeO.none _)
      | (with_reducible refine LeO.ite ?_ ?_)
      | (with_reducible refine LeO.bind ?_ (fun _ => ?_))
      | exact ih0 _ _ _ _ _ _ _ _ _ _ _ _ _ _ _ _
      | exact ih1 _ _ _ _ _ _ _ _ _ _ _ _ _ _ _ _
      | exact spec_AllReach.mono _ _ _
      | exact spec_AreVersions.mono _ _
      | exact spec_IsEndpoint.mono _ _ _ _ _
      | exact spec_IsRollout.mono _ _ _ _ _
      | exact spec_ListsOf.mono _ _ _ _ _ _ _ _ _ _ _ _ _ _ _ _
      | exact spec_l32Tags.mono _ _
      | exact spec_l9Has.mono _ _ _
      | exact LeO.none _
      | refine LeO.ite ?_ ?_
      | refine LeO.bind ?_ (fun _ => ?_)
theorem spec_IsWorld.mono : ∀ a0 a1 a2 a3 a4 a5 a6 a7 a8 a9 a10 a11 a12 a13 a14 k, LeO (spec_IsWorld.f k a0 a1 a2 a3 a4 a5 a6 a7 a8 a9 a10 a11 a12 a13 a14) (spec_IsWorld.f (k + 1) a0 a1 a2 a3 a4 a5 a6 a7 a8 a9 a10 a11 a12 a13 a14) := by
  intro a0 a1 a2 a3 a4 a5 a6 a7 a8 a9 a10 a11 a12 a13 a14 k
  obtain ⟨ih0, ih1⟩ := spec_IsWorld.mono_l k
  unfold spec_IsWorld.f
  repeat' first
      | (with_reducible exact ih0 _ _ _ _ _ _ _ _ _ _ _ _ _ _ _ _)
      | (with_reducible exact ih1 _ _ _ _ _ _ _ _ _ _ _ _ _ _ _ _)
      | (with_reducible exact spec_AllReach.mono _ _ _)
      | (with_reducible exact spec_AreVersions.mono _ _)
      | (with_reducible exact spec_IsEndpoint.mono _ _ _ _ _)
      | (with_reducible exact spec_IsRollout.mono _ _ _ _ _)
      | (with_reducible exact spec_ListsOf.mono _ _ _ _ _ _ _ _ _ _ _ _ _ _ _ _)
      | (with_reducible exact spec_l32Tags.mono _ _)
      | (with_reducible exact spec_l9Has.mono _ _ _)
      | (with_reducible exact LeO.refl _)
      | (with_reducible exact LeO.none _)
      | (with_reducible refine LeO.ite ?_ ?_)
      | (with_reducible refine LeO.bind ?_ (fun _ => ?_))
      | exact ih0 _ _ _ _ _ _ _ _ _ _ _ _ _ _ _ _
      | exact ih1 _ _ _ _ _ _ _ _ _ _ _ _ _ _ _ _
      | exact spec_AllReach.mono _ _ _
      | exact spec_AreVersions.mono _ _
      | exact spec_IsEndpoint.mono _ _ _ _ _
      | exact spec_IsRollout.mono _ _ _ _ _
      | exact spec_ListsOf.mono _ _ _ _ _ _ _ _ _ _ _ _ _ _ _ _
      | exact spec_l32Tags.mono _ _
      | exact spec_l9Has.mono _ _ _
      | exact LeO.none _
      | refine LeO.ite ?_ ?_
      | refine LeO.bind ?_ (fun _ => ?_)
def spec_IsWorld.T6 : Bool × List (List Nat × List Nat) := (true, [([], []), ([0], [0]), ([1], [1]), ([2], [2]), ([3, 2], [3]), ([4], [4]), ([5, 4], [4, 5]), ([6, 4, 4], [4, 6]), ([7, 4], [4, 7]), ([4, 8], [4, 8]), ([9, 7], [9]), ([10], [10]), ([11, 10], [10, 11]), ([12, 10, 10], [10, 12]), ([13, 10], [10, 13]), ([10, 14], [10, 14]), ([15, 13], [15]), ([16], [16]), ([17, 16], [16, 17]), ([18, 16], [16, 18]), ([19, 16], [16, 19]), ([16, 20], [16, 20]), ([21, 16], [21]), ([22], [22]), ([23, 22], [22, 23]), ([24, 22, 22], [22, 24]), ([25, 22], [22, 25]), ([22, 26], [22, 26]), ([27, 25], [27]), ([28], [28]), ([29, 28], [28, 29]), ([28], [28]), ([31, 28], [28, 31]), ([32, 28], [28, 32]), ([30, 33, 28, 28], [28, 30, 33]), ([34, 28], [28, 34]), ([28, 35], [28, 35]), ([36, 34], [36]), ([37], [37]), ([38, 37], [37, 38]), ([37], [37]), ([40, 37, 37], [37, 40]), ([39, 41, 41, 37], [37, 39, 41]), ([42, 37], [37, 42]), ([37, 43], [37, 43])])
def spec_IsWorld.B6 : List Nat := [0, 1, 3, 7, 15, 31, 63, 127, 255, 511, 1023, 2047, 4095, 8191, 16383, 32767, 65535, 131071, 262143, 524287, 1048575, 2097151, 4194303, 8388607, 16777215, 33554431, 67108863, 134217727, 268435455, 536870911, 1073741823, 536870911, 2684354559, 6979321855, 17179869183, 34359738367, 68719476735, 137438953471, 274877906943, 549755813887, 274877906943, 1374389534719, 4398046511103, 8796093022207, 17592186044415]
theorem spec_IsWorld.tab6 : rtab .any (opsOf Try.f10 6) = spec_IsWorld.T6 := by kernel_rfl
theorem spec_IsWorld.bits6 : waitsOk spec_IsWorld.T6.2 spec_IsWorld.B6 = true := by kernel_rfl
set_option maxHeartbeats 8000000 in
set_option maxRecDepth 100000 in
theorem spec_IsWorld.calls (k : Nat) (A0_0 : Option Addr) (c0_0 : Nat) (l0_0 : List Int) (A0_1 : Option Addr) (c0_1 : Nat) (l0_1 : List Int) (a0_2 : Int) (A0_3 : Option Addr) (c0_3 : Nat) (l0_3 : List (S50)) (a0_4 : Int) (A0_5 : Option Addr) (c0_5 : Nat) (l0_5 : List Int) (a0_6 : Int) (a0_7 : Bool) (a0_8 : Int) (a0_9 : Int) (A0_10 : Option Addr) (c0_10 : Nat) (l0_10 : List (S55)) (A0_11 : Option Addr) (c0_11 : Nat) (l0_11 : List (S57)) (a0_12 : Int) (a0_13 : Int) (a0_14 : Int) (r : Bool) (w : World) (hr0_0 : Kd.C (Kd.int .i64) w A0_0 l0_0.length l0_0) (hc0_0 : l0_0.length ≤ c0_0) (hr0_1 : Kd.C (Kd.int .i64) w A0_1 l0_1.length l0_1) (hc0_1 : l0_1.length ≤ c0_1) (hr0_3 : Kd.C k50 w A0_3 l0_3.length l0_3) (hc0_3 : l0_3.length ≤ c0_3) (hr0_5 : Kd.C (Kd.int .i64) w A0_5 l0_5.length l0_5) (hc0_5 : l0_5.length ≤ c0_5) (hr0_10 : Kd.C k55 w A0_10 l0_10.length l0_10) (hc0_10 : l0_10.length ≤ c0_10) (hr0_11 : Kd.C k57 w A0_11 l0_11.length l0_11) (hc0_11 : l0_11.length ≤ c0_11) (h : spec_IsWorld.f k l0_0 l0_1 a0_2 l0_3 a0_4 l0_5 a0_6 a0_7 a0_8 a0_9 l0_10 l0_11 a0_12 a0_13 a0_14 = some r) :
    Calls Try.prog 10 #[.agg #[.slice A0_0 l0_0.length c0_0, .slice A0_1 l0_1.length c0_1, .int .i64 a0_2, .slice A0_3 l0_3.length c0_3, .int .i64 a0_4, .slice A0_5 l0_5.length c0_5, .int .i64 a0_6, .bool a0_7, .int .i64 a0_8, .int .i64 a0_9, .slice A0_10 l0_10.length c0_10, .slice A0_11 l0_11.length c0_11, .int .i64 a0_12, .int .i64 a0_13, .int .i64 a0_14]] w fun e w' => e = .returned (.bool r) ∧ Below w.heap.size w w' := by
  have hu37 := Try.underlying37
  have hu50 := Try.underlying50
  have hu33 := Try.underlying33
  have HR0_0 := Aside0.mk hr0_0
  have HC0_0 := Aside0.mk hc0_0
  clear hr0_0 hc0_0
  have HR0_1 := Aside0.mk hr0_1
  have HC0_1 := Aside0.mk hc0_1
  clear hr0_1 hc0_1
  have HR0_3 := Aside0.mk hr0_3
  have HC0_3 := Aside0.mk hc0_3
  clear hr0_3 hc0_3
  have HR0_5 := Aside0.mk hr0_5
  have HC0_5 := Aside0.mk hc0_5
  clear hr0_5 hc0_5
  have HR0_10 := Aside0.mk hr0_10
  have HC0_10 := Aside0.mk hc0_10
  clear hr0_10 hc0_10
  have HR0_11 := Aside0.mk hr0_11
  have HC0_11 := Aside0.mk hc0_11
  clear hr0_11 hc0_11
  have HB := Aside0.mk (Below.refl w.heap.size w)
  have H : (spec_IsWorld.l0 k 0 l0_0 l0_1 a0_2 l0_3 a0_4 l0_5 a0_6 a0_7 a0_8 a0_9 l0_10 l0_11 a0_12 a0_13 a0_14) = some r := h
  clear h
  have H' := Aside0.mk H
  clear H
  go_enter Try.func10, Try.ntmps10
  go_wp2_with (first | ((with_reducible refine gate_dst (N := 1) rfl ?_); (try (refine gate_guard (by rfl) ?_; dsimp only)); refine box_event ?hg (N := 1) ?hd (cs := #[.slice A0_0 l0_0.length c0_0, .slice A0_1 l0_1.length c0_1, .int .i64 a0_2, .slice A0_3 l0_3.length c0_3, .int .i64 a0_4, .slice A0_5 l0_5.length c0_5, .int .i64 a0_6, .bool a0_7, .int .i64 a0_8, .int .i64 a0_9, .slice A0_10 l0_10.length c0_10, .slice A0_11 l0_11.length c0_11, .int .i64 a0_12, .int .i64 a0_13, .int .i64 a0_14]) (t := 37) ?hr ?_; (case hd => rfl); (case hg => rfl); (case hr => first | (go_simp; done) | (go_simp; rfl)); intro gb391 hg w2 hbox hb; have n0_ := Aside0.mk (below_step (pb_ HB.out) hb); have n1_ := Aside0.mk (hbox); have n2_ := Aside0.mk ((by rw [hg]; exact (below_size (pb_ HB.out)) : w.heap.size ≤ gb391)); have n3_ := Aside0.mk ((by rw [hg]; exact (below_size (pb_ HB.out)) : w.heap.size ≤ gb391)); clear HB; have HB := n0_; have BK391 := n1_; have GW391 := n2_; have GE391 := n3_; clear n0_ n1_ n2_ n3_; clear hb hbox hg))
  (try simp only [Act.put, List.setIfInBounds_toArray, List.set_cons_zero, List.set_cons_succ])
  go_loopg [3] k (fun kq v3 w' => ∃ (x3_1 : Int), v3 = .int .i64 x3_1 ∧ Aside0 (spec_IsWorld.l0 kq x3_1 l0_0 l0_1 a0_2 l0_3 a0_4 l0_5 a0_6 a0_7 a0_8 a0_9 l0_10 l0_11 a0_12 a0_13 a0_14 = some r) ∧ Aside0 (kq ≤ k) ∧ Aside0 (w'.heap[gb391]? = some (.cells #[(.slice A0_0 l0_0.length c0_0), (.slice A0_1 l0_1.length c0_1), .int .i64 a0_2, (.slice A0_3 l0_3.length c0_3), .int .i64 a0_4, (.slice A0_5 l0_5.length c0_5), .int .i64 a0_6, .bool a0_7, .int .i64 a0_8, .int .i64 a0_9, (.slice A0_10 l0_10.length c0_10), (.slice A0_11 l0_11.length c0_11), .int .i64 a0_12, .int .i64 a0_13, .int .i64 a0_14] 37 (0, 0))) ∧ Aside0 (Below w.heap.size w w'))
  case atStart => exact ⟨(0), el_, H', ⟨Nat.le_refl _⟩, ⟨pk_ BK391.out⟩, ⟨pb1_ HB.out GE391.out⟩⟩
  clear H'
  try clear c1
  try clear p2
  obtain ⟨x3_1, rfl, HA, HK1, BK391, HB⟩ := hrel
  rcases gk with _ | k1
  · exact absurd HA.out (by simp [spec_IsWorld.l0])
  have H := HA.out
  clear HA
  simp only [spec_IsWorld.l0] at H
  by_cases c3 : x3_1 < (l0_3.length : Int)
  · rw [if_pos c3] at H
    have c3b0 : decide (x3_1 < (l0_3.length : Int)) = true := decide_eq_true c3
    clear c3
    by_cases c4 : 0 ≤ x3_1
    rotate_left
    · rw [if_neg c4] at H
      exact absurd H (by simp)
    rw [if_pos c4] at H
    have c4b0 : decide (0 ≤ x3_1) = true := decide_eq_true c4
    clear c4
    replace H := Option.bind_eq_some_iff.mp H
    obtain ⟨t393, A50, H⟩ := H
    (try dsimp only at H)
    have A5 := Aside0.mk A50
    clear A50
    have HS_ := Aside0.mk H
    clear H
    have hcz6 := bc15_ BK391.out
    have p392 : 0 ≤ (x3_1 : Int) := dt_
    have q392 : x3_1 < (l0_3.length : Int) := dt_
    obtain ⟨ad392, A392_0, c392_0, A392_1, c392_1, A392_2, c392_2, e392, hx392_0, hx392_1, hx392_2, hx392_3, hl392_0, hi392_0, hl392_1, hi392_1, hl392_2, hi392_2⟩ := at_T50 HR0_3.out x3_1 p392 q392
    cases e392
    replace hx392_0 := bt_ HB hx392_0
    replace hx392_1 := bt_ HB hx392_1
    replace hx392_2 := bt_ HB hx392_2
    replace hx392_3 := bt_ HB hx392_3
    have HR392_0 := Aside0.mk hi392_0
    have HC392_0 := Aside0.mk hl392_0
    clear hi392_0 hl392_0
    have HR392_1 := Aside0.mk hi392_1
    have HC392_1 := Aside0.mk hl392_1
    clear hi392_1 hl392_1
    have HR392_2 := Aside0.mk hi392_2
    have HC392_2 := Aside0.mk hl392_2
    clear hi392_2 hl392_2
    replace p392 := eq_true p392
    replace q392 := eq_true q392
    go_upto_if 17 with (first | ((with_reducible refine gate_callee (f := 39) rfl ?_); refine gl_ (some 16) Try.func39 #[.agg #[.slice A392_0 ((rd_T50 l0_3 x3_1).f0).length c392_0, .slice A392_1 ((rd_T50 l0_3 x3_1).f1).length c392_1, .slice A392_2 ((rd_T50 l0_3 x3_1).f2).length c392_2, .int .i64 ((rd_T50 l0_3 x3_1).f3)]] ?_; (with_reducible refine (spec_IsEndpoint.calls k1 _ _ ((rd_T50 l0_3 x3_1).f0) _ _ ((rd_T50 l0_3 x3_1).f1) _ _ ((rd_T50 l0_3 x3_1).f2) ((rd_T50 l0_3 x3_1).f3) t393 _ ?side1 ?side2 ?side3 ?side4 ?side5 ?side6 A5.out).mono ?_); (case side1 => exact cb_ HR392_0 HB); (case side2 => exact HC392_0.out); (case side3 => exact cb_ HR392_1 HB); (case side4 => exact HC392_1.out); (case side5 => exact cb_ HR392_2 HB); (case side6 => exact HC392_2.out); rintro e w7 ⟨rfl, hb⟩; refine ⟨_, rfl, ?_⟩; have _ := Aside0.mk (bb_ BK391.out hb); have _ := Aside0.mk (below_step (pb1_ HB.out GE391.out) hb); clear BK391 HB; rename_i BK391 HB; (try clear hb); (try clear hb2); (try clear hk); (try clear hi)))
    (try simp only [Act.put, List.setIfInBounds_toArray, List.set_cons_zero, List.set_cons_succ])
    have H := HS_.out
    clear HS_
    by_cases c8 : t393 = true
    rotate_left
    · replace c8 := Bool.eq_false_iff.mpr c8
      subst c8
      rw [if_neg (show ¬ (false = true) by decide)] at H
      obtain rfl := Option.some.inj H
      go_wp2
      go_ret
      exact ⟨er_, pb1_ HB.out GE391.out⟩
    subst c8
    rw [if_pos rfl] at H
    have H' := Aside0.mk H
    clear H
    go_wp2
    go_roundg k1
    case measure => have := HK1.out; omega
    case rel => exact ⟨(wrap64 (x3_1 + 1)), el_, H', ⟨by have := HK1.out; omega⟩, ⟨pk_ BK391.out⟩, ⟨pb1_ HB.out GE391.out⟩⟩
  rw [if_neg c3] at H
  have c3b0 : decide (x3_1 < (l0_3.length : Int)) = false := decide_eq_false c3
  clear c3
  have HC9 := Aside0.mk H
  clear H
  have hcz10 := bc15_ BK391.out
  go_upto_region 6 with (fail)
  go_cut [62] (fun v62 wc => ∃ (kq : Nat) (x62_8 : Bool), v62 = .bool x62_8 ∧ Aside0 (spec_IsWorld.j1 kq x62_8 l0_0 l0_1 a0_2 l0_3 a0_4 l0_5 a0_6 a0_7 a0_8 a0_9 l0_10 l0_11 a0_12 a0_13 a0_14 = some r) ∧ Aside0 (kq ≤ k1) ∧ Aside0 (wc.heap[gb391]? = some (.cells #[(.slice A0_0 l0_0.length c0_0), (.slice A0_1 l0_1.length c0_1), .int .i64 a0_2, (.slice A0_3 l0_3.length c0_3), .int .i64 a0_4, (.slice A0_5 l0_5.length c0_5), .int .i64 a0_6, .bool a0_7, .int .i64 a0_8, .int .i64 a0_9, (.slice A0_10 l0_10.length c0_10), (.slice A0_11 l0_11.length c0_11), .int .i64 a0_12, .int .i64 a0_13, .int .i64 a0_14] 37 (0, 0))) ∧ Aside0 (Below w.heap.size w wc))
  case first =>
    have H := HC9.out
    clear HC9
    replace H := Option.bind_eq_some_iff.mp H
    obtain ⟨t394, A110, H⟩ := H
    (try dsimp only at H)
    have A11 := Aside0.mk A110
    clear A110
    by_cases c12 : t394 = true
    rotate_left
    · replace c12 := Bool.eq_false_iff.mpr c12
      subst c12
      rw [if_neg (show ¬ (false = true) by decide)] at H
      have H' := Aside0.mk H
      clear H
      try go_wp2
      have _ := Aside0.mk (blk_drew BK391.out)
      have _ := Aside0.mk (below_drew1 HB.out)
      clear BK391 HB
      rename_i BK391 HB
      refine start_ (n := 45) (S := fun w' => w'.cell? ⟨gb391, 0, none⟩ = some (.slice A0_0 l0_0.length c0_0) ∧ w'.cell? ⟨gb391, 1, none⟩ = some (.slice A0_1 l0_1.length c0_1) ∧ w'.cell? ⟨gb391, 2, none⟩ = some (.int .i64 a0_2) ∧ w'.cell? ⟨gb391, 3, none⟩ = some (.slice A0_3 l0_3.length c0_3) ∧ w'.cell? ⟨gb391, 4, none⟩ = some (.int .i64 a0_4) ∧ w'.cell? ⟨gb391, 5, none⟩ = some (.slice A0_5 l0_5.length c0_5) ∧ w'.cell? ⟨gb391, 6, none⟩ = some (.int .i64 a0_6) ∧ w'.cell? ⟨gb391, 7, none⟩ = some (.bool a0_7) ∧ w'.cell? ⟨gb391, 8, none⟩ = some (.int .i64 a0_8) ∧ w'.cell? ⟨gb391, 9, none⟩ = some (.int .i64 a0_9) ∧ w'.cell? ⟨gb391, 10, none⟩ = some (.slice A0_10 l0_10.length c0_10) ∧ w'.cell? ⟨gb391, 11, none⟩ = some (.slice A0_11 l0_11.length c0_11) ∧ w'.cell? ⟨gb391, 12, none⟩ = some (.int .i64 a0_12) ∧ w'.cell? ⟨gb391, 13, none⟩ = some (.int .i64 a0_13) ∧ w'.cell? ⟨gb391, 14, none⟩ = some (.int .i64 a0_14)) (ds := []) (tf_ 0 45) (by kernel_rfl) rfl rfl (sb_ BK391.out) (fun hHeld => ?_); refine with_tabW spec_IsWorld.tab6 spec_IsWorld.bits6 (fun HT_ HW_ => ?_)
      generalize wr.drew = w13 at BK391 HB hHeld ⊢
      refine pu_ 0 (some 18) (tf_ 1 45) HT_ ?_
      refine ta_ 1 (some 19) (tf_ 2 45) HT_ HW_ hHeld ?_
      refine on_ 2 (some 20) (tf_ 3 45) HT_ (fun K hK => ?_)
      refine goes_ Try.func40 (by kernel_rfl) rfl #[.slice A0_0 l0_0.length c0_0] (by rfl) rfl rfl mp_ ?_
      with_reducible refine (spec_AreVersions.calls k1 _ _ l0_0 false _ ?side1 ?side2 A11.out).mono ?_
      (case side1 => exact cb_ HR0_0 HB)
      (case side2 => exact HC0_0.out)
      rintro e w' ⟨rfl, ⟨nd, rfl⟩⟩
      refine ⟨_, rfl, ?_⟩
      refine hK.out _ _ (sb_ BK391.out) (fun hHeld => ?_)
      clear hK K
      refine no_ (some 20) ?_
      refine pu_ 3 (some 21) (tf_ 4 45) HT_ ?_
      refine pu_ 4 (some 22) (tf_ 5 45) HT_ ?_
      refine pn_ 5 (some 23) (tf_ 6 45) HT_ ?_
      refine pn_ 6 (some 24) (tf_ 7 45) HT_ ?_
      refine pn_ 7 (some 25) (tf_ 8 45) HT_ ?_
      refine pn_ 8 (some 26) (tf_ 9 45) HT_ ?_
      refine pu_ 9 (some 27) (tf_ 10 45) HT_ ?_
      refine pu_ 10 (some 28) (tf_ 11 45) HT_ ?_
      refine pn_ 11 (some 29) (tf_ 12 45) HT_ ?_
      refine pn_ 12 (some 30) (tf_ 13 45) HT_ ?_
      refine pn_ 13 (some 31) (tf_ 14 45) HT_ ?_
      refine pn_ 14 (some 32) (tf_ 15 45) HT_ ?_
      refine pu_ 15 (some 33) (tf_ 16 45) HT_ ?_
      refine pu_ 16 (some 34) (tf_ 17 45) HT_ ?_
      refine pn_ 17 (some 35) (tf_ 18 45) HT_ ?_
      refine pn_ 18 (some 36) (tf_ 19 45) HT_ ?_
      refine pn_ 19 (some 37) (tf_ 20 45) HT_ ?_
      refine pn_ 20 (some 38) (tf_ 21 45) HT_ ?_
      refine pu_ 21 (some 39) (tf_ 22 45) HT_ ?_
      refine pu_ 22 (some 40) (tf_ 23 45) HT_ ?_
      refine pn_ 23 (some 41) (tf_ 24 45) HT_ ?_
      refine pn_ 24 (some 42) (tf_ 25 45) HT_ ?_
      refine pn_ 25 (some 43) (tf_ 26 45) HT_ ?_
      refine pn_ 26 (some 44) (tf_ 27 45) HT_ ?_
      refine pu_ 27 (some 45) (tf_ 28 45) HT_ ?_
      refine pu_ 28 (some 46) (tf_ 29 45) HT_ ?_
      refine pn_ 29 (some 47) (tf_ 30 45) HT_ ?_
      refine pn_ 30 (some 48) (tf_ 31 45) HT_ ?_
      refine pn_ 31 (some 49) (tf_ 32 45) HT_ ?_
      refine pn_ 32 (some 50) (tf_ 33 45) HT_ ?_
      refine pn_ 33 (some 51) (tf_ 34 45) HT_ ?_
      refine pn_ 34 (some 52) (tf_ 35 45) HT_ ?_
      refine pn_ 35 (some 53) (tf_ 36 45) HT_ ?_
      refine pu_ 36 (some 54) (tf_ 37 45) HT_ ?_
      refine pu_ 37 (some 55) (tf_ 38 45) HT_ ?_
      refine pn_ 38 (some 56) (tf_ 39 45) HT_ ?_
      refine pn_ 39 (some 57) (tf_ 40 45) HT_ ?_
      refine pn_ 40 (some 58) (tf_ 41 45) HT_ ?_
      refine pn_ 41 (some 59) (tf_ 42 45) HT_ ?_
      refine pn_ 42 (some 60) (tf_ 43 45) HT_ ?_
      refine pn_ 43 (some 61) (tf_ 44 45) HT_ ?_
      refine pu_ 44 (some 62) (tf_ 45 45) HT_ ?_
      refine done_ (done_of HT_.out (by kernel_rfl)) ?_
      try go_wp2
      go_meet
      case rel => exact ⟨_, (true), el_, H', ⟨by have := HK1.out; first | omega | exact Nat.le_refl _⟩, ⟨pk_ BK391.out⟩, ⟨pb1_ HB.out GE391.out⟩⟩
    subst c12
    rw [if_pos rfl] at H
    replace H := Option.bind_eq_some_iff.mp H
    obtain ⟨t395, A140, H⟩ := H
    (try dsimp only at H)
    have A14 := Aside0.mk A140
    clear A140
    by_cases c15 : t395 = true
    rotate_left
    · replace c15 := Bool.eq_false_iff.mpr c15
      subst c15
      rw [if_neg (show ¬ (false = true) by decide)] at H
      have H' := Aside0.mk H
      clear H
      try go_wp2
      have _ := Aside0.mk (blk_drew BK391.out)
      have _ := Aside0.mk (below_drew1 HB.out)
      clear BK391 HB
      rename_i BK391 HB
      refine start_ (n := 45) (S := fun w' => w'.cell? ⟨gb391, 0, none⟩ = some (.slice A0_0 l0_0.length c0_0) ∧ w'.cell? ⟨gb391, 1, none⟩ = some (.slice A0_1 l0_1.length c0_1) ∧ w'.cell? ⟨gb391, 2, none⟩ = some (.int .i64 a0_2) ∧ w'.cell? ⟨gb391, 3, none⟩ = some (.slice A0_3 l0_3.length c0_3) ∧ w'.cell? ⟨gb391, 4, none⟩ = some (.int .i64 a0_4) ∧ w'.cell? ⟨gb391, 5, none⟩ = some (.slice A0_5 l0_5.length c0_5) ∧ w'.cell? ⟨gb391, 6, none⟩ = some (.int .i64 a0_6) ∧ w'.cell? ⟨gb391, 7, none⟩ = some (.bool a0_7) ∧ w'.cell? ⟨gb391, 8, none⟩ = some (.int .i64 a0_8) ∧ w'.cell? ⟨gb391, 9, none⟩ = some (.int .i64 a0_9) ∧ w'.cell? ⟨gb391, 10, none⟩ = some (.slice A0_10 l0_10.length c0_10) ∧ w'.cell? ⟨gb391, 11, none⟩ = some (.slice A0_11 l0_11.length c0_11) ∧ w'.cell? ⟨gb391, 12, none⟩ = some (.int .i64 a0_12) ∧ w'.cell? ⟨gb391, 13, none⟩ = some (.int .i64 a0_13) ∧ w'.cell? ⟨gb391, 14, none⟩ = some (.int .i64 a0_14)) (ds := []) (tf_ 0 45) (by kernel_rfl) rfl rfl (sb_ BK391.out) (fun hHeld => ?_); refine with_tabW spec_IsWorld.tab6 spec_IsWorld.bits6 (fun HT_ HW_ => ?_)
      generalize wr.drew = w16 at BK391 HB hHeld ⊢
      refine pu_ 0 (some 18) (tf_ 1 45) HT_ ?_
      refine ta_ 1 (some 19) (tf_ 2 45) HT_ HW_ hHeld ?_
      refine on_ 2 (some 20) (tf_ 3 45) HT_ (fun K hK => ?_)
      refine goes_ Try.func40 (by kernel_rfl) rfl #[.slice A0_0 l0_0.length c0_0] (by rfl) rfl rfl mp_ ?_
      with_reducible refine (spec_AreVersions.calls k1 _ _ l0_0 true _ ?side1 ?side2 A11.out).mono ?_
      (case side1 => exact cb_ HR0_0 HB)
      (case side2 => exact HC0_0.out)
      rintro e w' ⟨rfl, ⟨nd, rfl⟩⟩
      refine ⟨_, rfl, ?_⟩
      refine hK.out _ _ (sb_ BK391.out) (fun hHeld => ?_)
      clear hK K
      refine no_ (some 20) ?_
      refine pu_ 3 (some 21) (tf_ 4 45) HT_ ?_
      refine pu_ 4 (some 22) (tf_ 5 45) HT_ ?_
      refine pu_ 5 (some 23) (tf_ 6 45) HT_ ?_
      refine ta_ 6 (some 24) (tf_ 7 45) HT_ HW_ hHeld ?_
      refine on_ 7 (some 25) (tf_ 8 45) HT_ (fun K hK => ?_)
      refine goes_ Try.func41 (by kernel_rfl) rfl #[.slice A0_1 l0_1.length c0_1] (by rfl) rfl rfl mp_ ?_
      with_reducible refine (spec_l32Tags.calls k1 _ _ l0_1 false _ ?side1 ?side2 A14.out).mono ?_
      (case side1 => exact pc_ (Kd.C_below HR0_1.out (pb1_ HB.out GE391.out)))
      (case side2 => exact HC0_1.out)
      rintro e w' ⟨rfl, ⟨nd, rfl⟩⟩
      refine ⟨_, rfl, ?_⟩
      refine hK.out _ _ (sb_ BK391.out) (fun hHeld => ?_)
      clear hK K
      refine no_ (some 25) ?_
      refine pu_ 8 (some 26) (tf_ 9 45) HT_ ?_
      refine pu_ 9 (some 27) (tf_ 10 45) HT_ ?_
      refine pu_ 10 (some 28) (tf_ 11 45) HT_ ?_
      refine pn_ 11 (some 29) (tf_ 12 45) HT_ ?_
      refine pn_ 12 (some 30) (tf_ 13 45) HT_ ?_
      refine pn_ 13 (some 31) (tf_ 14 45) HT_ ?_
      refine pn_ 14 (some 32) (tf_ 15 45) HT_ ?_
      refine pu_ 15 (some 33) (tf_ 16 45) HT_ ?_
      refine pu_ 16 (some 34) (tf_ 17 45) HT_ ?_
      refine pn_ 17 (some 35) (tf_ 18 45) HT_ ?_
      refine pn_ 18 (some 36) (tf_ 19 45) HT_ ?_
      refine pn_ 19 (some 37) (tf_ 20 45) HT_ ?_
      refine pn_ 20 (some 38) (tf_ 21 45) HT_ ?_
      refine pu_ 21 (some 39) (tf_ 22 45) HT_ ?_
      refine pu_ 22 (some 40) (tf_ 23 45) HT_ ?_
      refine pn_ 23 (some 41) (tf_ 24 45) HT_ ?_
      refine pn_ 24 (some 42) (tf_ 25 45) HT_ ?_
      refine pn_ 25 (some 43) (tf_ 26 45) HT_ ?_
      refine pn_ 26 (some 44) (tf_ 27 45) HT_ ?_
      refine pu_ 27 (some 45) (tf_ 28 45) HT_ ?_
      refine pu_ 28 (some 46) (tf_ 29 45) HT_ ?_
      refine pn_ 29 (some 47) (tf_ 30 45) HT_ ?_
      refine pn_ 30 (some 48) (tf_ 31 45) HT_ ?_
      refine pn_ 31 (some 49) (tf_ 32 45) HT_ ?_
      refine pn_ 32 (some 50) (tf_ 33 45) HT_ ?_
      refine pn_ 33 (some 51) (tf_ 34 45) HT_ ?_
      refine pn_ 34 (some 52) (tf_ 35 45) HT_ ?_
      refine pn_ 35 (some 53) (tf_ 36 45) HT_ ?_
      refine pu_ 36 (some 54) (tf_ 37 45) HT_ ?_
      refine pu_ 37 (some 55) (tf_ 38 45) HT_ ?_
      refine pn_ 38 (some 56) (tf_ 39 45) HT_ ?_
      refine pn_ 39 (some 57) (tf_ 40 45) HT_ ?_
      refine pn_ 40 (some 58) (tf_ 41 45) HT_ ?_
      refine pn_ 41 (some 59) (tf_ 42 45) HT_ ?_
      refine pn_ 42 (some 60) (tf_ 43 45) HT_ ?_
      refine pn_ 43 (some 61) (tf_ 44 45) HT_ ?_
      refine pu_ 44 (some 62) (tf_ 45 45) HT_ ?_
      refine done_ (done_of HT_.out (by kernel_rfl)) ?_
      try go_wp2
      go_meet
      case rel => exact ⟨_, (true), el_, H', ⟨by have := HK1.out; first | omega | exact Nat.le_refl _⟩, ⟨pk_ BK391.out⟩, ⟨pb1_ HB.out GE391.out⟩⟩
    subst c15
    rw [if_pos rfl] at H
    replace H := Option.bind_eq_some_iff.mp H
    obtain ⟨t396, A170, H⟩ := H
    (try dsimp only at H)
    have A17 := Aside0.mk A170
    clear A170
    by_cases c18 : t396 = true
    rotate_left
    · replace c18 := Bool.eq_false_iff.mpr c18
      subst c18
      rw [if_neg (show ¬ (false = true) by decide)] at H
      have H' := Aside0.mk H
      clear H
      try go_wp2
      have _ := Aside0.mk (blk_drew BK391.out)
      have _ := Aside0.mk (below_drew1 HB.out)
      clear BK391 HB
      rename_i BK391 HB
      refine start_ (n := 45) (S := fun w' => w'.cell? ⟨gb391, 0, none⟩ = some (.slice A0_0 l0_0.length c0_0) ∧ w'.cell? ⟨gb391, 1, none⟩ = some (.slice A0_1 l0_1.length c0_1) ∧ w'.cell? ⟨gb391, 2, none⟩ = some (.int .i64 a0_2) ∧ w'.cell? ⟨gb391, 3, none⟩ = some (.slice A0_3 l0_3.length c0_3) ∧ w'.cell? ⟨gb391, 4, none⟩ = some (.int .i64 a0_4) ∧ w'.cell? ⟨gb391, 5, none⟩ = some (.slice A0_5 l0_5.length c0_5) ∧ w'.cell? ⟨gb391, 6, none⟩ = some (.int .i64 a0_6) ∧ w'.cell? ⟨gb391, 7, none⟩ = some (.bool a0_7) ∧ w'.cell? ⟨gb391, 8, none⟩ = some (.int .i64 a0_8) ∧ w'.cell? ⟨gb391, 9, none⟩ = some (.int .i64 a0_9) ∧ w'.cell? ⟨gb391, 10, none⟩ = some (.slice A0_10 l0_10.length c0_10) ∧ w'.cell? ⟨gb391, 11, none⟩ = some (.slice A0_11 l0_11.length c0_11) ∧ w'.cell? ⟨gb391, 12, none⟩ = some (.int .i64 a0_12) ∧ w'.cell? ⟨gb391, 13, none⟩ = some (.int .i64 a0_13) ∧ w'.cell? ⟨gb391, 14, none⟩ = some (.int .i64 a0_14)) (ds := []) (tf_ 0 45) (by kernel_rfl) rfl rfl (sb_ BK391.out) (fun hHeld => ?_); refine with_tabW spec_IsWorld.tab6 spec_IsWorld.bits6 (fun HT_ HW_ => ?_)
      generalize wr.drew = w19 at BK391 HB hHeld ⊢
      refine pu_ 0 (some 18) (tf_ 1 45) HT_ ?_
      refine ta_ 1 (some 19) (tf_ 2 45) HT_ HW_ hHeld ?_
      refine on_ 2 (some 20) (tf_ 3 45) HT_ (fun K hK => ?_)
      refine goes_ Try.func40 (by kernel_rfl) rfl #[.slice A0_0 l0_0.length c0_0] (by rfl) rfl rfl mp_ ?_
      with_reducible refine (spec_AreVersions.calls k1 _ _ l0_0 true _ ?side1 ?side2 A11.out).mono ?_
      (case side1 => exact cb_ HR0_0 HB)
      (case side2 => exact HC0_0.out)
      rintro e w' ⟨rfl, ⟨nd, rfl⟩⟩
      refine ⟨_, rfl, ?_⟩
      refine hK.out _ _ (sb_ BK391.out) (fun hHeld => ?_)
      clear hK K
      refine no_ (some 20) ?_
      refine pu_ 3 (some 21) (tf_ 4 45) HT_ ?_
      refine pu_ 4 (some 22) (tf_ 5 45) HT_ ?_
      refine pu_ 5 (some 23) (tf_ 6 45) HT_ ?_
      refine ta_ 6 (some 24) (tf_ 7 45) HT_ HW_ hHeld ?_
      refine on_ 7 (some 25) (tf_ 8 45) HT_ (fun K hK => ?_)
      refine goes_ Try.func41 (by kernel_rfl) rfl #[.slice A0_1 l0_1.length c0_1] (by rfl) rfl rfl mp_ ?_
      with_reducible refine (spec_l32Tags.calls k1 _ _ l0_1 true _ ?side1 ?side2 A14.out).mono ?_
      (case side1 => exact pc_ (Kd.C_below HR0_1.out (pb1_ HB.out GE391.out)))
      (case side2 => exact HC0_1.out)
      rintro e w' ⟨rfl, ⟨nd, rfl⟩⟩
      refine ⟨_, rfl, ?_⟩
      refine hK.out _ _ (sb_ BK391.out) (fun hHeld => ?_)
      clear hK K
      refine no_ (some 25) ?_
      refine pu_ 8 (some 26) (tf_ 9 45) HT_ ?_
      refine pu_ 9 (some 27) (tf_ 10 45) HT_ ?_
      refine pu_ 10 (some 28) (tf_ 11 45) HT_ ?_
      refine pu_ 11 (some 29) (tf_ 12 45) HT_ ?_
      refine ta_ 12 (some 30) (tf_ 13 45) HT_ HW_ hHeld ?_
      refine on_ 13 (some 31) (tf_ 14 45) HT_ (fun K hK => ?_)
      refine goes_ Try.func42 (by kernel_rfl) rfl #[.int .i64 a0_2] (by rfl) rfl rfl mp_ ?_
      with_reducible refine (spec_IsValidKey.calls a0_2 false _ A17.out).mono ?_
      rintro e w' ⟨rfl, ⟨nd, rfl⟩⟩
      refine ⟨_, rfl, ?_⟩
      refine hK.out _ _ (sb_ BK391.out) (fun hHeld => ?_)
      clear hK K
      refine no_ (some 31) ?_
      refine pu_ 14 (some 32) (tf_ 15 45) HT_ ?_
      refine pu_ 15 (some 33) (tf_ 16 45) HT_ ?_
      refine pu_ 16 (some 34) (tf_ 17 45) HT_ ?_
      refine pn_ 17 (some 35) (tf_ 18 45) HT_ ?_
      refine pn_ 18 (some 36) (tf_ 19 45) HT_ ?_
      refine pn_ 19 (some 37) (tf_ 20 45) HT_ ?_
      refine pn_ 20 (some 38) (tf_ 21 45) HT_ ?_
      refine pu_ 21 (some 39) (tf_ 22 45) HT_ ?_
      refine pu_ 22 (some 40) (tf_ 23 45) HT_ ?_
      refine pn_ 23 (some 41) (tf_ 24 45) HT_ ?_
      refine pn_ 24 (some 42) (tf_ 25 45) HT_ ?_
      refine pn_ 25 (some 43) (tf_ 26 45) HT_ ?_
      refine pn_ 26 (some 44) (tf_ 27 45) HT_ ?_
      refine pu_ 27 (some 45) (tf_ 28 45) HT_ ?_
      refine pu_ 28 (some 46) (tf_ 29 45) HT_ ?_
      refine pn_ 29 (some 47) (tf_ 30 45) HT_ ?_
      refine pn_ 30 (some 48) (tf_ 31 45) HT_ ?_
      refine pn_ 31 (some 49) (tf_ 32 45) HT_ ?_
      refine pn_ 32 (some 50) (tf_ 33 45) HT_ ?_
      refine pn_ 33 (some 51) (tf_ 34 45) HT_ ?_
      refine pn_ 34 (some 52) (tf_ 35 45) HT_ ?_
      refine pn_ 35 (some 53) (tf_ 36 45) HT_ ?_
      refine pu_ 36 (some 54) (tf_ 37 45) HT_ ?_
      refine pu_ 37 (some 55) (tf_ 38 45) HT_ ?_
      refine pn_ 38 (some 56) (tf_ 39 45) HT_ ?_
      refine pn_ 39 (some 57) (tf_ 40 45) HT_ ?_
      refine pn_ 40 (some 58) (tf_ 41 45) HT_ ?_
      refine pn_ 41 (some 59) (tf_ 42 45) HT_ ?_
      refine pn_ 42 (some 60) (tf_ 43 45) HT_ ?_
      refine pn_ 43 (some 61) (tf_ 44 45) HT_ ?_
      refine pu_ 44 (some 62) (tf_ 45 45) HT_ ?_
      refine done_ (done_of HT_.out (by kernel_rfl)) ?_
      try go_wp2
      go_meet
      case rel => exact ⟨_, (true), el_, H', ⟨by have := HK1.out; first | omega | exact Nat.le_refl _⟩, ⟨pk_ BK391.out⟩, ⟨pb1_ HB.out GE391.out⟩⟩
    subst c18
    rw [if_pos rfl] at H
    by_cases c20 : (l0_3.length : Int) > 6
    · rw [if_pos c20] at H
      have c20b0 : decide (6 < (l0_3.length : Int)) = true := decide_eq_true c20
      have c20b1 : decide (6 < l0_3.length) = true := decide_eq_true (by omega)
      clear c20
      (first | rw [c20b0] | (simp only [i64_w, i32_w]; rw [c20b0]) | rw [c20b1] | skip)
      have H' := Aside0.mk H
      clear H
      try go_wp2
      have _ := Aside0.mk (blk_drew BK391.out)
      have _ := Aside0.mk (below_drew1 HB.out)
      clear BK391 HB
      rename_i BK391 HB
      refine start_ (n := 45) (S := fun w' => w'.cell? ⟨gb391, 0, none⟩ = some (.slice A0_0 l0_0.length c0_0) ∧ w'.cell? ⟨gb391, 1, none⟩ = some (.slice A0_1 l0_1.length c0_1) ∧ w'.cell? ⟨gb391, 2, none⟩ = some (.int .i64 a0_2) ∧ w'.cell? ⟨gb391, 3, none⟩ = some (.slice A0_3 l0_3.length c0_3) ∧ w'.cell? ⟨gb391, 4, none⟩ = some (.int .i64 a0_4) ∧ w'.cell? ⟨gb391, 5, none⟩ = some (.slice A0_5 l0_5.length c0_5) ∧ w'.cell? ⟨gb391, 6, none⟩ = some (.int .i64 a0_6) ∧ w'.cell? ⟨gb391, 7, none⟩ = some (.bool a0_7) ∧ w'.cell? ⟨gb391, 8, none⟩ = some (.int .i64 a0_8) ∧ w'.cell? ⟨gb391, 9, none⟩ = some (.int .i64 a0_9) ∧ w'.cell? ⟨gb391, 10, none⟩ = some (.slice A0_10 l0_10.length c0_10) ∧ w'.cell? ⟨gb391, 11, none⟩ = some (.slice A0_11 l0_11.length c0_11) ∧ w'.cell? ⟨gb391, 12, none⟩ = some (.int .i64 a0_12) ∧ w'.cell? ⟨gb391, 13, none⟩ = some (.int .i64 a0_13) ∧ w'.cell? ⟨gb391, 14, none⟩ = some (.int .i64 a0_14)) (ds := []) (tf_ 0 45) (by kernel_rfl) rfl rfl (sb_ BK391.out) (fun hHeld => ?_); refine with_tabW spec_IsWorld.tab6 spec_IsWorld.bits6 (fun HT_ HW_ => ?_)
      generalize wr.drew = w21 at BK391 HB hHeld ⊢
      refine pu_ 0 (some 18) (tf_ 1 45) HT_ ?_
      refine ta_ 1 (some 19) (tf_ 2 45) HT_ HW_ hHeld ?_
      refine on_ 2 (some 20) (tf_ 3 45) HT_ (fun K hK => ?_)
      refine goes_ Try.func40 (by kernel_rfl) rfl #[.slice A0_0 l0_0.length c0_0] (by rfl) rfl rfl mp_ ?_
      with_reducible refine (spec_AreVersions.calls k1 _ _ l0_0 true _ ?side1 ?side2 A11.out).mono ?_
      (case side1 => exact cb_ HR0_0 HB)
      (case side2 => exact HC0_0.out)
      rintro e w' ⟨rfl, ⟨nd, rfl⟩⟩
      refine ⟨_, rfl, ?_⟩
      refine hK.out _ _ (sb_ BK391.out) (fun hHeld => ?_)
      clear hK K
      refine no_ (some 20) ?_
      refine pu_ 3 (some 21) (tf_ 4 45) HT_ ?_
      refine pu_ 4 (some 22) (tf_ 5 45) HT_ ?_
      refine pu_ 5 (some 23) (tf_ 6 45) HT_ ?_
      refine ta_ 6 (some 24) (tf_ 7 45) HT_ HW_ hHeld ?_
      refine on_ 7 (some 25) (tf_ 8 45) HT_ (fun K hK => ?_)
      refine goes_ Try.func41 (by kernel_rfl) rfl #[.slice A0_1 l0_1.length c0_1] (by rfl) rfl rfl mp_ ?_
      with_reducible refine (spec_l32Tags.calls k1 _ _ l0_1 true _ ?side1 ?side2 A14.out).mono ?_
      (case side1 => exact pc_ (Kd.C_below HR0_1.out (pb1_ HB.out GE391.out)))
      (case side2 => exact HC0_1.out)
      rintro e w' ⟨rfl, ⟨nd, rfl⟩⟩
      refine ⟨_, rfl, ?_⟩
      refine hK.out _ _ (sb_ BK391.out) (fun hHeld => ?_)
      clear hK K
      refine no_ (some 25) ?_
      refine pu_ 8 (some 26) (tf_ 9 45) HT_ ?_
      refine pu_ 9 (some 27) (tf_ 10 45) HT_ ?_
      refine pu_ 10 (some 28) (tf_ 11 45) HT_ ?_
      refine pu_ 11 (some 29) (tf_ 12 45) HT_ ?_
      refine ta_ 12 (some 30) (tf_ 13 45) HT_ HW_ hHeld ?_
      refine on_ 13 (some 31) (tf_ 14 45) HT_ (fun K hK => ?_)
      refine goes_ Try.func42 (by kernel_rfl) rfl #[.int .i64 a0_2] (by rfl) rfl rfl mp_ ?_
      with_reducible refine (spec_IsValidKey.calls a0_2 true _ A17.out).mono ?_
      rintro e w' ⟨rfl, ⟨nd, rfl⟩⟩
      refine ⟨_, rfl, ?_⟩
      refine hK.out _ _ (sb_ BK391.out) (fun hHeld => ?_)
      clear hK K
      refine no_ (some 31) ?_
      refine pu_ 14 (some 32) (tf_ 15 45) HT_ ?_
      refine pu_ 15 (some 33) (tf_ 16 45) HT_ ?_
      refine pu_ 16 (some 34) (tf_ 17 45) HT_ ?_
      refine pu_ 17 (some 35) (tf_ 18 45) HT_ ?_
      refine ta_ 18 (some 36) (tf_ 19 45) HT_ HW_ hHeld ?_
      refine pu_ 19 (some 37) (tf_ 20 45) HT_ ?_
      refine pu_ 20 (some 38) (tf_ 21 45) HT_ ?_
      refine pu_ 21 (some 39) (tf_ 22 45) HT_ ?_
      refine pu_ 22 (some 40) (tf_ 23 45) HT_ ?_
      refine pn_ 23 (some 41) (tf_ 24 45) HT_ ?_
      refine pn_ 24 (some 42) (tf_ 25 45) HT_ ?_
      refine pn_ 25 (some 43) (tf_ 26 45) HT_ ?_
      refine pn_ 26 (some 44) (tf_ 27 45) HT_ ?_
      refine pu_ 27 (some 45) (tf_ 28 45) HT_ ?_
      refine pu_ 28 (some 46) (tf_ 29 45) HT_ ?_
      refine pn_ 29 (some 47) (tf_ 30 45) HT_ ?_
      refine pn_ 30 (some 48) (tf_ 31 45) HT_ ?_
      refine pn_ 31 (some 49) (tf_ 32 45) HT_ ?_
      refine pn_ 32 (some 50) (tf_ 33 45) HT_ ?_
      refine pn_ 33 (some 51) (tf_ 34 45) HT_ ?_
      refine pn_ 34 (some 52) (tf_ 35 45) HT_ ?_
      refine pn_ 35 (some 53) (tf_ 36 45) HT_ ?_
      refine pu_ 36 (some 54) (tf_ 37 45) HT_ ?_
      refine pu_ 37 (some 55) (tf_ 38 45) HT_ ?_
      refine pn_ 38 (some 56) (tf_ 39 45) HT_ ?_
      refine pn_ 39 (some 57) (tf_ 40 45) HT_ ?_
      refine pn_ 40 (some 58) (tf_ 41 45) HT_ ?_
      refine pn_ 41 (some 59) (tf_ 42 45) HT_ ?_
      refine pn_ 42 (some 60) (tf_ 43 45) HT_ ?_
      refine pn_ 43 (some 61) (tf_ 44 45) HT_ ?_
      refine pu_ 44 (some 62) (tf_ 45 45) HT_ ?_
      refine done_ (done_of HT_.out (by kernel_rfl)) ?_
      try go_wp2
      go_meet
      case rel => exact ⟨_, (true), el_, H', ⟨by have := HK1.out; first | omega | exact Nat.le_refl _⟩, ⟨pk_ BK391.out⟩, ⟨pb1_ HB.out GE391.out⟩⟩
    rw [if_neg c20] at H
    have c20b0 : decide (6 < (l0_3.length : Int)) = false := decide_eq_false c20
    have c20b1 : decide (6 < l0_3.length) = false := decide_eq_false (by omega)
    clear c20
    (first | rw [c20b0] | (simp only [i64_w, i32_w]; rw [c20b0]) | rw [c20b1] | skip)
    replace H := Option.bind_eq_some_iff.mp H
    obtain ⟨t397, A220, H⟩ := H
    (try dsimp only at H)
    have A22 := Aside0.mk A220
    clear A220
    by_cases c23 : t397 = true
    rotate_left
    · replace c23 := Bool.eq_false_iff.mpr c23
      subst c23
      rw [if_neg (show ¬ (false = true) by decide)] at H
      have H' := Aside0.mk H
      clear H
      try go_wp2
      have _ := Aside0.mk (blk_drew BK391.out)
      have _ := Aside0.mk (below_drew1 HB.out)
      clear BK391 HB
      rename_i BK391 HB
      refine start_ (n := 45) (S := fun w' => w'.cell? ⟨gb391, 0, none⟩ = some (.slice A0_0 l0_0.length c0_0) ∧ w'.cell? ⟨gb391, 1, none⟩ = some (.slice A0_1 l0_1.length c0_1) ∧ w'.cell? ⟨gb391, 2, none⟩ = some (.int .i64 a0_2) ∧ w'.cell? ⟨gb391, 3, none⟩ = some (.slice A0_3 l0_3.length c0_3) ∧ w'.cell? ⟨gb391, 4, none⟩ = some (.int .i64 a0_4) ∧ w'.cell? ⟨gb391, 5, none⟩ = some (.slice A0_5 l0_5.length c0_5) ∧ w'.cell? ⟨gb391, 6, none⟩ = some (.int .i64 a0_6) ∧ w'.cell? ⟨gb391, 7, none⟩ = some (.bool a0_7) ∧ w'.cell? ⟨gb391, 8, none⟩ = some (.int .i64 a0_8) ∧ w'.cell? ⟨gb391, 9, none⟩ = some (.int .i64 a0_9) ∧ w'.cell? ⟨gb391, 10, none⟩ = some (.slice A0_10 l0_10.length c0_10) ∧ w'.cell? ⟨gb391, 11, none⟩ = some (.slice A0_11 l0_11.length c0_11) ∧ w'.cell? ⟨gb391, 12, none⟩ = some (.int .i64 a0_12) ∧ w'.cell? ⟨gb391, 13, none⟩ = some (.int .i64 a0_13) ∧ w'.cell? ⟨gb391, 14, none⟩ = some (.int .i64 a0_14)) (ds := []) (tf_ 0 45) (by kernel_rfl) rfl rfl (sb_ BK391.out) (fun hHeld => ?_); refine with_tabW spec_IsWorld.tab6 spec_IsWorld.bits6 (fun HT_ HW_ => ?_)
      generalize wr.drew = w24 at BK391 HB hHeld ⊢
      refine pu_ 0 (some 18) (tf_ 1 45) HT_ ?_
      refine ta_ 1 (some 19) (tf_ 2 45) HT_ HW_ hHeld ?_
      refine on_ 2 (some 20) (tf_ 3 45) HT_ (fun K hK => ?_)
      refine goes_ Try.func40 (by kernel_rfl) rfl #[.slice A0_0 l0_0.length c0_0] (by rfl) rfl rfl mp_ ?_
      with_reducible refine (spec_AreVersions.calls k1 _ _ l0_0 true _ ?side1 ?side2 A11.out).mono ?_
      (case side1 => exact cb_ HR0_0 HB)
      (case side2 => exact HC0_0.out)
      rintro e w' ⟨rfl, ⟨nd, rfl⟩⟩
      refine ⟨_, rfl, ?_⟩
      refine hK.out _ _ (sb_ BK391.out) (fun hHeld => ?_)
      clear hK K
      refine no_ (some 20) ?_
      refine pu_ 3 (some 21) (tf_ 4 45) HT_ ?_
      refine pu_ 4 (some 22) (tf_ 5 45) HT_ ?_
      refine pu_ 5 (some 23) (tf_ 6 45) HT_ ?_
      refine ta_ 6 (some 24) (tf_ 7 45) HT_ HW_ hHeld ?_
      refine on_ 7 (some 25) (tf_ 8 45) HT_ (fun K hK => ?_)
      refine goes_ Try.func41 (by kernel_rfl) rfl #[.slice A0_1 l0_1.length c0_1] (by rfl) rfl rfl mp_ ?_
      with_reducible refine (spec_l32Tags.calls k1 _ _ l0_1 true _ ?side1 ?side2 A14.out).mono ?_
      (case side1 => exact pc_ (Kd.C_below HR0_1.out (pb1_ HB.out GE391.out)))
      (case side2 => exact HC0_1.out)
      rintro e w' ⟨rfl, ⟨nd, rfl⟩⟩
      refine ⟨_, rfl, ?_⟩
      refine hK.out _ _ (sb_ BK391.out) (fun hHeld => ?_)
      clear hK K
      refine no_ (some 25) ?_
      refine pu_ 8 (some 26) (tf_ 9 45) HT_ ?_
      refine pu_ 9 (some 27) (tf_ 10 45) HT_ ?_
      refine pu_ 10 (some 28) (tf_ 11 45) HT_ ?_
      refine pu_ 11 (some 29) (tf_ 12 45) HT_ ?_
      refine ta_ 12 (some 30) (tf_ 13 45) HT_ HW_ hHeld ?_
      refine on_ 13 (some 31) (tf_ 14 45) HT_ (fun K hK => ?_)
      refine goes_ Try.func42 (by kernel_rfl) rfl #[.int .i64 a0_2] (by rfl) rfl rfl mp_ ?_
      with_reducible refine (spec_IsValidKey.calls a0_2 true _ A17.out).mono ?_
      rintro e w' ⟨rfl, ⟨nd, rfl⟩⟩
      refine ⟨_, rfl, ?_⟩
      refine hK.out _ _ (sb_ BK391.out) (fun hHeld => ?_)
      clear hK K
      refine no_ (some 31) ?_
      refine pu_ 14 (some 32) (tf_ 15 45) HT_ ?_
      refine pu_ 15 (some 33) (tf_ 16 45) HT_ ?_
      refine pu_ 16 (some 34) (tf_ 17 45) HT_ ?_
      refine pu_ 17 (some 35) (tf_ 18 45) HT_ ?_
      refine ta_ 18 (some 36) (tf_ 19 45) HT_ HW_ hHeld ?_
      refine pu_ 19 (some 37) (tf_ 20 45) HT_ ?_
      refine pu_ 20 (some 38) (tf_ 21 45) HT_ ?_
      refine pu_ 21 (some 39) (tf_ 22 45) HT_ ?_
      refine pu_ 22 (some 40) (tf_ 23 45) HT_ ?_
      refine pu_ 23 (some 41) (tf_ 24 45) HT_ ?_
      refine ta_ 24 (some 42) (tf_ 25 45) HT_ HW_ hHeld ?_
      refine on_ 25 (some 43) (tf_ 26 45) HT_ (fun K hK => ?_)
      refine goes_ Try.func43 (by kernel_rfl) rfl #[.agg #[.int .i64 a0_4, .slice A0_5 l0_5.length c0_5, .int .i64 a0_6, .bool a0_7]] (by rfl) rfl rfl mp_ ?_
      with_reducible refine (spec_IsRollout.calls k1 a0_4 _ _ l0_5 a0_6 a0_7 false _ ?side1 ?side2 A22.out).mono ?_
      (case side1 => exact pc_ (Kd.C_below HR0_5.out (pb1_ HB.out GE391.out)))
      (case side2 => exact HC0_5.out)
      rintro e w25 ⟨rfl, hb⟩
      refine ⟨_, rfl, ?_⟩
      have _ := Aside0.mk (bb_ BK391.out hb)
      have _ := Aside0.mk (below_step (pb1_ HB.out GE391.out) hb)
      clear BK391 HB
      rename_i BK391 HB
      (try clear hb)
      (try clear hb2)
      (try clear hk)
      (try clear hi)
      refine hK.out _ _ (sb_ BK391.out) (fun hHeld => ?_)
      clear hK K
      refine no_ (some 43) ?_
      refine pu_ 26 (some 44) (tf_ 27 45) HT_ ?_
      refine pu_ 27 (some 45) (tf_ 28 45) HT_ ?_
      refine pu_ 28 (some 46) (tf_ 29 45) HT_ ?_
      refine pn_ 29 (some 47) (tf_ 30 45) HT_ ?_
      refine pn_ 30 (some 48) (tf_ 31 45) HT_ ?_
      refine pn_ 31 (some 49) (tf_ 32 45) HT_ ?_
      refine pn_ 32 (some 50) (tf_ 33 45) HT_ ?_
      refine pn_ 33 (some 51) (tf_ 34 45) HT_ ?_
      refine pn_ 34 (some 52) (tf_ 35 45) HT_ ?_
      refine pn_ 35 (some 53) (tf_ 36 45) HT_ ?_
      refine pu_ 36 (some 54) (tf_ 37 45) HT_ ?_
      refine pu_ 37 (some 55) (tf_ 38 45) HT_ ?_
      refine pn_ 38 (some 56) (tf_ 39 45) HT_ ?_
      refine pn_ 39 (some 57) (tf_ 40 45) HT_ ?_
      refine pn_ 40 (some 58) (tf_ 41 45) HT_ ?_
      refine pn_ 41 (some 59) (tf_ 42 45) HT_ ?_
      refine pn_ 42 (some 60) (tf_ 43 45) HT_ ?_
      refine pn_ 43 (some 61) (tf_ 44 45) HT_ ?_
      refine pu_ 44 (some 62) (tf_ 45 45) HT_ ?_
      refine done_ (done_of HT_.out (by kernel_rfl)) ?_
      try go_wp2
      go_meet
      case rel => exact ⟨_, (true), el_, H', ⟨by have := HK1.out; first | omega | exact Nat.le_refl _⟩, ⟨pk_ BK391.out⟩, ⟨pb1_ HB.out GE391.out⟩⟩
    subst c23
    rw [if_pos rfl] at H
    replace H := Option.bind_eq_some_iff.mp H
    obtain ⟨t398, A260, H⟩ := H
    (try dsimp only at H)
    have A26 := Aside0.mk A260
    clear A260
    by_cases c27 : t398 = true
    rotate_left
    · replace c27 := Bool.eq_false_iff.mpr c27
      subst c27
      rw [if_neg (show ¬ (false = true) by decide)] at H
      have H' := Aside0.mk H
      clear H
      try go_wp2
      have _ := Aside0.mk (blk_drew BK391.out)
      have _ := Aside0.mk (below_drew1 HB.out)
      clear BK391 HB
      rename_i BK391 HB
      refine start_ (n := 45) (S := fun w' => w'.cell? ⟨gb391, 0, none⟩ = some (.slice A0_0 l0_0.length c0_0) ∧ w'.cell? ⟨gb391, 1, none⟩ = some (.slice A0_1 l0_1.length c0_1) ∧ w'.cell? ⟨gb391, 2, none⟩ = some (.int .i64 a0_2) ∧ w'.cell? ⟨gb391, 3, none⟩ = some (.slice A0_3 l0_3.length c0_3) ∧ w'.cell? ⟨gb391, 4, none⟩ = some (.int .i64 a0_4) ∧ w'.cell? ⟨gb391, 5, none⟩ = some (.slice A0_5 l0_5.length c0_5) ∧ w'.cell? ⟨gb391, 6, none⟩ = some (.int .i64 a0_6) ∧ w'.cell? ⟨gb391, 7, none⟩ = some (.bool a0_7) ∧ w'.cell? ⟨gb391, 8, none⟩ = some (.int .i64 a0_8) ∧ w'.cell? ⟨gb391, 9, none⟩ = some (.int .i64 a0_9) ∧ w'.cell? ⟨gb391, 10, none⟩ = some (.slice A0_10 l0_10.length c0_10) ∧ w'.cell? ⟨gb391, 11, none⟩ = some (.slice A0_11 l0_11.length c0_11) ∧ w'.cell? ⟨gb391, 12, none⟩ = some (.int .i64 a0_12) ∧ w'.cell? ⟨gb391, 13, none⟩ = some (.int .i64 a0_13) ∧ w'.cell? ⟨gb391, 14, none⟩ = some (.int .i64 a0_14)) (ds := []) (tf_ 0 45) (by kernel_rfl) rfl rfl (sb_ BK391.out) (fun hHeld => ?_); refine with_tabW spec_IsWorld.tab6 spec_IsWorld.bits6 (fun HT_ HW_ => ?_)
      generalize wr.drew = w28 at BK391 HB hHeld ⊢
      refine pu_ 0 (some 18) (tf_ 1 45) HT_ ?_
      refine ta_ 1 (some 19) (tf_ 2 45) HT_ HW_ hHeld ?_
      refine on_ 2 (some 20) (tf_ 3 45) HT_ (fun K hK => ?_)
      refine goes_ Try.func40 (by kernel_rfl) rfl #[.slice A0_0 l0_0.length c0_0] (by rfl) rfl rfl mp_ ?_
      with_reducible refine (spec_AreVersions.calls k1 _ _ l0_0 true _ ?side1 ?side2 A11.out).mono ?_
      (case side1 => exact cb_ HR0_0 HB)
      (case side2 => exact HC0_0.out)
      rintro e w' ⟨rfl, ⟨nd, rfl⟩⟩
      refine ⟨_, rfl, ?_⟩
      refine hK.out _ _ (sb_ BK391.out) (fun hHeld => ?_)
      clear hK K
      refine no_ (some 20) ?_
      refine pu_ 3 (some 21) (tf_ 4 45) HT_ ?_
      refine pu_ 4 (some 22) (tf_ 5 45) HT_ ?_
      refine pu_ 5 (some 23) (tf_ 6 45) HT_ ?_
      refine ta_ 6 (some 24) (tf_ 7 45) HT_ HW_ hHeld ?_
      refine on_ 7 (some 25) (tf_ 8 45) HT_ (fun K hK => ?_)
      refine goes_ Try.func41 (by kernel_rfl) rfl #[.slice A0_1 l0_1.length c0_1] (by rfl) rfl rfl mp_ ?_
      with_reducible refine (spec_l32Tags.calls k1 _ _ l0_1 true _ ?side1 ?side2 A14.out).mono ?_
      (case side1 => exact pc_ (Kd.C_below HR0_1.out (pb1_ HB.out GE391.out)))
      (case side2 => exact HC0_1.out)
      rintro e w' ⟨rfl, ⟨nd, rfl⟩⟩
      refine ⟨_, rfl, ?_⟩
      refine hK.out _ _ (sb_ BK391.out) (fun hHeld => ?_)
      clear hK K
      refine no_ (some 25) ?_
      refine pu_ 8 (some 26) (tf_ 9 45) HT_ ?_
      refine pu_ 9 (some 27) (tf_ 10 45) HT_ ?_
      refine pu_ 10 (some 28) (tf_ 11 45) HT_ ?_
      refine pu_ 11 (some 29) (tf_ 12 45) HT_ ?_
      refine ta_ 12 (some 30) (tf_ 13 45) HT_ HW_ hHeld ?_
      refine on_ 13 (some 31) (tf_ 14 45) HT_ (fun K hK => ?_)
      refine goes_ Try.func42 (by kernel_rfl) rfl #[.int .i64 a0_2] (by rfl) rfl rfl mp_ ?_
      with_reducible refine (spec_IsValidKey.calls a0_2 true _ A17.out).mono ?_
      rintro e w' ⟨rfl, ⟨nd, rfl⟩⟩
      refine ⟨_, rfl, ?_⟩
      refine hK.out _ _ (sb_ BK391.out) (fun hHeld => ?_)
      clear hK K
      refine no_ (some 31) ?_
      refine pu_ 14 (some 32) (tf_ 15 45) HT_ ?_
      refine pu_ 15 (some 33) (tf_ 16 45) HT_ ?_
      refine pu_ 16 (some 34) (tf_ 17 45) HT_ ?_
      refine pu_ 17 (some 35) (tf_ 18 45) HT_ ?_
      refine ta_ 18 (some 36) (tf_ 19 45) HT_ HW_ hHeld ?_
      refine pu_ 19 (some 37) (tf_ 20 45) HT_ ?_
      refine pu_ 20 (some 38) (tf_ 21 45) HT_ ?_
      refine pu_ 21 (some 39) (tf_ 22 45) HT_ ?_
      refine pu_ 22 (some 40) (tf_ 23 45) HT_ ?_
      refine pu_ 23 (some 41) (tf_ 24 45) HT_ ?_
      refine ta_ 24 (some 42) (tf_ 25 45) HT_ HW_ hHeld ?_
      refine on_ 25 (some 43) (tf_ 26 45) HT_ (fun K hK => ?_)
      refine goes_ Try.func43 (by kernel_rfl) rfl #[.agg #[.int .i64 a0_4, .slice A0_5 l0_5.length c0_5, .int .i64 a0_6, .bool a0_7]] (by rfl) rfl rfl mp_ ?_
      with_reducible refine (spec_IsRollout.calls k1 a0_4 _ _ l0_5 a0_6 a0_7 true _ ?side1 ?side2 A22.out).mono ?_
      (case side1 => exact pc_ (Kd.C_below HR0_5.out (pb1_ HB.out GE391.out)))
      (case side2 => exact HC0_5.out)
      rintro e w29 ⟨rfl, hb⟩
      refine ⟨_, rfl, ?_⟩
      have _ := Aside0.mk (bb_ BK391.out hb)
      have _ := Aside0.mk (below_step (pb1_ HB.out GE391.out) hb)
      clear BK391 HB
      rename_i BK391 HB
      (try clear hb)
      (try clear hb2)
      (try clear hk)
      (try clear hi)
      refine hK.out _ _ (sb_ BK391.out) (fun hHeld => ?_)
      clear hK K
      refine no_ (some 43) ?_
      refine pu_ 26 (some 44) (tf_ 27 45) HT_ ?_
      refine pu_ 27 (some 45) (tf_ 28 45) HT_ ?_
      refine pu_ 28 (some 46) (tf_ 29 45) HT_ ?_
      refine pu_ 29 (some 47) (tf_ 30 45) HT_ ?_
      refine pu_ 31 (some 49) (tm_ 45 3221225471) HT_ ?_
      refine pu_ 32 (some 50) (tm_ 45 7516192767) HT_ ?_
      refine ta_ 30 (some 48) (tf_ 33 45) HT_ HW_ hHeld ?_
      refine ta_ 33 (some 51) (tf_ 34 45) HT_ HW_ hHeld ?_
      refine on_ 34 (some 52) (tf_ 35 45) HT_ (fun K hK => ?_)
      refine goes_ Try.func44 (by kernel_rfl) rfl #[.slice A0_0 l0_0.length c0_0, .int .i64 a0_4] (by rfl) rfl rfl mp_ ?_
      with_reducible refine (spec_l9Has.calls k1 _ _ l0_0 a0_4 false _ ?side1 ?side2 A26.out).mono ?_
      (case side1 => exact cb_ HR0_0 HB)
      (case side2 => exact HC0_0.out)
      rintro e w' ⟨rfl, ⟨nd, rfl⟩⟩
      refine ⟨_, rfl, ?_⟩
      refine hK.out _ _ (sb_ BK391.out) (fun hHeld => ?_)
      clear hK K
      refine no_ (some 52) ?_
      refine pu_ 35 (some 53) (tf_ 36 45) HT_ ?_
      refine pu_ 36 (some 54) (tf_ 37 45) HT_ ?_
      refine pu_ 37 (some 55) (tf_ 38 45) HT_ ?_
      refine pn_ 38 (some 56) (tf_ 39 45) HT_ ?_
      refine pn_ 39 (some 57) (tf_ 40 45) HT_ ?_
      refine pn_ 40 (some 58) (tf_ 41 45) HT_ ?_
      refine pn_ 41 (some 59) (tf_ 42 45) HT_ ?_
      refine pn_ 42 (some 60) (tf_ 43 45) HT_ ?_
      refine pn_ 43 (some 61) (tf_ 44 45) HT_ ?_
      refine pu_ 44 (some 62) (tf_ 45 45) HT_ ?_
      refine done_ (done_of HT_.out (by kernel_rfl)) ?_
      try go_wp2
      go_meet
      case rel => exact ⟨_, (true), el_, H', ⟨by have := HK1.out; first | omega | exact Nat.le_refl _⟩, ⟨pk_ BK391.out⟩, ⟨pb1_ HB.out GE391.out⟩⟩
    subst c27
    rw [if_pos rfl] at H
    replace H := Option.bind_eq_some_iff.mp H
    obtain ⟨t399, A300, H⟩ := H
    (try dsimp only at H)
    have A30 := Aside0.mk A300
    clear A300
    replace H := Option.bind_eq_some_iff.mp H
    obtain ⟨t402, A310, H⟩ := H
    (try dsimp only at H)
    have A31 := Aside0.mk A310
    clear A310
    have H' := Aside0.mk H
    clear H
    try go_wp2
    have _ := Aside0.mk (blk_drew BK391.out)
    have _ := Aside0.mk (below_drew1 HB.out)
    clear BK391 HB
    rename_i BK391 HB
    refine start_ (n := 45) (S := fun w' => w'.cell? ⟨gb391, 0, none⟩ = some (.slice A0_0 l0_0.length c0_0) ∧ w'.cell? ⟨gb391, 1, none⟩ = some (.slice A0_1 l0_1.length c0_1) ∧ w'.cell? ⟨gb391, 2, none⟩ = some (.int .i64 a0_2) ∧ w'.cell? ⟨gb391, 3, none⟩ = some (.slice A0_3 l0_3.length c0_3) ∧ w'.cell? ⟨gb391, 4, none⟩ = some (.int .i64 a0_4) ∧ w'.cell? ⟨gb391, 5, none⟩ = some (.slice A0_5 l0_5.length c0_5) ∧ w'.cell? ⟨gb391, 6, none⟩ = some (.int .i64 a0_6) ∧ w'.cell? ⟨gb391, 7, none⟩ = some (.bool a0_7) ∧ w'.cell? ⟨gb391, 8, none⟩ = some (.int .i64 a0_8) ∧ w'.cell? ⟨gb391, 9, none⟩ = some (.int .i64 a0_9) ∧ w'.cell? ⟨gb391, 10, none⟩ = some (.slice A0_10 l0_10.length c0_10) ∧ w'.cell? ⟨gb391, 11, none⟩ = some (.slice A0_11 l0_11.length c0_11) ∧ w'.cell? ⟨gb391, 12, none⟩ = some (.int .i64 a0_12) ∧ w'.cell? ⟨gb391, 13, none⟩ = some (.int .i64 a0_13) ∧ w'.cell? ⟨gb391, 14, none⟩ = some (.int .i64 a0_14)) (ds := []) (tf_ 0 45) (by kernel_rfl) rfl rfl (sb_ BK391.out) (fun hHeld => ?_); refine with_tabW spec_IsWorld.tab6 spec_IsWorld.bits6 (fun HT_ HW_ => ?_)
    generalize wr.drew = w32 at BK391 HB hHeld ⊢
    refine pu_ 0 (some 18) (tf_ 1 45) HT_ ?_
    refine ta_ 1 (some 19) (tf_ 2 45) HT_ HW_ hHeld ?_
    refine on_ 2 (some 20) (tf_ 3 45) HT_ (fun K hK => ?_)
    refine goes_ Try.func40 (by kernel_rfl) rfl #[.slice A0_0 l0_0.length c0_0] (by rfl) rfl rfl mp_ ?_
    with_reducible refine (spec_AreVersions.calls k1 _ _ l0_0 true _ ?side1 ?side2 A11.out).mono ?_
    (case side1 => exact cb_ HR0_0 HB)
    (case side2 => exact HC0_0.out)
    rintro e w' ⟨rfl, ⟨nd, rfl⟩⟩
    refine ⟨_, rfl, ?_⟩
    refine hK.out _ _ (sb_ BK391.out) (fun hHeld => ?_)
    clear hK K
    refine no_ (some 20) ?_
    refine pu_ 3 (some 21) (tf_ 4 45) HT_ ?_
    refine pu_ 4 (some 22) (tf_ 5 45) HT_ ?_
    refine pu_ 5 (some 23) (tf_ 6 45) HT_ ?_
    refine ta_ 6 (some 24) (tf_ 7 45) HT_ HW_ hHeld ?_
    refine on_ 7 (some 25) (tf_ 8 45) HT_ (fun K hK => ?_)
    refine goes_ Try.func41 (by kernel_rfl) rfl #[.slice A0_1 l0_1.length c0_1] (by rfl) rfl rfl mp_ ?_
    with_reducible refine (spec_l32Tags.calls k1 _ _ l0_1 true _ ?side1 ?side2 A14.out).mono ?_
    (case side1 => exact pc_ (Kd.C_below HR0_1.out (pb1_ HB.out GE391.out)))
    (case side2 => exact HC0_1.out)
    rintro e w' ⟨rfl, ⟨nd, rfl⟩⟩
    refine ⟨_, rfl, ?_⟩
    refine hK.out _ _ (sb_ BK391.out) (fun hHeld => ?_)
    clear hK K
    refine no_ (some 25) ?_
    refine pu_ 8 (some 26) (tf_ 9 45) HT_ ?_
    refine pu_ 9 (some 27) (tf_ 10 45) HT_ ?_
    refine pu_ 10 (some 28) (tf_ 11 45) HT_ ?_
    refine pu_ 11 (some 29) (tf_ 12 45) HT_ ?_
    refine ta_ 12 (some 30) (tf_ 13 45) HT_ HW_ hHeld ?_
    refine on_ 13 (some 31) (tf_ 14 45) HT_ (fun K hK => ?_)
    refine goes_ Try.func42 (by kernel_rfl) rfl #[.int .i64 a0_2] (by rfl) rfl rfl mp_ ?_
    with_reducible refine (spec_IsValidKey.calls a0_2 true _ A17.out).mono ?_
    rintro e w' ⟨rfl, ⟨nd, rfl⟩⟩
    refine ⟨_, rfl, ?_⟩
    refine hK.out _ _ (sb_ BK391.out) (fun hHeld => ?_)
    clear hK K
    refine no_ (some 31) ?_
    refine pu_ 14 (some 32) (tf_ 15 45) HT_ ?_
    refine pu_ 15 (some 33) (tf_ 16 45) HT_ ?_
    refine pu_ 16 (some 34) (tf_ 17 45) HT_ ?_
    refine pu_ 17 (some 35) (tf_ 18 45) HT_ ?_
    refine ta_ 18 (some 36) (tf_ 19 45) HT_ HW_ hHeld ?_
    refine pu_ 19 (some 37) (tf_ 20 45) HT_ ?_
    refine pu_ 20 (some 38) (tf_ 21 45) HT_ ?_
    refine pu_ 21 (some 39) (tf_ 22 45) HT_ ?_
    refine pu_ 22 (some 40) (tf_ 23 45) HT_ ?_
    refine pu_ 23 (some 41) (tf_ 24 45) HT_ ?_
    refine ta_ 24 (some 42) (tf_ 25 45) HT_ HW_ hHeld ?_
    refine on_ 25 (some 43) (tf_ 26 45) HT_ (fun K hK => ?_)
    refine goes_ Try.func43 (by kernel_rfl) rfl #[.agg #[.int .i64 a0_4, .slice A0_5 l0_5.length c0_5, .int .i64 a0_6, .bool a0_7]] (by rfl) rfl rfl mp_ ?_
    with_reducible refine (spec_IsRollout.calls k1 a0_4 _ _ l0_5 a0_6 a0_7 true _ ?side1 ?side2 A22.out).mono ?_
    (case side1 => exact pc_ (Kd.C_below HR0_5.out (pb1_ HB.out GE391.out)))
    (case side2 => exact HC0_5.out)
    rintro e w33 ⟨rfl, hb⟩
    refine ⟨_, rfl, ?_⟩
    have _ := Aside0.mk (bb_ BK391.out hb)
    have _ := Aside0.mk (below_step (pb1_ HB.out GE391.out) hb)
    clear BK391 HB
    rename_i BK391 HB
    (try clear hb)
    (try clear hb2)
    (try clear hk)
    (try clear hi)
    refine hK.out _ _ (sb_ BK391.out) (fun hHeld => ?_)
    clear hK K
    refine no_ (some 43) ?_
    refine pu_ 26 (some 44) (tf_ 27 45) HT_ ?_
    refine pu_ 27 (some 45) (tf_ 28 45) HT_ ?_
    refine pu_ 28 (some 46) (tf_ 29 45) HT_ ?_
    refine pu_ 29 (some 47) (tf_ 30 45) HT_ ?_
    refine pu_ 31 (some 49) (tm_ 45 3221225471) HT_ ?_
    refine pu_ 32 (some 50) (tm_ 45 7516192767) HT_ ?_
    refine ta_ 30 (some 48) (tf_ 33 45) HT_ HW_ hHeld ?_
    refine ta_ 33 (some 51) (tf_ 34 45) HT_ HW_ hHeld ?_
    refine on_ 34 (some 52) (tf_ 35 45) HT_ (fun K hK => ?_)
    refine goes_ Try.func44 (by kernel_rfl) rfl #[.slice A0_0 l0_0.length c0_0, .int .i64 a0_4] (by rfl) rfl rfl mp_ ?_
    with_reducible refine (spec_l9Has.calls k1 _ _ l0_0 a0_4 true _ ?side1 ?side2 A26.out).mono ?_
    (case side1 => exact cb_ HR0_0 HB)
    (case side2 => exact HC0_0.out)
    rintro e w' ⟨rfl, ⟨nd, rfl⟩⟩
    refine ⟨_, rfl, ?_⟩
    refine hK.out _ _ (sb_ BK391.out) (fun hHeld => ?_)
    clear hK K
    refine no_ (some 52) ?_
    refine pu_ 35 (some 53) (tf_ 36 45) HT_ ?_
    refine pu_ 36 (some 54) (tf_ 37 45) HT_ ?_
    refine pu_ 37 (some 55) (tf_ 38 45) HT_ ?_
    refine pu_ 38 (some 56) (tf_ 39 45) HT_ ?_
    refine ta_ 39 (some 57) (tf_ 40 45) HT_ HW_ hHeld ?_
    refine ta_ 40 (some 58) (tf_ 41 45) HT_ HW_ hHeld ?_
    refine on_ 41 (some 59) (tf_ 42 45) HT_ (fun K hK => ?_)
    refine goes_ Try.func46 (by kernel_rfl) rfl #[.agg #[.slice A0_0 l0_0.length c0_0, .slice A0_1 l0_1.length c0_1, .int .i64 a0_2, .slice A0_3 l0_3.length c0_3, .int .i64 a0_4, .slice A0_5 l0_5.length c0_5, .int .i64 a0_6, .bool a0_7, .int .i64 a0_8, .int .i64 a0_9, .slice A0_10 l0_10.length c0_10, .slice A0_11 l0_11.length c0_11, .int .i64 a0_12, .int .i64 a0_13, .int .i64 a0_14]] (by rfl) rfl rfl mp_ ?_
    with_reducible refine (spec_ListsOf.calls k1 _ _ l0_0 _ _ l0_1 a0_2 _ _ l0_3 a0_4 _ _ l0_5 a0_6 a0_7 a0_8 a0_9 _ _ l0_10 _ _ l0_11 a0_12 a0_13 a0_14 t399 _ ?side1 ?side2 ?side3 ?side4 ?side5 ?side6 ?side7 ?side8 ?side9 ?side10 ?side11 ?side12 A30.out).mono ?_
    (case side1 => exact pc_ (Kd.C_below HR0_0.out (pb1_ HB.out GE391.out)))
    (case side2 => exact HC0_0.out)
    (case side3 => exact pc_ (Kd.C_below HR0_1.out (pb1_ HB.out GE391.out)))
    (case side4 => exact HC0_1.out)
    (case side5 => exact pc_ (Kd.C_below HR0_3.out (pb1_ HB.out GE391.out)))
    (case side6 => exact HC0_3.out)
    (case side7 => exact pc_ (Kd.C_below HR0_5.out (pb1_ HB.out GE391.out)))
    (case side8 => exact HC0_5.out)
    (case side9 => exact pc_ (Kd.C_below HR0_10.out (pb1_ HB.out GE391.out)))
    (case side10 => exact HC0_10.out)
    (case side11 => exact pc_ (Kd.C_below HR0_11.out (pb1_ HB.out GE391.out)))
    (case side12 => exact HC0_11.out)
    rintro e w34 ⟨v400, rfl, ho0, hb⟩
    refine ⟨_, rfl, ?_⟩
    have _ := Aside0.mk (Kd.S_lower ho0 (below_size (pb1_ HB.out GE391.out)))
    have _ := Aside0.mk (bb_ BK391.out hb)
    have _ := Aside0.mk (below_step (pb1_ HB.out GE391.out) hb)
    clear BK391 HB
    rename_i HO401 BK391 HB
    (try clear hb)
    (try clear hb2)
    (try clear hk)
    (try clear hi)
    (try clear ho0)
    obtain ⟨Ao35, co35, eo35⟩ := Kd.S_slice HO401.out
    (first | subst eo35 | (injection eo35 with f1_ f2_ f3_; have f4_ := f1_.symm; have f5_ := f3_.symm; clear f1_ f2_ f3_; subst f4_; subst f5_))
    refine hK.out _ _ (sb_ BK391.out) (fun hHeld => ?_)
    clear hK K
    refine no_ (some 59) ?_
    refine on_ 42 (some 60) (tf_ 43 45) HT_ (fun K hK => ?_)
    refine goes_ Try.func45 (by kernel_rfl) rfl #[.slice A0_0 l0_0.length c0_0, .slice Ao35 t399.length co35] (by rfl) rfl rfl mp_ ?_
    with_reducible refine (spec_AllReach.calls k1 _ _ l0_0 _ _ t399 t402 _ ?side1 ?side2 ?side3 ?side4 A31.out).mono ?_
    (case side1 => exact cb_ HR0_0 HB)
    (case side2 => exact HC0_0.out)
    (case side3 => exact pc_ ((Kd.S_reads' HO401.out).2.2))
    (case side4 => exact (Kd.S_reads' HO401.out).2.1)
    rintro e w36 ⟨rfl, hb⟩
    refine ⟨_, rfl, ?_⟩
    have _ := Aside0.mk (Kd.S_below (ps_ HO401.out) hb)
    have _ := Aside0.mk (bb_ BK391.out hb)
    have _ := Aside0.mk (below_step (pb1_ HB.out GE391.out) hb)
    clear HO401 BK391 HB
    rename_i HO401 BK391 HB
    (try clear hb)
    (try clear hb2)
    (try clear hk)
    (try clear hi)
    refine hK.out _ _ (sb_ BK391.out) (fun hHeld => ?_)
    clear hK K
    refine no_ (some 60) ?_
    refine pu_ 43 (some 61) (tf_ 44 45) HT_ ?_
    refine pu_ 44 (some 62) (tf_ 45 45) HT_ ?_
    refine done_ (done_of HT_.out (by kernel_rfl)) ?_
    try go_wp2
    go_meet
    case rel => exact ⟨_, (!t402), el_, H', ⟨by have := HK1.out; first | omega | exact Nat.le_refl _⟩, ⟨pk_ BK391.out⟩, ⟨pb1_ HB.out GE391.out⟩⟩
  clear HC9
  try clear c2
  try clear p2
  try clear c4
  try clear c27
  obtain ⟨kq, x62_8, rfl, HA, HJ8, BK391, HB⟩ := hcut
  rcases kq with _ | kj8
  · exact absurd HA.out (by simp [spec_IsWorld.j1])
  have H := HA.out
  clear HA
  simp only [spec_IsWorld.j1] at H
  by_cases c37 : x62_8 = true
  · subst c37
    rw [if_pos rfl] at H
    obtain rfl := Option.some.inj H
    go_wp2
    go_ret
    exact ⟨er_, pb1_ HB.out GE391.out⟩
  replace c37 := Bool.eq_false_iff.mpr c37
  subst c37
  rw [if_neg (show ¬ (false = true) by decide)] at H
  replace H := Option.bind_eq_some_iff.mp H
  obtain ⟨t403, A380, H⟩ := H
  (try dsimp only at H)
  have A38 := Aside0.mk A380
  clear A380
  by_cases c39 : t403 = true
  rotate_left
  · replace c39 := Bool.eq_false_iff.mpr c39
    subst c39
    rw [if_neg (show ¬ (false = true) by decide)] at H
    obtain rfl := Option.some.inj H
    have hcz40 := bc15_ BK391.out
    go_wp2_with (first | ((with_reducible refine gate_callee (f := 47) rfl ?_); refine gl_ (some 65) Try.func47 #[.int .i64 a0_8, .int .i64 1, .int .i64 100] ?_; (with_reducible refine (spec_l1In.calls a0_8 1 100 false _ A38.out).mono ?_); rintro e w' ⟨rfl, ⟨nd, rfl⟩⟩; refine ⟨_, rfl, ?_⟩))
    go_ret
    exact ⟨er_, pb1_ HB.out GE391.out⟩
  subst c39
  rw [if_pos rfl] at H
  replace H := Option.bind_eq_some_iff.mp H
  obtain ⟨t404, A410, H⟩ := H
  (try dsimp only at H)
  have A41 := Aside0.mk A410
  clear A410
  by_cases c42 : t404 = true
  rotate_left
  · replace c42 := Bool.eq_false_iff.mpr c42
    subst c42
    rw [if_neg (show ¬ (false = true) by decide)] at H
    obtain rfl := Option.some.inj H
    have hcz43 := bc15_ BK391.out
    go_wp2_with (first | ((with_reducible refine gate_callee (f := 47) rfl ?_); refine gl_ (some 65) Try.func47 #[.int .i64 a0_8, .int .i64 1, .int .i64 100] ?_; (with_reducible refine (spec_l1In.calls a0_8 1 100 true _ A38.out).mono ?_); rintro e w' ⟨rfl, ⟨nd, rfl⟩⟩; refine ⟨_, rfl, ?_⟩) | (go_at_call 47; (with_reducible refine (spec_l1In.calls a0_9 0 100 false _ A41.out).mono ?_); rintro e w' ⟨rfl, ⟨nd, rfl⟩⟩))
    go_ret
    exact ⟨er_, pb1_ HB.out GE391.out⟩
  subst c42
  rw [if_pos rfl] at H
  by_cases c44 : (l0_10.length : Int) ≤ 60
  rotate_left
  · rw [if_neg c44] at H
    have c44b0 : decide ((l0_10.length : Int) ≤ 60) = false := decide_eq_false c44
    have c44b1 : decide (l0_10.length ≤ 60) = false := decide_eq_false (by omega)
    clear c44
    obtain rfl := Option.some.inj H
    have hcz45 := bc15_ BK391.out
    go_wp2_with (first | ((with_reducible refine gate_callee (f := 47) rfl ?_); refine gl_ (some 65) Try.func47 #[.int .i64 a0_8, .int .i64 1, .int .i64 100] ?_; (with_reducible refine (spec_l1In.calls a0_8 1 100 true _ A38.out).mono ?_); rintro e w' ⟨rfl, ⟨nd, rfl⟩⟩; refine ⟨_, rfl, ?_⟩) | (go_at_call 47; (with_reducible refine (spec_l1In.calls a0_9 0 100 true _ A41.out).mono ?_); rintro e w' ⟨rfl, ⟨nd, rfl⟩⟩))
    go_ret
    exact ⟨er_, pb1_ HB.out GE391.out⟩
  rw [if_pos c44] at H
  have c44b0 : decide ((l0_10.length : Int) ≤ 60) = true := decide_eq_true c44
  have c44b1 : decide (l0_10.length ≤ 60) = true := decide_eq_true (by omega)
  clear c44
  by_cases c46 : (l0_11.length : Int) ≤ 60
  rotate_left
  · rw [if_neg c46] at H
    have c46b0 : decide ((l0_11.length : Int) ≤ 60) = false := decide_eq_false c46
    have c46b1 : decide (l0_11.length ≤ 60) = false := decide_eq_false (by omega)
    clear c46
    obtain rfl := Option.some.inj H
    have hcz47 := bc15_ BK391.out
    go_wp2_with (first | ((with_reducible refine gate_callee (f := 47) rfl ?_); refine gl_ (some 65) Try.func47 #[.int .i64 a0_8, .int .i64 1, .int .i64 100] ?_; (with_reducible refine (spec_l1In.calls a0_8 1 100 true _ A38.out).mono ?_); rintro e w' ⟨rfl, ⟨nd, rfl⟩⟩; refine ⟨_, rfl, ?_⟩) | (go_at_call 47; (with_reducible refine (spec_l1In.calls a0_9 0 100 true _ A41.out).mono ?_); rintro e w' ⟨rfl, ⟨nd, rfl⟩⟩))
    go_ret
    exact ⟨er_, pb1_ HB.out GE391.out⟩
  rw [if_pos c46] at H
  have c46b0 : decide ((l0_11.length : Int) ≤ 60) = true := decide_eq_true c46
  have c46b1 : decide (l0_11.length ≤ 60) = true := decide_eq_true (by omega)
  clear c46
  replace H := Option.bind_eq_some_iff.mp H
  obtain ⟨t405, A480, H⟩ := H
  (try dsimp only at H)
  have A48 := Aside0.mk A480
  clear A480
  by_cases c49 : t405 = true
  rotate_left
  · replace c49 := Bool.eq_false_iff.mpr c49
    subst c49
    rw [if_neg (show ¬ (false = true) by decide)] at H
    obtain rfl := Option.some.inj H
    have hcz50 := bc15_ BK391.out
    go_wp2_with (first | ((with_reducible refine gate_callee (f := 47) rfl ?_); refine gl_ (some 65) Try.func47 #[.int .i64 a0_8, .int .i64 1, .int .i64 100] ?_; (with_reducible refine (spec_l1In.calls a0_8 1 100 true _ A38.out).mono ?_); rintro e w' ⟨rfl, ⟨nd, rfl⟩⟩; refine ⟨_, rfl, ?_⟩) | (go_at_call 47; (with_reducible refine (spec_l1In.calls a0_9 0 100 true _ A41.out).mono ?_); rintro e w' ⟨rfl, ⟨nd, rfl⟩⟩) | (go_at_call 47; (with_reducible refine (spec_l1In.calls a0_12 0 10000 false _ A48.out).mono ?_); rintro e w' ⟨rfl, ⟨nd, rfl⟩⟩))
    go_ret
    exact ⟨er_, pb1_ HB.out GE391.out⟩
  subst c49
  rw [if_pos rfl] at H
  replace H := Option.bind_eq_some_iff.mp H
  obtain ⟨t406, A510, H⟩ := H
  (try dsimp only at H)
  have A51 := Aside0.mk A510
  clear A510
  by_cases c52 : t406 = true
  rotate_left
  · replace c52 := Bool.eq_false_iff.mpr c52
    subst c52
    rw [if_neg (show ¬ (false = true) by decide)] at H
    obtain rfl := Option.some.inj H
    have hcz53 := bc15_ BK391.out
    go_wp2_with (first | ((with_reducible refine gate_callee (f := 47) rfl ?_); refine gl_ (some 65) Try.func47 #[.int .i64 a0_8, .int .i64 1, .int .i64 100] ?_; (with_reducible refine (spec_l1In.calls a0_8 1 100 true _ A38.out).mono ?_); rintro e w' ⟨rfl, ⟨nd, rfl⟩⟩; refine ⟨_, rfl, ?_⟩) | (go_at_call 47; (with_reducible refine (spec_l1In.calls a0_9 0 100 true _ A41.out).mono ?_); rintro e w' ⟨rfl, ⟨nd, rfl⟩⟩) | (go_at_call 47; (with_reducible refine (spec_l1In.calls a0_12 0 10000 true _ A48.out).mono ?_); rintro e w' ⟨rfl, ⟨nd, rfl⟩⟩) | (go_at_call 47; (with_reducible refine (spec_l1In.calls a0_13 0 (l0_11.length : Int) false _ A51.out).mono ?_); rintro e w' ⟨rfl, ⟨nd, rfl⟩⟩))
    go_ret
    exact ⟨er_, pb1_ HB.out GE391.out⟩
  subst c52
  rw [if_pos rfl] at H
  replace H := Option.bind_eq_some_iff.mp H
  obtain ⟨t407, A540, H⟩ := H
  replace H : (some t407) = some r := H
  have A54 := Aside0.mk A540
  clear A540
  obtain rfl := Option.some.inj H
  have hcz55 := bc15_ BK391.out
  go_wp2_with (first | ((with_reducible refine gate_callee (f := 47) rfl ?_); refine gl_ (some 65) Try.func47 #[.int .i64 a0_8, .int .i64 1, .int .i64 100] ?_; (with_reducible refine (spec_l1In.calls a0_8 1 100 true _ A38.out).mono ?_); rintro e w' ⟨rfl, ⟨nd, rfl⟩⟩; refine ⟨_, rfl, ?_⟩) | (go_at_call 47; (with_reducible refine (spec_l1In.calls a0_9 0 100 true _ A41.out).mono ?_); rintro e w' ⟨rfl, ⟨nd, rfl⟩⟩) | (go_at_call 47; (with_reducible refine (spec_l1In.calls a0_12 0 10000 true _ A48.out).mono ?_); rintro e w' ⟨rfl, ⟨nd, rfl⟩⟩) | (go_at_call 47; (with_reducible refine (spec_l1In.calls a0_13 0 (l0_11.length : Int) true _ A51.out).mono ?_); rintro e w' ⟨rfl, ⟨nd, rfl⟩⟩) | (go_at_call 47; (with_reducible refine (spec_l1In.calls a0_14 0 (l0_5.length : Int) t407 _ A54.out).mono ?_); rintro e w' ⟨rfl, ⟨nd, rfl⟩⟩))
  go_ret
  exact ⟨er_, pb1_ HB.out GE391.out⟩

end Go.Proofs.Ytchnkakjjbfklaa.Print
