-- Written by a program of this session (printx.py) out of the translation; Lean checks it.
import Derived.Test.YtchnkakjjbfklaaPrint0
import Derived.Test.YtchnkakjjbfklaaPrint11
import Derived.Test.YtchnkakjjbfklaaPrint12
import Derived.Test.YtchnkakjjbfklaaPrint13
import Derived.Test.YtchnkakjjbfklaaPrint14
namespace Go.Proofs.Ytchnkakjjbfklaa.Print
open Go.RowKit Go.Proofs.YtchnkakjjbfklaaW.PrintWords Go.Proofs.YtchnkakjjbfklaaW.PrintLast Go.Proofs.YtchnkakjjbfklaaW.PrintMore Go.Proofs.Ytchnkakjjbfklaa.Short
attribute [local go_sem] max2_int min2_int max_two min_two max_three min_three max_four min_four   -- for this text's walks alone
set_option linter.unusedVariables false
set_option linter.unusedSimpArgs false

/-! ### impl_IsWorld: function 11 -/
mutual
def impl_IsWorld.j0 : Nat → Bool → List Int → List Int → Int → List (S50) → Int → List Int → Int → Bool → Int → Int → List (S55) → List (S57) → Int → Int → Int → Option (Bool)
  | 0, _, _, _, _, _, _, _, _, _, _, _, _, _, _, _, _ => none
  | k + 1, x3, x494000, x494001, x494002, x494003, x494004, x494005, x494006, x494007, x494008, x494009, x494010, x494011, x494012, x494013, x494014 => if x3 = true then (some false) else (if (x494003.length : Int) > 6 then (impl_IsWorld.j1 k true x494000 x494001 x494002 x494003 x494004 x494005 x494006 x494007 x494008 x494009 x494010 x494011 x494012 x494013 x494014) else ((slices_ContainsFunc_impl_Endpoint_impl_Endpoint_with_impl_IsWorld_1.f k x494003).bind fun t500 => (impl_IsWorld.j1 k t500 x494000 x494001 x494002 x494003 x494004 x494005 x494006 x494007 x494008 x494009 x494010 x494011 x494012 x494013 x494014)))
def impl_IsWorld.j1 : Nat → Bool → List Int → List Int → Int → List (S50) → Int → List Int → Int → Bool → Int → Int → List (S55) → List (S57) → Int → Int → Int → Option (Bool)
  | 0, _, _, _, _, _, _, _, _, _, _, _, _, _, _, _, _ => none
  | k + 1, x22, x494000, x494001, x494002, x494003, x494004, x494005, x494006, x494007, x494008, x494009, x494010, x494011, x494012, x494013, x494014 => if x22 = true then (some false) else ((impl_IsRollout.f k x494004 x494005 x494006 x494007).bind fun t501 => (if t501 = true then ((slices_Contains_int_int.f k x494000 x494004).bind fun t502 => (if t502 = true then ((impl_InRange.f x494008 1 100).bind fun t503 => (if t503 = true then ((impl_InRange.f x494009 0 100).bind fun t504 => (impl_IsWorld.j2 k (!t504) x494000 x494001 x494002 x494003 x494004 x494005 x494006 x494007 x494008 x494009 x494010 x494011 x494012 x494013 x494014)) else (impl_IsWorld.j2 k true x494000 x494001 x494002 x494003 x494004 x494005 x494006 x494007 x494008 x494009 x494010 x494011 x494012 x494013 x494014))) else (impl_IsWorld.j2 k true x494000 x494001 x494002 x494003 x494004 x494005 x494006 x494007 x494008 x494009 x494010 x494011 x494012 x494013 x494014))) else (impl_IsWorld.j2 k true x494000 x494001 x494002 x494003 x494004 x494005 x494006 x494007 x494008 x494009 x494010 x494011 x494012 x494013 x494014)))
def impl_IsWorld.j2 : Nat → Bool → List Int → List Int → Int → List (S50) → Int → List Int → Int → Bool → Int → Int → List (S55) → List (S57) → Int → Int → Int → Option (Bool)
  | 0, _, _, _, _, _, _, _, _, _, _, _, _, _, _, _, _ => none
  | k + 1, x32, x494000, x494001, x494002, x494003, x494004, x494005, x494006, x494007, x494008, x494009, x494010, x494011, x494012, x494013, x494014 => if x32 = true then (some false) else (if (x494010.length : Int) ≤ 60 then (if (x494011.length : Int) ≤ 60 then ((impl_InRange.f x494012 0 10000).bind fun t505 => (if t505 = true then ((impl_InRange.f x494013 0 (x494011.length : Int)).bind fun t506 => (if t506 = true then ((impl_InRange.f x494014 0 (x494005.length : Int)).bind fun t507 => (some t507)) else (some false))) else (some false))) else (some false)) else (some false))
end
def impl_IsWorld.f (k : Nat) (l0_0 : List Int) (l0_1 : List Int) (a0_2 : Int) (l0_3 : List (S50)) (a0_4 : Int) (l0_5 : List Int) (a0_6 : Int) (a0_7 : Bool) (a0_8 : Int) (a0_9 : Int) (l0_10 : List (S55)) (l0_11 : List (S57)) (a0_12 : Int) (a0_13 : Int) (a0_14 : Int) : Option (Bool) := (impl_ListsOf.f k l0_0 l0_1 a0_2 l0_3 a0_4 l0_5 a0_6 a0_7 a0_8 a0_9 l0_10 l0_11 a0_12 a0_13 a0_14).bind fun t494 => ((impl_AllReach.f k l0_0 t494).bind fun t497 => (if t497 = true then ((impl_areTags.f k l0_1).bind fun t498 => (if t498 = true then ((impl_IsValidKey.f a0_2).bind fun t499 => (impl_IsWorld.j0 k (!t499) l0_0 l0_1 a0_2 l0_3 a0_4 l0_5 a0_6 a0_7 a0_8 a0_9 l0_10 l0_11 a0_12 a0_13 a0_14)) else (impl_IsWorld.j0 k true l0_0 l0_1 a0_2 l0_3 a0_4 l0_5 a0_6 a0_7 a0_8 a0_9 l0_10 l0_11 a0_12 a0_13 a0_14))) else (impl_IsWorld.j0 k true l0_0 l0_1 a0_2 l0_3 a0_4 l0_5 a0_6 a0_7 a0_8 a0_9 l0_10 l0_11 a0_12 a0_13 a0_14)))
theorem impl_IsWorld.mono_l : ∀ k, (∀ y0 y1 y2 y3 y4 y5 y6 y7 y8 y9 y10 y11 y12 y13 y14 y15, LeO (impl_IsWorld.j0 k y0 y1 y2 y3 y4 y5 y6 y7 y8 y9 y10 y11 y12 y13 y14 y15) (impl_IsWorld.j0 (k + 1) y0 y1 y2 y3 y4 y5 y6 y7 y8 y9 y10 y11 y12 y13 y14 y15)) ∧ (∀ y0 y1 y2 y3 y4 y5 y6 y7 y8 y9 y10 y11 y12 y13 y14 y15, LeO (impl_IsWorld.j1 k y0 y1 y2 y3 y4 y5 y6 y7 y8 y9 y10 y11 y12 y13 y14 y15) (impl_IsWorld.j1 (k + 1) y0 y1 y2 y3 y4 y5 y6 y7 y8 y9 y10 y11 y12 y13 y14 y15)) ∧ (∀ y0 y1 y2 y3 y4 y5 y6 y7 y8 y9 y10 y11 y12 y13 y14 y15, LeO (impl_IsWorld.j2 k y0 y1 y2 y3 y4 y5 y6 y7 y8 y9 y10 y11 y12 y13 y14 y15) (impl_IsWorld.j2 (k + 1) y0 y1 y2 y3 y4 y5 y6 y7 y8 y9 y10 y11 y12 y13 y14 y15))
  | 0 => ⟨fun _ _ _ _ _ _ _ _ _ _ _ _ _ _ _ _ r h => by simp [impl_IsWorld.j0] at h, fun _ _ _ _ _ _ _ _ _ _ _ _ _ _ _ _ r h => by simp [impl_IsWorld.j1] at h, fun _ _ _ _ _ _ _ _ _ _ _ _ _ _ _ _ r h => by simp [impl_IsWorld.j2] at h⟩
  | k + 1 => by
    obtain ⟨ih0, ih1, ih2⟩ := impl_IsWorld.mono_l k
    refine ⟨?_, ?_, ?_⟩
    · intro y0 y1 y2 y3 y4 y5 y6 y7 y8 y9 y10 y11 y12 y13 y14 y15
      unfold impl_IsWorld.j0
      repeat' first
      | (with_reducible exact ih0 _ _ _ _ _ _ _ _ _ _ _ _ _ _ _ _)
      | (with_reducible exact ih1 _ _ _ _ _ _ _ _ _ _ _ _ _ _ _ _)
      | (with_reducible exact ih2 _ _ _ _ _ _ _ _ _ _ _ _ _ _ _ _)
      | (with_reducible exact impl_AllReach.mono _ _ _)
      | (with_reducible exact impl_IsRollout.mono _ _ _ _ _)
      | (with_reducible exact impl_ListsOf.mono _ _ _ _ _ _ _ _ _ _ _ _ _ _ _ _)
      | (with_reducible exact impl_areTags.mono _ _)
      | (with_reducible exact slices_ContainsFunc_impl_Endpoint_impl_Endpoint_with_impl_IsWorld_1.mono _ _)
      | (with_reducible exact slices_Contains_int_int.mono _ _ _)
      | (with_reducible exact LeO.refl _)
      | (with_reducible exact LeO.none _)
      | (with_reducible refine LeO.ite ?_ ?_)
      | (with_reducible refine LeO.bind ?_ (fun _ => ?_))
      | exact ih0 _ _ _ _ _ _ _ _ _ _ _ _ _ _ _ _
      | exact ih1 _ _ _ _ _ _ _ _ _ _ _ _ _ _ _ _
      | exact ih2 _ _ _ _ _ _ _ _ _ _ _ _ _ _ _ _
      | exact impl_AllReach.mono _ _ _
      | exact impl_IsRollout.mono _ _ _ _ _
      | exact impl_ListsOf.mono _ _ _ _ _ _ _ _ _ _ _ _ _ _ _ _
      | exact impl_areTags.mono _ _
      | exact slices_ContainsFunc_impl_Endpoint_impl_Endpoint_with_impl_IsWorld_1.mono _ _
      | exact slices_Contains_int_int.mono _ _ _
      | exact LeO.none _
      | refine LeO.ite ?_ ?_
      | refine LeO.bind ?_ (fun _ => ?_)
    · intro y0 y1 y2 y3 y4 y5 y6 y7 y8 y9 y10 y11 y12 y13 y14 y15
      unfold impl_IsWorld.j1
      repeat' first
      | (with_reducible exact ih0 _ _ _ _ _ _ _ _ _ _ _ _ _ _ _ _)
      | (with_reducible exact ih1 _ _ _ _ _ _ _ _ _ _ _ _ _ _ _ _)
      | (with_reducible exact ih2 _ _ _ _ _ _ _ _ _ _ _ _ _ _ _ _)
      | (with_reducible exact impl_AllReach.mono _ _ _)
      | (with_reducible exact impl_IsRollout.mono _ _ _ _ _)
      | (with_reducible exact impl_ListsOf.mono _ _ _ _ _ _ _ _ _ _ _ _ _ _ _ _)
      | (with_reducible exact impl_areTags.mono _ _)
      | (with_reducible exact slices_ContainsFunc_impl_Endpoint_impl_Endpoint_with_impl_IsWorld_1.mono _ _)
      | (with_reducible exact slices_Contains_int_int.mono _ _ _)
      | (with_reducible exact LeO.refl _)
      | (with_reducible exact LeO.none _)
      | (with_reducible refine LeO.ite ?_ ?_)
      | (with_reducible refine LeO.bind ?_ (fun _ => ?_))
      | exact ih0 _ _ _ _ _ _ _ _ _ _ _ _ _ _ _ _
      | exact ih1 _ _ _ _ _ _ _ _ _ _ _ _ _ _ _ _
      | exact ih2 _ _ _ _ _ _ _ _ _ _ _ _ _ _ _ _
      | exact impl_AllReach.mono _ _ _
      | exact impl_IsRollout.mono _ _ _ _ _
      | exact impl_ListsOf.mono _ _ _ _ _ _ _ _ _ _ _ _ _ _ _ _
      | exact impl_areTags.mono _ _
      | exact slices_ContainsFunc_impl_Endpoint_impl_Endpoint_with_impl_IsWorld_1.mono _ _
      | exact slices_Contains_int_int.mono _ _ _
      | exact LeO.none _
      | refine LeO.ite ?_ ?_
      | refine LeO.bind ?_ (fun _ => ?_)
    · intro y0 y1 y2 y3 y4 y5 y6 y7 y8 y9 y10 y11 y12 y13 y14 y15
      unfold impl_IsWorld.j2
      repeat' first
      | (with_reducible exact ih0 _ _ _ _ _ _ _ _ _ _ _ _ _ _ _ _)
      | (with_reducible exact ih1 _ _ _ _ _ _ _ _ _ _ _ _ _ _ _ _)
      | (with_reducible exact ih2 _ _ _ _ _ _ _ _ _ _ _ _ _ _ _ _)
      | (with_reducible exact impl_AllReach.mono _ _ _)
      | (with_reducible exact impl_IsRollout.mono _ _ _ _ _)
      | (with_reducible exact impl_ListsOf.mono _ _ _ _ _ _ _ _ _ _ _ _ _ _ _ _)
      | (with_reducible exact impl_areTags.mono _ _)
      | (with_reducible exact slices_ContainsFunc_impl_Endpoint_impl_Endpoint_with_impl_IsWorld_1.mono _ _)
      | (with_reducible exact slices_Contains_int_int.mono _ _ _)
      | (with_reducible exact LeO.refl _)
      | (with_reducible exact LeO.none _)
      | (with_reducible refine LeO.ite ?_ ?_)
      | (with_reducible refine LeO.bind ?_ (fun _ => ?_))
      | exact ih0 _ _ _ _ _ _ _ _ _ _ _ _ _ _ _ _
      | exact ih1 _ _ _ _ _ _ _ _ _ _ _ _ _ _ _ _
      | exact ih2 _ _ _ _ _ _ _ _ _ _ _ _ _ _ _ _
      | exact impl_AllReach.mono _ _ _
      | exact impl_IsRollout.mono _ _ _ _ _
      | exact impl_ListsOf.mono _ _ _ _ _ _ _ _ _ _ _ _ _ _ _ _
      | exact impl_areTags.mono _ _
      | exact slices_ContainsFunc_impl_Endpoint_impl_Endpoint_with_impl_IsWorld_1.mono _ _
      | exact slices_Contains_int_int.mono _ _ _
      | exact LeO.none _
      | refine LeO.ite ?_ ?_
      | refine LeO.bind ?_ (fun _ => ?_)
theorem impl_IsWorld.mono : ∀ a0 a1 a2 a3 a4 a5 a6 a7 a8 a9 a10 a11 a12 a13 a14 k, LeO (impl_IsWorld.f k a0 a1 a2 a3 a4 a5 a6 a7 a8 a9 a10 a11 a12 a13 a14) (impl_IsWorld.f (k + 1) a0 a1 a2 a3 a4 a5 a6 a7 a8 a9 a10 a11 a12 a13 a14) := by
  intro a0 a1 a2 a3 a4 a5 a6 a7 a8 a9 a10 a11 a12 a13 a14 k
  obtain ⟨ih0, ih1, ih2⟩ := impl_IsWorld.mono_l k
  unfold impl_IsWorld.f
  repeat' first
      | (with_reducible exact ih0 _ _ _ _ _ _ _ _ _ _ _ _ _ _ _ _)
      | (with_reducible exact ih1 _ _ _ _ _ _ _ _ _ _ _ _ _ _ _ _)
      | (with_reducible exact ih2 _ _ _ _ _ _ _ _ _ _ _ _ _ _ _ _)
      | (with_reducible exact impl_AllReach.mono _ _ _)
      | (with_reducible exact impl_IsRollout.mono _ _ _ _ _)
      | (with_reducible exact impl_ListsOf.mono _ _ _ _ _ _ _ _ _ _ _ _ _ _ _ _)
      | (with_reducible exact impl_areTags.mono _ _)
      | (with_reducible exact slices_ContainsFunc_impl_Endpoint_impl_Endpoint_with_impl_IsWorld_1.mono _ _)
      | (with_reducible exact slices_Contains_int_int.mono _ _ _)
      | (with_reducible exact LeO.refl _)
      | (with_reducible exact LeO.none _)
      | (with_reducible refine LeO.ite ?_ ?_)
      | (with_reducible refine LeO.bind ?_ (fun _ => ?_))
      | exact ih0 _ _ _ _ _ _ _ _ _ _ _ _ _ _ _ _
      | exact ih1 _ _ _ _ _ _ _ _ _ _ _ _ _ _ _ _
      | exact ih2 _ _ _ _ _ _ _ _ _ _ _ _ _ _ _ _
      | exact impl_AllReach.mono _ _ _
      | exact impl_IsRollout.mono _ _ _ _ _
      | exact impl_ListsOf.mono _ _ _ _ _ _ _ _ _ _ _ _ _ _ _ _
      | exact impl_areTags.mono _ _
      | exact slices_ContainsFunc_impl_Endpoint_impl_Endpoint_with_impl_IsWorld_1.mono _ _
      | exact slices_Contains_int_int.mono _ _ _
      | exact LeO.none _
      | refine LeO.ite ?_ ?_
      | refine LeO.bind ?_ (fun _ => ?_)
def impl_IsWorld.T1 : Bool × List (List Nat × List Nat) := (true, [([], []), ([0], [0]), ([], []), ([2], [2]), ([1, 3, 3], [1, 3]), ([4], [4]), ([5, 4], [5]), ([6], [6]), ([7, 6], [6, 7]), ([8, 6, 6], [6, 8]), ([9, 6], [6, 9]), ([6, 10], [6, 10]), ([11, 9], [11]), ([12], [12]), ([13, 12], [12, 13]), ([14, 12, 12], [12, 14]), ([15, 12], [12, 15]), ([12, 16], [12, 16]), ([17, 15], [17])])
def impl_IsWorld.B1 : List Nat := [0, 1, 0, 4, 15, 31, 63, 127, 255, 511, 1023, 2047, 4095, 8191, 16383, 32767, 65535, 131071, 262143]
theorem impl_IsWorld.tab1 : rtab .any (opsOf Try.f11 1) = impl_IsWorld.T1 := by kernel_rfl
theorem impl_IsWorld.bits1 : waitsOk impl_IsWorld.T1.2 impl_IsWorld.B1 = true := by kernel_rfl
set_option maxHeartbeats 8000000 in
set_option maxRecDepth 100000 in
theorem impl_IsWorld.calls (k : Nat) (A0_0 : Option Addr) (c0_0 : Nat) (l0_0 : List Int) (A0_1 : Option Addr) (c0_1 : Nat) (l0_1 : List Int) (a0_2 : Int) (A0_3 : Option Addr) (c0_3 : Nat) (l0_3 : List (S50)) (a0_4 : Int) (A0_5 : Option Addr) (c0_5 : Nat) (l0_5 : List Int) (a0_6 : Int) (a0_7 : Bool) (a0_8 : Int) (a0_9 : Int) (A0_10 : Option Addr) (c0_10 : Nat) (l0_10 : List (S55)) (A0_11 : Option Addr) (c0_11 : Nat) (l0_11 : List (S57)) (a0_12 : Int) (a0_13 : Int) (a0_14 : Int) (r : Bool) (w : World) (hr0_0 : Kd.C (Kd.int .i64) w A0_0 l0_0.length l0_0) (hc0_0 : l0_0.length ≤ c0_0) (hr0_1 : Kd.C (Kd.int .i64) w A0_1 l0_1.length l0_1) (hc0_1 : l0_1.length ≤ c0_1) (hr0_3 : Kd.C k50 w A0_3 l0_3.length l0_3) (hc0_3 : l0_3.length ≤ c0_3) (hr0_5 : Kd.C (Kd.int .i64) w A0_5 l0_5.length l0_5) (hc0_5 : l0_5.length ≤ c0_5) (hr0_10 : Kd.C k55 w A0_10 l0_10.length l0_10) (hc0_10 : l0_10.length ≤ c0_10) (hr0_11 : Kd.C k57 w A0_11 l0_11.length l0_11) (hc0_11 : l0_11.length ≤ c0_11) (h : impl_IsWorld.f k l0_0 l0_1 a0_2 l0_3 a0_4 l0_5 a0_6 a0_7 a0_8 a0_9 l0_10 l0_11 a0_12 a0_13 a0_14 = some r) :
    Calls Try.prog 11 #[.agg #[.slice A0_0 l0_0.length c0_0, .slice A0_1 l0_1.length c0_1, .int .i64 a0_2, .slice A0_3 l0_3.length c0_3, .int .i64 a0_4, .slice A0_5 l0_5.length c0_5, .int .i64 a0_6, .bool a0_7, .int .i64 a0_8, .int .i64 a0_9, .slice A0_10 l0_10.length c0_10, .slice A0_11 l0_11.length c0_11, .int .i64 a0_12, .int .i64 a0_13, .int .i64 a0_14]] w fun e w' => e = .returned (.bool r) ∧ Below w.heap.size w w' := by
  have hu37 := Try.underlying37
  have hu33 := Try.underlying33
  have HR0_0 := Aside0.mk hr0_0
  have HC0_0 := Aside0.mk hc0_0
  clear hr0_0 hc0_0
  have HR0_1 := Aside0.mk hr0_1
  have HC0_1 := Aside0.mk hc0_1
  clear hr0_1 hc0_1
  have HR0_3 := Aside0.mk hr0_3
  have HC0_3 := Aside0.mk hc0_3
  clear hr0_3 hc0_3
  have HR0_5 := Aside0.mk hr0_5
  have HC0_5 := Aside0.mk hc0_5
  clear hr0_5 hc0_5
  have HR0_10 := Aside0.mk hr0_10
  have HC0_10 := Aside0.mk hc0_10
  clear hr0_10 hc0_10
  have HR0_11 := Aside0.mk hr0_11
  have HC0_11 := Aside0.mk hc0_11
  clear hr0_11 hc0_11
  have HB := Aside0.mk (Below.refl w.heap.size w)
  have H : ((impl_ListsOf.f k l0_0 l0_1 a0_2 l0_3 a0_4 l0_5 a0_6 a0_7 a0_8 a0_9 l0_10 l0_11 a0_12 a0_13 a0_14).bind fun t494 => ((impl_AllReach.f k l0_0 t494).bind fun t497 => (if t497 = true then ((impl_areTags.f k l0_1).bind fun t498 => (if t498 = true then ((impl_IsValidKey.f a0_2).bind fun t499 => (impl_IsWorld.j0 k (!t499) l0_0 l0_1 a0_2 l0_3 a0_4 l0_5 a0_6 a0_7 a0_8 a0_9 l0_10 l0_11 a0_12 a0_13 a0_14)) else (impl_IsWorld.j0 k true l0_0 l0_1 a0_2 l0_3 a0_4 l0_5 a0_6 a0_7 a0_8 a0_9 l0_10 l0_11 a0_12 a0_13 a0_14))) else (impl_IsWorld.j0 k true l0_0 l0_1 a0_2 l0_3 a0_4 l0_5 a0_6 a0_7 a0_8 a0_9 l0_10 l0_11 a0_12 a0_13 a0_14)))) = some r := h
  clear h
  have HC2 := Aside0.mk H
  clear H
  go_enter Try.func11, Try.ntmps11
  go_upto_region 1 with (first | ((with_reducible refine gate_dst (N := 1) rfl ?_); (try (refine gate_guard (by rfl) ?_; dsimp only)); refine box_event ?hg (N := 1) ?hd (cs := #[.slice A0_0 l0_0.length c0_0, .slice A0_1 l0_1.length c0_1, .int .i64 a0_2, .slice A0_3 l0_3.length c0_3, .int .i64 a0_4, .slice A0_5 l0_5.length c0_5, .int .i64 a0_6, .bool a0_7, .int .i64 a0_8, .int .i64 a0_9, .slice A0_10 l0_10.length c0_10, .slice A0_11 l0_11.length c0_11, .int .i64 a0_12, .int .i64 a0_13, .int .i64 a0_14]) (t := 37) ?hr ?_; (case hd => rfl); (case hg => rfl); (case hr => first | (go_simp; done) | (go_simp; rfl)); intro gb493 hg w3 hbox hb; have n0_ := Aside0.mk (below_step (pb_ HB.out) hb); have n1_ := Aside0.mk (hbox); have n2_ := Aside0.mk ((by rw [hg]; exact (below_size (pb_ HB.out)) : w.heap.size ≤ gb493)); have n3_ := Aside0.mk ((by rw [hg]; exact (below_size (pb_ HB.out)) : w.heap.size ≤ gb493)); clear HB; have HB := n0_; have BK493 := n1_; have GW493 := n2_; have GE493 := n3_; clear n0_ n1_ n2_ n3_; clear hb hbox hg))
  (try simp only [Act.put, List.setIfInBounds_toArray, List.set_cons_zero, List.set_cons_succ])
  go_cut [3] (fun v3 wc => ∃ (kq : Nat) (x3_1 : Bool), v3 = .bool x3_1 ∧ Aside0 (impl_IsWorld.j0 kq x3_1 l0_0 l0_1 a0_2 l0_3 a0_4 l0_5 a0_6 a0_7 a0_8 a0_9 l0_10 l0_11 a0_12 a0_13 a0_14 = some r) ∧ Aside0 (kq ≤ k) ∧ Aside0 (wc.heap[gb493]? = some (.cells #[(.slice A0_0 l0_0.length c0_0), (.slice A0_1 l0_1.length c0_1), .int .i64 a0_2, (.slice A0_3 l0_3.length c0_3), .int .i64 a0_4, (.slice A0_5 l0_5.length c0_5), .int .i64 a0_6, .bool a0_7, .int .i64 a0_8, .int .i64 a0_9, (.slice A0_10 l0_10.length c0_10), (.slice A0_11 l0_11.length c0_11), .int .i64 a0_12, .int .i64 a0_13, .int .i64 a0_14] 37 (0, 0))) ∧ Aside0 (Below w.heap.size w wc))
  case first =>
    have H := HC2.out
    clear HC2
    replace H := Option.bind_eq_some_iff.mp H
    obtain ⟨t494, A40, H⟩ := H
    (try dsimp only at H)
    have A4 := Aside0.mk A40
    clear A40
    replace H := Option.bind_eq_some_iff.mp H
    obtain ⟨t497, A50, H⟩ := H
    (try dsimp only at H)
    have A5 := Aside0.mk A50
    clear A50
    by_cases c6 : t497 = true
    rotate_left
    · replace c6 := Bool.eq_false_iff.mpr c6
      subst c6
      rw [if_neg (show ¬ (false = true) by decide)] at H
      have H' := Aside0.mk H
      clear H
      try go_wp2
      have _ := Aside0.mk (blk_drew BK493.out)
      have _ := Aside0.mk (below_drew1 HB.out)
      clear BK493 HB
      rename_i BK493 HB
      refine start_ (n := 19) (S := fun w' => w'.cell? ⟨gb493, 0, none⟩ = some (.slice A0_0 l0_0.length c0_0) ∧ w'.cell? ⟨gb493, 1, none⟩ = some (.slice A0_1 l0_1.length c0_1) ∧ w'.cell? ⟨gb493, 2, none⟩ = some (.int .i64 a0_2) ∧ w'.cell? ⟨gb493, 3, none⟩ = some (.slice A0_3 l0_3.length c0_3) ∧ w'.cell? ⟨gb493, 4, none⟩ = some (.int .i64 a0_4) ∧ w'.cell? ⟨gb493, 5, none⟩ = some (.slice A0_5 l0_5.length c0_5) ∧ w'.cell? ⟨gb493, 6, none⟩ = some (.int .i64 a0_6) ∧ w'.cell? ⟨gb493, 7, none⟩ = some (.bool a0_7) ∧ w'.cell? ⟨gb493, 8, none⟩ = some (.int .i64 a0_8) ∧ w'.cell? ⟨gb493, 9, none⟩ = some (.int .i64 a0_9) ∧ w'.cell? ⟨gb493, 10, none⟩ = some (.slice A0_10 l0_10.length c0_10) ∧ w'.cell? ⟨gb493, 11, none⟩ = some (.slice A0_11 l0_11.length c0_11) ∧ w'.cell? ⟨gb493, 12, none⟩ = some (.int .i64 a0_12) ∧ w'.cell? ⟨gb493, 13, none⟩ = some (.int .i64 a0_13) ∧ w'.cell? ⟨gb493, 14, none⟩ = some (.int .i64 a0_14)) (ds := []) (tf_ 0 19) (by kernel_rfl) rfl rfl (sb_ BK493.out) (fun hHeld => ?_); refine with_tabW impl_IsWorld.tab1 impl_IsWorld.bits1 (fun HT_ HW_ => ?_)
      generalize w3.drew = w7 at BK493 HB hHeld ⊢
      refine pu_ 0 (some 4) (tf_ 1 19) HT_ ?_
      refine ta_ 1 (some 5) (tf_ 2 19) HT_ HW_ hHeld ?_
      refine ta_ 2 (some 6) (tf_ 3 19) HT_ HW_ hHeld ?_
      refine on_ 3 (some 7) (tf_ 4 19) HT_ (fun K hK => ?_)
      refine goes_ Try.func49 (by kernel_rfl) rfl #[.agg #[.slice A0_0 l0_0.length c0_0, .slice A0_1 l0_1.length c0_1, .int .i64 a0_2, .slice A0_3 l0_3.length c0_3, .int .i64 a0_4, .slice A0_5 l0_5.length c0_5, .int .i64 a0_6, .bool a0_7, .int .i64 a0_8, .int .i64 a0_9, .slice A0_10 l0_10.length c0_10, .slice A0_11 l0_11.length c0_11, .int .i64 a0_12, .int .i64 a0_13, .int .i64 a0_14]] (by rfl) rfl rfl mp_ ?_
      with_reducible refine (impl_ListsOf.calls k _ _ l0_0 _ _ l0_1 a0_2 _ _ l0_3 a0_4 _ _ l0_5 a0_6 a0_7 a0_8 a0_9 _ _ l0_10 _ _ l0_11 a0_12 a0_13 a0_14 t494 _ ?side1 ?side2 ?side3 ?side4 ?side5 ?side6 ?side7 ?side8 ?side9 ?side10 ?side11 ?side12 A4.out).mono ?_
      (case side1 => exact cb_ HR0_0 HB)
      (case side2 => exact HC0_0.out)
      (case side3 => exact cb_ HR0_1 HB)
      (case side4 => exact HC0_1.out)
      (case side5 => exact cb_ HR0_3 HB)
      (case side6 => exact HC0_3.out)
      (case side7 => exact cb_ HR0_5 HB)
      (case side8 => exact HC0_5.out)
      (case side9 => exact cb_ HR0_10 HB)
      (case side10 => exact HC0_10.out)
      (case side11 => exact cb_ HR0_11 HB)
      (case side12 => exact HC0_11.out)
      rintro e w8 ⟨v495, rfl, ho0, hb⟩
      refine ⟨_, rfl, ?_⟩
      have _ := Aside0.mk (Kd.S_lower ho0 (below_size (pb1_ HB.out GE493.out)))
      have _ := Aside0.mk (bb_ BK493.out hb)
      have _ := Aside0.mk (below_step (pb1_ HB.out GE493.out) hb)
      clear BK493 HB
      rename_i HO496 BK493 HB
      (try clear hb)
      (try clear hb2)
      (try clear hk)
      (try clear hi)
      (try clear ho0)
      obtain ⟨Ao9, co9, eo9⟩ := Kd.S_slice HO496.out
      (first | subst eo9 | (injection eo9 with f1_ f2_ f3_; have f4_ := f1_.symm; have f5_ := f3_.symm; clear f1_ f2_ f3_; subst f4_; subst f5_))
      refine hK.out _ _ (sb_ BK493.out) (fun hHeld => ?_)
      clear hK K
      refine no_ (some 7) ?_
      refine on_ 4 (some 8) (tf_ 5 19) HT_ (fun K hK => ?_)
      refine goes_ Try.func48 (by kernel_rfl) rfl #[.slice A0_0 l0_0.length c0_0, .slice Ao9 t494.length co9] (by rfl) rfl rfl mp_ ?_
      with_reducible refine (impl_AllReach.calls k _ _ l0_0 _ _ t494 false _ ?side1 ?side2 ?side3 ?side4 A5.out).mono ?_
      (case side1 => exact cb_ HR0_0 HB)
      (case side2 => exact HC0_0.out)
      (case side3 => exact pc_ ((Kd.S_reads' HO496.out).2.2))
      (case side4 => exact (Kd.S_reads' HO496.out).2.1)
      rintro e w10 ⟨rfl, hb⟩
      refine ⟨_, rfl, ?_⟩
      have _ := Aside0.mk (Kd.S_below (ps_ HO496.out) hb)
      have _ := Aside0.mk (bb_ BK493.out hb)
      have _ := Aside0.mk (below_step (pb1_ HB.out GE493.out) hb)
      clear HO496 BK493 HB
      rename_i HO496 BK493 HB
      (try clear hb)
      (try clear hb2)
      (try clear hk)
      (try clear hi)
      refine hK.out _ _ (sb_ BK493.out) (fun hHeld => ?_)
      clear hK K
      refine no_ (some 8) ?_
      refine pu_ 5 (some 9) (tf_ 6 19) HT_ ?_
      refine pu_ 6 (some 10) (tf_ 7 19) HT_ ?_
      refine pn_ 7 (some 11) (tf_ 8 19) HT_ ?_
      refine pn_ 8 (some 12) (tf_ 9 19) HT_ ?_
      refine pn_ 9 (some 13) (tf_ 10 19) HT_ ?_
      refine pn_ 10 (some 14) (tf_ 11 19) HT_ ?_
      refine pu_ 11 (some 15) (tf_ 12 19) HT_ ?_
      refine pu_ 12 (some 16) (tf_ 13 19) HT_ ?_
      refine pn_ 13 (some 17) (tf_ 14 19) HT_ ?_
      refine pn_ 14 (some 18) (tf_ 15 19) HT_ ?_
      refine pn_ 15 (some 19) (tf_ 16 19) HT_ ?_
      refine pn_ 16 (some 20) (tf_ 17 19) HT_ ?_
      refine pu_ 17 (some 21) (tf_ 18 19) HT_ ?_
      refine pu_ 18 (some 3) (tf_ 19 19) HT_ ?_
      refine done_ (done_of HT_.out (by kernel_rfl)) ?_
      try go_wp2
      go_meet
      case rel => exact ⟨_, (true), el_, H', ⟨by first | omega | exact Nat.le_refl _⟩, ⟨pk_ BK493.out⟩, ⟨pb1_ HB.out GE493.out⟩⟩
    subst c6
    rw [if_pos rfl] at H
    replace H := Option.bind_eq_some_iff.mp H
    obtain ⟨t498, A110, H⟩ := H
    (try dsimp only at H)
    have A11 := Aside0.mk A110
    clear A110
    by_cases c12 : t498 = true
    rotate_left
    · replace c12 := Bool.eq_false_iff.mpr c12
      subst c12
      rw [if_neg (show ¬ (false = true) by decide)] at H
      have H' := Aside0.mk H
      clear H
      try go_wp2
      have _ := Aside0.mk (blk_drew BK493.out)
      have _ := Aside0.mk (below_drew1 HB.out)
      clear BK493 HB
      rename_i BK493 HB
      refine start_ (n := 19) (S := fun w' => w'.cell? ⟨gb493, 0, none⟩ = some (.slice A0_0 l0_0.length c0_0) ∧ w'.cell? ⟨gb493, 1, none⟩ = some (.slice A0_1 l0_1.length c0_1) ∧ w'.cell? ⟨gb493, 2, none⟩ = some (.int .i64 a0_2) ∧ w'.cell? ⟨gb493, 3, none⟩ = some (.slice A0_3 l0_3.length c0_3) ∧ w'.cell? ⟨gb493, 4, none⟩ = some (.int .i64 a0_4) ∧ w'.cell? ⟨gb493, 5, none⟩ = some (.slice A0_5 l0_5.length c0_5) ∧ w'.cell? ⟨gb493, 6, none⟩ = some (.int .i64 a0_6) ∧ w'.cell? ⟨gb493, 7, none⟩ = some (.bool a0_7) ∧ w'.cell? ⟨gb493, 8, none⟩ = some (.int .i64 a0_8) ∧ w'.cell? ⟨gb493, 9, none⟩ = some (.int .i64 a0_9) ∧ w'.cell? ⟨gb493, 10, none⟩ = some (.slice A0_10 l0_10.length c0_10) ∧ w'.cell? ⟨gb493, 11, none⟩ = some (.slice A0_11 l0_11.length c0_11) ∧ w'.cell? ⟨gb493, 12, none⟩ = some (.int .i64 a0_12) ∧ w'.cell? ⟨gb493, 13, none⟩ = some (.int .i64 a0_13) ∧ w'.cell? ⟨gb493, 14, none⟩ = some (.int .i64 a0_14)) (ds := []) (tf_ 0 19) (by kernel_rfl) rfl rfl (sb_ BK493.out) (fun hHeld => ?_); refine with_tabW impl_IsWorld.tab1 impl_IsWorld.bits1 (fun HT_ HW_ => ?_)
      generalize w3.drew = w13 at BK493 HB hHeld ⊢
      refine pu_ 0 (some 4) (tf_ 1 19) HT_ ?_
      refine ta_ 1 (some 5) (tf_ 2 19) HT_ HW_ hHeld ?_
      refine ta_ 2 (some 6) (tf_ 3 19) HT_ HW_ hHeld ?_
      refine on_ 3 (some 7) (tf_ 4 19) HT_ (fun K hK => ?_)
      refine goes_ Try.func49 (by kernel_rfl) rfl #[.agg #[.slice A0_0 l0_0.length c0_0, .slice A0_1 l0_1.length c0_1, .int .i64 a0_2, .slice A0_3 l0_3.length c0_3, .int .i64 a0_4, .slice A0_5 l0_5.length c0_5, .int .i64 a0_6, .bool a0_7, .int .i64 a0_8, .int .i64 a0_9, .slice A0_10 l0_10.length c0_10, .slice A0_11 l0_11.length c0_11, .int .i64 a0_12, .int .i64 a0_13, .int .i64 a0_14]] (by rfl) rfl rfl mp_ ?_
      with_reducible refine (impl_ListsOf.calls k _ _ l0_0 _ _ l0_1 a0_2 _ _ l0_3 a0_4 _ _ l0_5 a0_6 a0_7 a0_8 a0_9 _ _ l0_10 _ _ l0_11 a0_12 a0_13 a0_14 t494 _ ?side1 ?side2 ?side3 ?side4 ?side5 ?side6 ?side7 ?side8 ?side9 ?side10 ?side11 ?side12 A4.out).mono ?_
      (case side1 => exact cb_ HR0_0 HB)
      (case side2 => exact HC0_0.out)
      (case side3 => exact cb_ HR0_1 HB)
      (case side4 => exact HC0_1.out)
      (case side5 => exact cb_ HR0_3 HB)
      (case side6 => exact HC0_3.out)
      (case side7 => exact cb_ HR0_5 HB)
      (case side8 => exact HC0_5.out)
      (case side9 => exact cb_ HR0_10 HB)
      (case side10 => exact HC0_10.out)
      (case side11 => exact cb_ HR0_11 HB)
      (case side12 => exact HC0_11.out)
      rintro e w14 ⟨v495, rfl, ho0, hb⟩
      refine ⟨_, rfl, ?_⟩
      have _ := Aside0.mk (Kd.S_lower ho0 (below_size (pb1_ HB.out GE493.out)))
      have _ := Aside0.mk (bb_ BK493.out hb)
      have _ := Aside0.mk (below_step (pb1_ HB.out GE493.out) hb)
      clear BK493 HB
      rename_i HO496 BK493 HB
      (try clear hb)
      (try clear hb2)
      (try clear hk)
      (try clear hi)
      (try clear ho0)
      obtain ⟨Ao15, co15, eo15⟩ := Kd.S_slice HO496.out
      (first | subst eo15 | (injection eo15 with f1_ f2_ f3_; have f4_ := f1_.symm; have f5_ := f3_.symm; clear f1_ f2_ f3_; subst f4_; subst f5_))
      refine hK.out _ _ (sb_ BK493.out) (fun hHeld => ?_)
      clear hK K
      refine no_ (some 7) ?_
      refine on_ 4 (some 8) (tf_ 5 19) HT_ (fun K hK => ?_)
      refine goes_ Try.func48 (by kernel_rfl) rfl #[.slice A0_0 l0_0.length c0_0, .slice Ao15 t494.length co15] (by rfl) rfl rfl mp_ ?_
      with_reducible refine (impl_AllReach.calls k _ _ l0_0 _ _ t494 true _ ?side1 ?side2 ?side3 ?side4 A5.out).mono ?_
      (case side1 => exact cb_ HR0_0 HB)
      (case side2 => exact HC0_0.out)
      (case side3 => exact pc_ ((Kd.S_reads' HO496.out).2.2))
      (case side4 => exact (Kd.S_reads' HO496.out).2.1)
      rintro e w16 ⟨rfl, hb⟩
      refine ⟨_, rfl, ?_⟩
      have _ := Aside0.mk (Kd.S_below (ps_ HO496.out) hb)
      have _ := Aside0.mk (bb_ BK493.out hb)
      have _ := Aside0.mk (below_step (pb1_ HB.out GE493.out) hb)
      clear HO496 BK493 HB
      rename_i HO496 BK493 HB
      (try clear hb)
      (try clear hb2)
      (try clear hk)
      (try clear hi)
      refine hK.out _ _ (sb_ BK493.out) (fun hHeld => ?_)
      clear hK K
      refine no_ (some 8) ?_
      refine pu_ 5 (some 9) (tf_ 6 19) HT_ ?_
      refine pu_ 6 (some 10) (tf_ 7 19) HT_ ?_
      refine pu_ 7 (some 11) (tf_ 8 19) HT_ ?_
      refine ta_ 8 (some 12) (tf_ 9 19) HT_ HW_ hHeld ?_
      refine on_ 9 (some 13) (tf_ 10 19) HT_ (fun K hK => ?_)
      refine goes_ Try.func50 (by kernel_rfl) rfl #[.slice A0_1 l0_1.length c0_1] (by rfl) rfl rfl mp_ ?_
      with_reducible refine (impl_areTags.calls k _ _ l0_1 false _ ?side1 ?side2 A11.out).mono ?_
      (case side1 => exact cb_ HR0_1 HB)
      (case side2 => exact HC0_1.out)
      rintro e w17 ⟨rfl, hb⟩
      refine ⟨_, rfl, ?_⟩
      have _ := Aside0.mk (Kd.S_below (ps_ HO496.out) hb)
      have _ := Aside0.mk (bb_ BK493.out hb)
      have _ := Aside0.mk (below_step (pb1_ HB.out GE493.out) hb)
      clear HO496 BK493 HB
      rename_i HO496 BK493 HB
      (try clear hb)
      (try clear hb2)
      (try clear hk)
      (try clear hi)
      refine hK.out _ _ (sb_ BK493.out) (fun hHeld => ?_)
      clear hK K
      refine no_ (some 13) ?_
      refine pu_ 10 (some 14) (tf_ 11 19) HT_ ?_
      refine pu_ 11 (some 15) (tf_ 12 19) HT_ ?_
      refine pu_ 12 (some 16) (tf_ 13 19) HT_ ?_
      refine pn_ 13 (some 17) (tf_ 14 19) HT_ ?_
      refine pn_ 14 (some 18) (tf_ 15 19) HT_ ?_
      refine pn_ 15 (some 19) (tf_ 16 19) HT_ ?_
      refine pn_ 16 (some 20) (tf_ 17 19) HT_ ?_
      refine pu_ 17 (some 21) (tf_ 18 19) HT_ ?_
      refine pu_ 18 (some 3) (tf_ 19 19) HT_ ?_
      refine done_ (done_of HT_.out (by kernel_rfl)) ?_
      try go_wp2
      go_meet
      case rel => exact ⟨_, (true), el_, H', ⟨by first | omega | exact Nat.le_refl _⟩, ⟨pk_ BK493.out⟩, ⟨pb1_ HB.out GE493.out⟩⟩
    subst c12
    rw [if_pos rfl] at H
    replace H := Option.bind_eq_some_iff.mp H
    obtain ⟨t499, A180, H⟩ := H
    (try dsimp only at H)
    have A18 := Aside0.mk A180
    clear A180
    have H' := Aside0.mk H
    clear H
    try go_wp2
    have _ := Aside0.mk (blk_drew BK493.out)
    have _ := Aside0.mk (below_drew1 HB.out)
    clear BK493 HB
    rename_i BK493 HB
    refine start_ (n := 19) (S := fun w' => w'.cell? ⟨gb493, 0, none⟩ = some (.slice A0_0 l0_0.length c0_0) ∧ w'.cell? ⟨gb493, 1, none⟩ = some (.slice A0_1 l0_1.length c0_1) ∧ w'.cell? ⟨gb493, 2, none⟩ = some (.int .i64 a0_2) ∧ w'.cell? ⟨gb493, 3, none⟩ = some (.slice A0_3 l0_3.length c0_3) ∧ w'.cell? ⟨gb493, 4, none⟩ = some (.int .i64 a0_4) ∧ w'.cell? ⟨gb493, 5, none⟩ = some (.slice A0_5 l0_5.length c0_5) ∧ w'.cell? ⟨gb493, 6, none⟩ = some (.int .i64 a0_6) ∧ w'.cell? ⟨gb493, 7, none⟩ = some (.bool a0_7) ∧ w'.cell? ⟨gb493, 8, none⟩ = some (.int .i64 a0_8) ∧ w'.cell? ⟨gb493, 9, none⟩ = some (.int .i64 a0_9) ∧ w'.cell? ⟨gb493, 10, none⟩ = some (.slice A0_10 l0_10.length c0_10) ∧ w'.cell? ⟨gb493, 11, none⟩ = some (.slice A0_11 l0_11.length c0_11) ∧ w'.cell? ⟨gb493, 12, none⟩ = some (.int .i64 a0_12) ∧ w'.cell? ⟨gb493, 13, none⟩ = some (.int .i64 a0_13) ∧ w'.cell? ⟨gb493, 14, none⟩ = some (.int .i64 a0_14)) (ds := []) (tf_ 0 19) (by kernel_rfl) rfl rfl (sb_ BK493.out) (fun hHeld => ?_); refine with_tabW impl_IsWorld.tab1 impl_IsWorld.bits1 (fun HT_ HW_ => ?_)
    generalize w3.drew = w19 at BK493 HB hHeld ⊢
    refine pu_ 0 (some 4) (tf_ 1 19) HT_ ?_
    refine ta_ 1 (some 5) (tf_ 2 19) HT_ HW_ hHeld ?_
    refine ta_ 2 (some 6) (tf_ 3 19) HT_ HW_ hHeld ?_
    refine on_ 3 (some 7) (tf_ 4 19) HT_ (fun K hK => ?_)
    refine goes_ Try.func49 (by kernel_rfl) rfl #[.agg #[.slice A0_0 l0_0.length c0_0, .slice A0_1 l0_1.length c0_1, .int .i64 a0_2, .slice A0_3 l0_3.length c0_3, .int .i64 a0_4, .slice A0_5 l0_5.length c0_5, .int .i64 a0_6, .bool a0_7, .int .i64 a0_8, .int .i64 a0_9, .slice A0_10 l0_10.length c0_10, .slice A0_11 l0_11.length c0_11, .int .i64 a0_12, .int .i64 a0_13, .int .i64 a0_14]] (by rfl) rfl rfl mp_ ?_
    with_reducible refine (impl_ListsOf.calls k _ _ l0_0 _ _ l0_1 a0_2 _ _ l0_3 a0_4 _ _ l0_5 a0_6 a0_7 a0_8 a0_9 _ _ l0_10 _ _ l0_11 a0_12 a0_13 a0_14 t494 _ ?side1 ?side2 ?side3 ?side4 ?side5 ?side6 ?side7 ?side8 ?side9 ?side10 ?side11 ?side12 A4.out).mono ?_
    (case side1 => exact cb_ HR0_0 HB)
    (case side2 => exact HC0_0.out)
    (case side3 => exact cb_ HR0_1 HB)
    (case side4 => exact HC0_1.out)
    (case side5 => exact cb_ HR0_3 HB)
    (case side6 => exact HC0_3.out)
    (case side7 => exact cb_ HR0_5 HB)
    (case side8 => exact HC0_5.out)
    (case side9 => exact cb_ HR0_10 HB)
    (case side10 => exact HC0_10.out)
    (case side11 => exact cb_ HR0_11 HB)
    (case side12 => exact HC0_11.out)
    rintro e w20 ⟨v495, rfl, ho0, hb⟩
    refine ⟨_, rfl, ?_⟩
    have _ := Aside0.mk (Kd.S_lower ho0 (below_size (pb1_ HB.out GE493.out)))
    have _ := Aside0.mk (bb_ BK493.out hb)
    have _ := Aside0.mk (below_step (pb1_ HB.out GE493.out) hb)
    clear BK493 HB
    rename_i HO496 BK493 HB
    (try clear hb)
    (try clear hb2)
    (try clear hk)
    (try clear hi)
    (try clear ho0)
    obtain ⟨Ao21, co21, eo21⟩ := Kd.S_slice HO496.out
    (first | subst eo21 | (injection eo21 with f1_ f2_ f3_; have f4_ := f1_.symm; have f5_ := f3_.symm; clear f1_ f2_ f3_; subst f4_; subst f5_))
    refine hK.out _ _ (sb_ BK493.out) (fun hHeld => ?_)
    clear hK K
    refine no_ (some 7) ?_
    refine on_ 4 (some 8) (tf_ 5 19) HT_ (fun K hK => ?_)
    refine goes_ Try.func48 (by kernel_rfl) rfl #[.slice A0_0 l0_0.length c0_0, .slice Ao21 t494.length co21] (by rfl) rfl rfl mp_ ?_
    with_reducible refine (impl_AllReach.calls k _ _ l0_0 _ _ t494 true _ ?side1 ?side2 ?side3 ?side4 A5.out).mono ?_
    (case side1 => exact cb_ HR0_0 HB)
    (case side2 => exact HC0_0.out)
    (case side3 => exact pc_ ((Kd.S_reads' HO496.out).2.2))
    (case side4 => exact (Kd.S_reads' HO496.out).2.1)
    rintro e w22 ⟨rfl, hb⟩
    refine ⟨_, rfl, ?_⟩
    have _ := Aside0.mk (Kd.S_below (ps_ HO496.out) hb)
    have _ := Aside0.mk (bb_ BK493.out hb)
    have _ := Aside0.mk (below_step (pb1_ HB.out GE493.out) hb)
    clear HO496 BK493 HB
    rename_i HO496 BK493 HB
    (try clear hb)
    (try clear hb2)
    (try clear hk)
    (try clear hi)
    refine hK.out _ _ (sb_ BK493.out) (fun hHeld => ?_)
    clear hK K
    refine no_ (some 8) ?_
    refine pu_ 5 (some 9) (tf_ 6 19) HT_ ?_
    refine pu_ 6 (some 10) (tf_ 7 19) HT_ ?_
    refine pu_ 7 (some 11) (tf_ 8 19) HT_ ?_
    refine ta_ 8 (some 12) (tf_ 9 19) HT_ HW_ hHeld ?_
    refine on_ 9 (some 13) (tf_ 10 19) HT_ (fun K hK => ?_)
    refine goes_ Try.func50 (by kernel_rfl) rfl #[.slice A0_1 l0_1.length c0_1] (by rfl) rfl rfl mp_ ?_
    with_reducible refine (impl_areTags.calls k _ _ l0_1 true _ ?side1 ?side2 A11.out).mono ?_
    (case side1 => exact cb_ HR0_1 HB)
    (case side2 => exact HC0_1.out)
    rintro e w23 ⟨rfl, hb⟩
    refine ⟨_, rfl, ?_⟩
    have _ := Aside0.mk (Kd.S_below (ps_ HO496.out) hb)
    have _ := Aside0.mk (bb_ BK493.out hb)
    have _ := Aside0.mk (below_step (pb1_ HB.out GE493.out) hb)
    clear HO496 BK493 HB
    rename_i HO496 BK493 HB
    (try clear hb)
    (try clear hb2)
    (try clear hk)
    (try clear hi)
    refine hK.out _ _ (sb_ BK493.out) (fun hHeld => ?_)
    clear hK K
    refine no_ (some 13) ?_
    refine pu_ 10 (some 14) (tf_ 11 19) HT_ ?_
    refine pu_ 11 (some 15) (tf_ 12 19) HT_ ?_
    refine pu_ 12 (some 16) (tf_ 13 19) HT_ ?_
    refine pu_ 13 (some 17) (tf_ 14 19) HT_ ?_
    refine ta_ 14 (some 18) (tf_ 15 19) HT_ HW_ hHeld ?_
    refine on_ 15 (some 19) (tf_ 16 19) HT_ (fun K hK => ?_)
    refine goes_ Try.func51 (by kernel_rfl) rfl #[.int .i64 a0_2] (by rfl) rfl rfl mp_ ?_
    with_reducible refine (impl_IsValidKey.calls a0_2 t499 _ A18.out).mono ?_
    rintro e w' ⟨rfl, ⟨nd, rfl⟩⟩
    refine ⟨_, rfl, ?_⟩
    refine hK.out _ _ (sb_ BK493.out) (fun hHeld => ?_)
    clear hK K
    refine no_ (some 19) ?_
    refine pu_ 16 (some 20) (tf_ 17 19) HT_ ?_
    refine pu_ 17 (some 21) (tf_ 18 19) HT_ ?_
    refine pu_ 18 (some 3) (tf_ 19 19) HT_ ?_
    refine done_ (done_of HT_.out (by kernel_rfl)) ?_
    try go_wp2
    go_meet
    case rel => exact ⟨_, (!t499), el_, H', ⟨by first | omega | exact Nat.le_refl _⟩, ⟨pk_ BK493.out⟩, ⟨pb1_ HB.out GE493.out⟩⟩
  clear HC2
  try clear c1
  try clear p2
  try clear c4
  try clear c5
  try clear c6
  try clear c12
  obtain ⟨kq, x3_1, rfl, HA, HJ1, BK493, HB⟩ := hcut
  rcases kq with _ | kj1
  · exact absurd HA.out (by simp [impl_IsWorld.j0])
  have H := HA.out
  clear HA
  simp only [impl_IsWorld.j0] at H
  by_cases c24 : x3_1 = true
  · subst c24
    rw [if_pos rfl] at H
    obtain rfl := Option.some.inj H
    go_wp2
    go_ret
    exact ⟨er_, pb1_ HB.out GE493.out⟩
  replace c24 := Bool.eq_false_iff.mpr c24
  subst c24
  rw [if_neg (show ¬ (false = true) by decide)] at H
  have HC25 := Aside0.mk H
  clear H
  go_upto_region 3 with (fail)
  go_cut [22] (fun v22 wc => ∃ (kq : Nat) (x22_24 : Bool), v22 = .bool x22_24 ∧ Aside0 (impl_IsWorld.j1 kq x22_24 l0_0 l0_1 a0_2 l0_3 a0_4 l0_5 a0_6 a0_7 a0_8 a0_9 l0_10 l0_11 a0_12 a0_13 a0_14 = some r) ∧ Aside0 (kq ≤ kj1) ∧ Aside0 (wc.heap[gb493]? = some (.cells #[(.slice A0_0 l0_0.length c0_0), (.slice A0_1 l0_1.length c0_1), .int .i64 a0_2, (.slice A0_3 l0_3.length c0_3), .int .i64 a0_4, (.slice A0_5 l0_5.length c0_5), .int .i64 a0_6, .bool a0_7, .int .i64 a0_8, .int .i64 a0_9, (.slice A0_10 l0_10.length c0_10), (.slice A0_11 l0_11.length c0_11), .int .i64 a0_12, .int .i64 a0_13, .int .i64 a0_14] 37 (0, 0))) ∧ Aside0 (Below w.heap.size w wc))
  case first =>
    have H := HC25.out
    clear HC25
    by_cases c26 : (l0_3.length : Int) > 6
    · rw [if_pos c26] at H
      have c26b0 : decide (6 < (l0_3.length : Int)) = true := decide_eq_true c26
      have c26b1 : decide (6 < l0_3.length) = true := decide_eq_true (by omega)
      clear c26
      (first | rw [c26b0] | (simp only [i64_w, i32_w]; rw [c26b0]) | rw [c26b1] | skip)
      have H' := Aside0.mk H
      clear H
      have hcz27 := bc15_ BK493.out
      go_wp2
      go_meet
      case rel => exact ⟨_, (true), el_, H', ⟨by have := HJ1.out; first | omega | exact Nat.le_refl _⟩, ⟨pk_ BK493.out⟩, ⟨pb1_ HB.out GE493.out⟩⟩
    rw [if_neg c26] at H
    have c26b0 : decide (6 < (l0_3.length : Int)) = false := decide_eq_false c26
    have c26b1 : decide (6 < l0_3.length) = false := decide_eq_false (by omega)
    clear c26
    (first | rw [c26b0] | (simp only [i64_w, i32_w]; rw [c26b0]) | rw [c26b1] | skip)
    replace H := Option.bind_eq_some_iff.mp H
    obtain ⟨t500, A280, H⟩ := H
    (try dsimp only at H)
    have A28 := Aside0.mk A280
    clear A280
    have H' := Aside0.mk H
    clear H
    have hcz29 := bc15_ BK493.out
    go_wp2_with (first | (go_at_call 52; (with_reducible refine (slices_ContainsFunc_impl_Endpoint_impl_Endpoint_with_impl_IsWorld_1.calls kj1 _ _ l0_3 t500 _ ?side1 ?side2 A28.out).mono ?_); (case side1 => exact cb_ HR0_3 HB); (case side2 => exact HC0_3.out); rintro e w30 ⟨rfl, hb⟩; have _ := Aside0.mk (bb_ BK493.out hb); have _ := Aside0.mk (below_step (pb1_ HB.out GE493.out) hb); clear BK493 HB; rename_i BK493 HB; (try clear hb); (try clear hb2); (try clear hk); (try clear hi)))
    go_meet
    case rel => exact ⟨_, (t500), el_, H', ⟨by have := HJ1.out; first | omega | exact Nat.le_refl _⟩, ⟨pk_ BK493.out⟩, ⟨pb1_ HB.out GE493.out⟩⟩
  clear HC25
  try clear c1
  try clear c2
  try clear p2
  try clear c4
  try clear c5
  try clear c6
  try clear c12
  try clear c24
  try clear c26
  try clear c26b0
  try clear c26b1
  try clear hcz27
  try clear hcz29
  try clear p2
  obtain ⟨kq, x22_24, rfl, HA, HJ24, BK493, HB⟩ := hcut
  rcases kq with _ | kj24
  · exact absurd HA.out (by simp [impl_IsWorld.j1])
  have H := HA.out
  clear HA
  simp only [impl_IsWorld.j1] at H
  by_cases c31 : x22_24 = true
  · subst c31
    rw [if_pos rfl] at H
    obtain rfl := Option.some.inj H
    go_wp2
    go_ret
    exact ⟨er_, pb1_ HB.out GE493.out⟩
  replace c31 := Bool.eq_false_iff.mpr c31
  subst c31
  rw [if_neg (show ¬ (false = true) by decide)] at H
  have HC32 := Aside0.mk H
  clear H
  go_upto_region 5 with (fail)
  go_cut [32] (fun v32 wc => ∃ (kq : Nat) (x32_31 : Bool), v32 = .bool x32_31 ∧ Aside0 (impl_IsWorld.j2 kq x32_31 l0_0 l0_1 a0_2 l0_3 a0_4 l0_5 a0_6 a0_7 a0_8 a0_9 l0_10 l0_11 a0_12 a0_13 a0_14 = some r) ∧ Aside0 (kq ≤ kj24) ∧ Aside0 (wc.heap[gb493]? = some (.cells #[(.slice A0_0 l0_0.length c0_0), (.slice A0_1 l0_1.length c0_1), .int .i64 a0_2, (.slice A0_3 l0_3.length c0_3), .int .i64 a0_4, (.slice A0_5 l0_5.length c0_5), .int .i64 a0_6, .bool a0_7, .int .i64 a0_8, .int .i64 a0_9, (.slice A0_10 l0_10.length c0_10), (.slice A0_11 l0_11.length c0_11), .int .i64 a0_12, .int .i64 a0_13, .int .i64 a0_14] 37 (0, 0))) ∧ Aside0 (Below w.heap.size w wc))
  case first =>
    have H := HC32.out
    clear HC32
    replace H := Option.bind_eq_some_iff.mp H
    obtain ⟨t501, A330, H⟩ := H
    (try dsimp only at H)
    have A33 := Aside0.mk A330
    clear A330
    by_cases c34 : t501 = true
    rotate_left
    · replace c34 := Bool.eq_false_iff.mpr c34
      subst c34
      rw [if_neg (show ¬ (false = true) by decide)] at H
      have H' := Aside0.mk H
      clear H
      have hcz35 := bc15_ BK493.out
      go_wp2_with (first | ((with_reducible refine gate_callee (f := 55) rfl ?_); refine gl_ (some 35) Try.func55 #[.agg #[.int .i64 a0_4, .slice A0_5 l0_5.length c0_5, .int .i64 a0_6, .bool a0_7]] ?_; (with_reducible refine (impl_IsRollout.calls kj24 a0_4 _ _ l0_5 a0_6 a0_7 false _ ?side1 ?side2 A33.out).mono ?_); (case side1 => exact cb_ HR0_5 HB); (case side2 => exact HC0_5.out); rintro e w36 ⟨rfl, hb⟩; refine ⟨_, rfl, ?_⟩; have _ := Aside0.mk (bb_ BK493.out hb); have _ := Aside0.mk (below_step (pb1_ HB.out GE493.out) hb); clear BK493 HB; rename_i BK493 HB; (try clear hb); (try clear hb2); (try clear hk); (try clear hi)))
      go_meet
      case rel => exact ⟨_, (true), el_, H', ⟨by have := HJ1.out; have := HJ24.out; first | omega | exact Nat.le_refl _⟩, ⟨pk_ BK493.out⟩, ⟨pb1_ HB.out GE493.out⟩⟩
    subst c34
    rw [if_pos rfl] at H
    replace H := Option.bind_eq_some_iff.mp H
    obtain ⟨t502, A370, H⟩ := H
    (try dsimp only at H)
    have A37 := Aside0.mk A370
    clear A370
    by_cases c38 : t502 = true
    rotate_left
    · replace c38 := Bool.eq_false_iff.mpr c38
      subst c38
      rw [if_neg (show ¬ (false = true) by decide)] at H
      have H' := Aside0.mk H
      clear H
      have hcz39 := bc15_ BK493.out
      go_wp2_with (first | ((with_reducible refine gate_callee (f := 55) rfl ?_); refine gl_ (some 35) Try.func55 #[.agg #[.int .i64 a0_4, .slice A0_5 l0_5.length c0_5, .int .i64 a0_6, .bool a0_7]] ?_; (with_reducible refine (impl_IsRollout.calls kj24 a0_4 _ _ l0_5 a0_6 a0_7 true _ ?side1 ?side2 A33.out).mono ?_); (case side1 => exact cb_ HR0_5 HB); (case side2 => exact HC0_5.out); rintro e w40 ⟨rfl, hb⟩; refine ⟨_, rfl, ?_⟩; have _ := Aside0.mk (bb_ BK493.out hb); have _ := Aside0.mk (below_step (pb1_ HB.out GE493.out) hb); clear BK493 HB; rename_i BK493 HB; (try clear hb); (try clear hb2); (try clear hk); (try clear hi); have hcz41 := bc15_ BK493.out) | (go_at_call 56; (with_reducible refine (slices_Contains_int_int.calls kj24 _ _ l0_0 a0_4 false _ ?side1 ?side2 A37.out).mono ?_); (case side1 => exact cb_ HR0_0 HB); (case side2 => exact HC0_0.out); rintro e w' ⟨rfl, ⟨nd, rfl⟩⟩))
      go_meet
      case rel => exact ⟨_, (true), el_, H', ⟨by have := HJ1.out; have := HJ24.out; first | omega | exact Nat.le_refl _⟩, ⟨pk_ BK493.out⟩, ⟨pb1_ HB.out GE493.out⟩⟩
    subst c38
    rw [if_pos rfl] at H
    replace H := Option.bind_eq_some_iff.mp H
    obtain ⟨t503, A420, H⟩ := H
    (try dsimp only at H)
    have A42 := Aside0.mk A420
    clear A420
    by_cases c43 : t503 = true
    rotate_left
    · replace c43 := Bool.eq_false_iff.mpr c43
      subst c43
      rw [if_neg (show ¬ (false = true) by decide)] at H
      have H' := Aside0.mk H
      clear H
      have hcz44 := bc15_ BK493.out
      go_wp2_with (first | ((with_reducible refine gate_callee (f := 55) rfl ?_); refine gl_ (some 35) Try.func55 #[.agg #[.int .i64 a0_4, .slice A0_5 l0_5.length c0_5, .int .i64 a0_6, .bool a0_7]] ?_; (with_reducible refine (impl_IsRollout.calls kj24 a0_4 _ _ l0_5 a0_6 a0_7 true _ ?side1 ?side2 A33.out).mono ?_); (case side1 => exact cb_ HR0_5 HB); (case side2 => exact HC0_5.out); rintro e w45 ⟨rfl, hb⟩; refine ⟨_, rfl, ?_⟩; have _ := Aside0.mk (bb_ BK493.out hb); have _ := Aside0.mk (below_step (pb1_ HB.out GE493.out) hb); clear BK493 HB; rename_i BK493 HB; (try clear hb); (try clear hb2); (try clear hk); (try clear hi); have hcz46 := bc15_ BK493.out) | (go_at_call 56; (with_reducible refine (slices_Contains_int_int.calls kj24 _ _ l0_0 a0_4 true _ ?side1 ?side2 A37.out).mono ?_); (case side1 => exact cb_ HR0_0 HB); (case side2 => exact HC0_0.out); rintro e w' ⟨rfl, ⟨nd, rfl⟩⟩) | (go_at_call 57; (with_reducible refine (impl_InRange.calls a0_8 1 100 false _ A42.out).mono ?_); rintro e w' ⟨rfl, ⟨nd, rfl⟩⟩))
      go_meet
      case rel => exact ⟨_, (true), el_, H', ⟨by have := HJ1.out; have := HJ24.out; first | omega | exact Nat.le_refl _⟩, ⟨pk_ BK493.out⟩, ⟨pb1_ HB.out GE493.out⟩⟩
    subst c43
    rw [if_pos rfl] at H
    replace H := Option.bind_eq_some_iff.mp H
    obtain ⟨t504, A470, H⟩ := H
    (try dsimp only at H)
    have A47 := Aside0.mk A470
    clear A470
    have H' := Aside0.mk H
    clear H
    have hcz48 := bc15_ BK493.out
    go_wp2_with (first | ((with_reducible refine gate_callee (f := 55) rfl ?_); refine gl_ (some 35) Try.func55 #[.agg #[.int .i64 a0_4, .slice A0_5 l0_5.length c0_5, .int .i64 a0_6, .bool a0_7]] ?_; (with_reducible refine (impl_IsRollout.calls kj24 a0_4 _ _ l0_5 a0_6 a0_7 true _ ?side1 ?side2 A33.out).mono ?_); (case side1 => exact cb_ HR0_5 HB); (case side2 => exact HC0_5.out); rintro e w49 ⟨rfl, hb⟩; refine ⟨_, rfl, ?_⟩; have _ := Aside0.mk (bb_ BK493.out hb); have _ := Aside0.mk (below_step (pb1_ HB.out GE493.out) hb); clear BK493 HB; rename_i BK493 HB; (try clear hb); (try clear hb2); (try clear hk); (try clear hi); have hcz50 := bc15_ BK493.out) | (go_at_call 56; (with_reducible refine (slices_Contains_int_int.calls kj24 _ _ l0_0 a0_4 true _ ?side1 ?side2 A37.out).mono ?_); (case side1 => exact cb_ HR0_0 HB); (case side2 => exact HC0_0.out); rintro e w' ⟨rfl, ⟨nd, rfl⟩⟩) | (go_at_call 57; (with_reducible refine (impl_InRange.calls a0_8 1 100 true _ A42.out).mono ?_); rintro e w' ⟨rfl, ⟨nd, rfl⟩⟩) | (go_at_call 57; (with_reducible refine (impl_InRange.calls a0_9 0 100 t504 _ A47.out).mono ?_); rintro e w' ⟨rfl, ⟨nd, rfl⟩⟩))
    go_meet
    case rel => exact ⟨_, (!t504), el_, H', ⟨by have := HJ1.out; have := HJ24.out; first | omega | exact Nat.le_refl _⟩, ⟨pk_ BK493.out⟩, ⟨pb1_ HB.out GE493.out⟩⟩
  clear HC32
  try clear c1
  try clear c2
  try clear p2
  try clear c3
  try clear c4
  try clear c5
  try clear c6
  try clear c12
  try clear c24
  try clear c26
  try clear c26b0
  try clear c26b1
  try clear c31
  try clear c34
  try clear c38
  try clear c43
  try clear c48
  try clear c50
  try clear hcz35
  try clear hcz39
  try clear hcz41
  try clear hcz44
  try clear hcz46
  try clear hcz48
  try clear hcz50
  try clear p2
  obtain ⟨kq, x32_31, rfl, HA, HJ31, BK493, HB⟩ := hcut
  rcases kq with _ | kj31
  · exact absurd HA.out (by simp [impl_IsWorld.j2])
  have H := HA.out
  clear HA
  simp only [impl_IsWorld.j2] at H
  by_cases c51 : x32_31 = true
  · subst c51
    rw [if_pos rfl] at H
    obtain rfl := Option.some.inj H
    go_wp2
    go_ret
    exact ⟨er_, pb1_ HB.out GE493.out⟩
  replace c51 := Bool.eq_false_iff.mpr c51
  subst c51
  rw [if_neg (show ¬ (false = true) by decide)] at H
  by_cases c52 : (l0_10.length : Int) ≤ 60
  rotate_left
  · rw [if_neg c52] at H
    have c52b0 : decide ((l0_10.length : Int) ≤ 60) = false := decide_eq_false c52
    have c52b1 : decide (l0_10.length ≤ 60) = false := decide_eq_false (by omega)
    clear c52
    obtain rfl := Option.some.inj H
    have hcz53 := bc15_ BK493.out
    go_wp2
    go_ret
    exact ⟨er_, pb1_ HB.out GE493.out⟩
  rw [if_pos c52] at H
  have c52b0 : decide ((l0_10.length : Int) ≤ 60) = true := decide_eq_true c52
  have c52b1 : decide (l0_10.length ≤ 60) = true := decide_eq_true (by omega)
  clear c52
  by_cases c54 : (l0_11.length : Int) ≤ 60
  rotate_left
  · rw [if_neg c54] at H
    have c54b0 : decide ((l0_11.length : Int) ≤ 60) = false := decide_eq_false c54
    have c54b1 : decide (l0_11.length ≤ 60) = false := decide_eq_false (by omega)
    clear c54
    obtain rfl := Option.some.inj H
    have hcz55 := bc15_ BK493.out
    go_wp2
    go_ret
    exact ⟨er_, pb1_ HB.out GE493.out⟩
  rw [if_pos c54] at H
  have c54b0 : decide ((l0_11.length : Int) ≤ 60) = true := decide_eq_true c54
  have c54b1 : decide (l0_11.length ≤ 60) = true := decide_eq_true (by omega)
  clear c54
  replace H := Option.bind_eq_some_iff.mp H
  obtain ⟨t505, A560, H⟩ := H
  (try dsimp only at H)
  have A56 := Aside0.mk A560
  clear A560
  by_cases c57 : t505 = true
  rotate_left
  · replace c57 := Bool.eq_false_iff.mpr c57
    subst c57
    rw [if_neg (show ¬ (false = true) by decide)] at H
    obtain rfl := Option.some.inj H
    have hcz58 := bc15_ BK493.out
    go_wp2_with (first | (go_at_call 57; (with_reducible refine (impl_InRange.calls a0_12 0 10000 false _ A56.out).mono ?_); rintro e w' ⟨rfl, ⟨nd, rfl⟩⟩))
    go_ret
    exact ⟨er_, pb1_ HB.out GE493.out⟩
  subst c57
  rw [if_pos rfl] at H
  replace H := Option.bind_eq_some_iff.mp H
  obtain ⟨t506, A590, H⟩ := H
  (try dsimp only at H)
  have A59 := Aside0.mk A590
  clear A590
  by_cases c60 : t506 = true
  rotate_left
  · replace c60 := Bool.eq_false_iff.mpr c60
    subst c60
    rw [if_neg (show ¬ (false = true) by decide)] at H
    obtain rfl := Option.some.inj H
    have hcz61 := bc15_ BK493.out
    go_wp2_with (first | (go_at_call 57; (with_reducible refine (impl_InRange.calls a0_12 0 10000 true _ A56.out).mono ?_); rintro e w' ⟨rfl, ⟨nd, rfl⟩⟩) | (go_at_call 57; (with_reducible refine (impl_InRange.calls a0_13 0 (l0_11.length : Int) false _ A59.out).mono ?_); rintro e w' ⟨rfl, ⟨nd, rfl⟩⟩))
    go_ret
    exact ⟨er_, pb1_ HB.out GE493.out⟩
  subst c60
  rw [if_pos rfl] at H
  replace H := Option.bind_eq_some_iff.mp H
  obtain ⟨t507, A620, H⟩ := H
  replace H : (some t507) = some r := H
  have A62 := Aside0.mk A620
  clear A620
  obtain rfl := Option.some.inj H
  have hcz63 := bc15_ BK493.out
  go_wp2_with (first | (go_at_call 57; (with_reducible refine (impl_InRange.calls a0_12 0 10000 true _ A56.out).mono ?_); rintro e w' ⟨rfl, ⟨nd, rfl⟩⟩) | (go_at_call 57; (with_reducible refine (impl_InRange.calls a0_13 0 (l0_11.length : Int) true _ A59.out).mono ?_); rintro e w' ⟨rfl, ⟨nd, rfl⟩⟩) | (go_at_call 57; (with_reducible refine (impl_InRange.calls a0_14 0 (l0_5.length : Int) t507 _ A62.out).mono ?_); rintro e w' ⟨rfl, ⟨nd, rfl⟩⟩))
  go_ret
  exact ⟨er_, pb1_ HB.out GE493.out⟩

end Go.Proofs.Ytchnkakjjbfklaa.Print
