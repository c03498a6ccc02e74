-- Written by a program of this session (printx.py) out of the translation; Lean checks it.
import Derived.Test.YtpoandlbmaljhaaPrint0
import Derived.Test.YtpoandlbmaljhaaPrint1
import Derived.Test.YtpoandlbmaljhaaPrint2
import Derived.Test.YtpoandlbmaljhaaPrint3
namespace Go.Proofs.Ytpoandlbmaljhaa.Print
open Go.RowKit Go.Proofs.YtpoandlbmaljhaaW.PrintWords Go.Proofs.YtpoandlbmaljhaaW.PrintLast Go.Proofs.YtpoandlbmaljhaaW.PrintMore Go.Proofs.Ytpoandlbmaljhaa.Short
attribute [local go_sem] max2_int min2_int max_two min_two max_three min_three max_four min_four   -- for this text's walks alone
set_option linter.unusedVariables false
set_option linter.unusedSimpArgs false

/-! ### spec_PassBox: function 70 -/
mutual
def spec_PassBox.j0 : Nat → Bool → Int → List Int → List Int → Bool → List Int → List (S69) → Option (List Int × (List (S69)) × Bool)
  | 0, _, _, _, _, _, _, _ => none
  | k + 1, x35, x176000, x176001, x176002, x176003, x177000, x177001 => if x35 = true then (some (([] : List Int), ([] : List (S69)), false)) else ((some (([] : List Int) : List Int)).bind fun y181 => (if y181.length + x177000.length < 17592186044416 then (spec_PassBox.l0 k 0 x176000 x176001 x176002 x176003 x177000 x177001 (y181 ++ x177000) ([] : List (S69))) else (none)))
def spec_PassBox.l0 : Nat → Int → Int → List Int → List Int → Bool → List Int → List (S69) → List Int → List (S69) → Option (List Int × (List (S69)) × Bool)
  | 0, _, _, _, _, _, _, _, _, _ => none
  | k + 1, x7, x176000, x176001, x176002, x176003, x177000, x177001, x188000, x188001 => if x7 < (x177001.length : Int) then (if 0 ≤ x7 then ((spec_l9Has.f k x176002 ((rd_T69 x177001 x7).f0)).bind fun t189 => ((spec_l9Has.f k x176001 ((rd_T69 x177001 x7).f0)).bind fun t190 => (if t190 = true then (spec_PassBox.j2 k x7 ((rd_T69 x177001 x7).f0) t189 true x176000 x176001 x176002 x176003 x177000 x177001 x188000 x188001) else (if x176003 = true then (if t189 = true then (spec_PassBox.j2 k x7 ((rd_T69 x177001 x7).f0) t189 false x176000 x176001 x176002 x176003 x177000 x177001 x188000 x188001) else ((spec_l1In.f ((rd_T69 x177001 x7).f0) 1 3).bind fun t191 => (spec_PassBox.j2 k x7 ((rd_T69 x177001 x7).f0) t189 (!t191) x176000 x176001 x176002 x176003 x177000 x177001 x188000 x188001))) else (spec_PassBox.j2 k x7 ((rd_T69 x177001 x7).f0) t189 false x176000 x176001 x176002 x176003 x177000 x177001 x188000 x188001))))) else (none)) else (some (x188000, x188001, true))
def spec_PassBox.j2 : Nat → Int → Int → Bool → Bool → Int → List Int → List Int → Bool → List Int → List (S69) → List Int → List (S69) → Option (List Int × (List (S69)) × Bool)
  | 0, _, _, _, _, _, _, _, _, _, _, _, _ => none
  | k + 1, x7, x8, x9, x75, x176000, x176001, x176002, x176003, x177000, x177001, x188000, x188001 => if x75 = true then (some (([] : List Int), ([] : List (S69)), false)) else (if x9 = true then (spec_PassBox.l0 k (wrap64 (x7 + 1)) x176000 x176001 x176002 x176003 x177000 x177001 x188000 x188001) else ((some (([] : List Int) : List Int)).bind fun y192 => (if 0 ≤ x7 then (if x7 < (x177001.length : Int) then (if y192.length + ((rd_T69 x177001 x7).f1).length < 17592186044416 then (if x188001.length < 4398046511104 then (spec_PassBox.l0 k (wrap64 (x7 + 1)) x176000 x176001 x176002 x176003 x177000 x177001 x188000 (x188001 ++ [(⟨x8, (y192 ++ ((rd_T69 x177001 x7).f1))⟩ : S69)])) else (none)) else (none)) else (none)) else (none))))
end
def spec_PassBox.f (k : Nat) (a0_0 : Int) (l0_1 : List Int) (l0_2 : List Int) (a0_3 : Bool) (l1_0 : List Int) (l1_1 : List (S69)) : Option (List Int × (List (S69)) × Bool) := (spec_IsBox.f k a0_0 l0_1 l0_2 a0_3).bind fun t178 => (if t178 = true then ((spec_IsHello.f k l1_0 l1_1).bind fun t179 => (if t179 = true then (if a0_0 > 0 then (if 0 ≤ (wrap64 ((l1_0.length : Int) - 1)) then (if (wrap64 ((l1_0.length : Int) - 1)) < (l1_0.length : Int) then (spec_PassBox.j0 k (decide ((rd l1_0 (wrap64 ((l1_0.length : Int) - 1))) > a0_0)) a0_0 l0_1 l0_2 a0_3 l1_0 l1_1) else (none)) else (none)) else (spec_PassBox.j0 k false a0_0 l0_1 l0_2 a0_3 l1_0 l1_1)) else (spec_PassBox.j0 k true a0_0 l0_1 l0_2 a0_3 l1_0 l1_1))) else (spec_PassBox.j0 k true a0_0 l0_1 l0_2 a0_3 l1_0 l1_1))
theorem spec_PassBox.mono_l : ∀ k, (∀ y0 y1 y2 y3 y4 y5 y6, LeO (spec_PassBox.j0 k y0 y1 y2 y3 y4 y5 y6) (spec_PassBox.j0 (k + 1) y0 y1 y2 y3 y4 y5 y6)) ∧ (∀ y0 y1 y2 y3 y4 y5 y6 y7 y8, LeO (spec_PassBox.l0 k y0 y1 y2 y3 y4 y5 y6 y7 y8) (spec_PassBox.l0 (k + 1) y0 y1 y2 y3 y4 y5 y6 y7 y8)) ∧ (∀ y0 y1 y2 y3 y4 y5 y6 y7 y8 y9 y10 y11, LeO (spec_PassBox.j2 k y0 y1 y2 y3 y4 y5 y6 y7 y8 y9 y10 y11) (spec_PassBox.j2 (k + 1) y0 y1 y2 y3 y4 y5 y6 y7 y8 y9 y10 y11))
  | 0 => ⟨fun _ _ _ _ _ _ _ r h => by simp [spec_PassBox.j0] at h, fun _ _ _ _ _ _ _ _ _ r h => by simp [spec_PassBox.l0] at h, fun _ _ _ _ _ _ _ _ _ _ _ _ r h => by simp [spec_PassBox.j2] at h⟩
  | k + 1 => by
    obtain ⟨ih0, ih1, ih2⟩ := spec_PassBox.mono_l k
    refine ⟨?_, ?_, ?_⟩
    · intro y0 y1 y2 y3 y4 y5 y6
      unfold spec_PassBox.j0
      repeat' first
      | (with_reducible exact ih0 _ _ _ _ _ _ _)
      | (with_reducible exact ih1 _ _ _ _ _ _ _ _ _)
      | (with_reducible exact ih2 _ _ _ _ _ _ _ _ _ _ _ _)
      | (with_reducible exact spec_IsBox.mono _ _ _ _ _)
      | (with_reducible exact spec_IsHello.mono _ _ _)
      | (with_reducible exact spec_l9Has.mono _ _ _)
      | (with_reducible exact LeO.refl _)
      | (with_reducible exact LeO.none _)
      | (with_reducible refine LeO.ite ?_ ?_)
      | (with_reducible refine LeO.bind ?_ (fun _ => ?_))
      | exact ih0 _ _ _ _ _ _ _
      | exact ih1 _ _ _ _ _ _ _ _ _
      | exact ih2 _ _ _ _ _ _ _ _ _ _ _ _
      | exact spec_IsBox.mono _ _ _ _ _
      | exact spec_IsHello.mono _ _ _
      | exact spec_l9Has.mono _ _ _
      | exact LeO.none _
      | refine LeO.ite ?_ ?_
      | refine LeO.bind ?_ (fun _ => ?_)
    · intro y0 y1 y2 y3 y4 y5 y6 y7 y8
      unfold spec_PassBox.l0
      repeat' first
      | (with_reducible exact ih0 _ _ _ _ _ _ _)
      | (with_reducible exact ih1 _ _ _ _ _ _ _ _ _)
      | (with_reducible exact ih2 _ _ _ _ _ _ _ _ _ _ _ _)
      | (with_reducible exact spec_IsBox.mono _ _ _ _ _)
      | (with_reducible exact spec_IsHello.mono _ _ _)
      | (with_reducible exact spec_l9Has.mono _ _ _)
      | (with_reducible exact LeO.refl _)
      | (with_reducible exact LeO.none _)
      | (with_reducible refine LeO.ite ?_ ?_)
      | (with_reducible refine LeO.bind ?_ (fun _ => ?_))
      | exact ih0 _ _ _ _ _ _ _
      | exact ih1 _ _ _ _ _ _ _ _ _
      | exact ih2 _ _ _ _ _ _ _ _ _ _ _ _
      | exact spec_IsBox.mono _ _ _ _ _
      | exact spec_IsHello.mono _ _ _
      | exact spec_l9Has.mono _ _ _
      | exact LeO.none _
      | refine LeO.ite ?_ ?_
      | refine LeO.bind ?_ (fun _ => ?_)
    · intro y0 y1 y2 y3 y4 y5 y6 y7 y8 y9 y10 y11
      unfold spec_PassBox.j2
      repeat' first
      | (with_reducible exact ih0 _ _ _ _ _ _ _)
      | (with_reducible exact ih1 _ _ _ _ _ _ _ _ _)
      | (with_reducible exact ih2 _ _ _ _ _ _ _ _ _ _ _ _)
      | (with_reducible exact spec_IsBox.mono _ _ _ _ _)
      | (with_reducible exact spec_IsHello.mono _ _ _)
      | (with_reducible exact spec_l9Has.mono _ _ _)
      | (with_reducible exact LeO.refl _)
      | (with_reducible exact LeO.none _)
      | (with_reducible refine LeO.ite ?_ ?_)
      | (with_reducible refine LeO.bind ?_ (fun _ => ?_))
      | exact ih0 _ _ _ _ _ _ _
      | exact ih1 _ _ _ _ _ _ _ _ _
      | exact ih2 _ _ _ _ _ _ _ _ _ _ _ _
      | exact spec_IsBox.mono _ _ _ _ _
      | exact spec_IsHello.mono _ _ _
      | exact spec_l9Has.mono _ _ _
      | exact LeO.none _
      | refine LeO.ite ?_ ?_
      | refine LeO.bind ?_ (fun _ => ?_)
theorem spec_PassBox.mono : ∀ a0 a1 a2 a3 a4 a5 k, LeO (spec_PassBox.f k a0 a1 a2 a3 a4 a5) (spec_PassBox.f (k + 1) a0 a1 a2 a3 a4 a5) := by
  intro a0 a1 a2 a3 a4 a5 k
  obtain ⟨ih0, ih1, ih2⟩ := spec_PassBox.mono_l k
  unfold spec_PassBox.f
  repeat' first
      | (with_reducible exact ih0 _ _ _ _ _ _ _)
      | (with_reducible exact ih1 _ _ _ _ _ _ _ _ _)
      | (with_reducible exact ih2 _ _ _ _ _ _ _ _ _ _ _ _)
      | (with_reducible exact spec_IsBox.mono _ _ _ _ _)
      | (with_reducible exact spec_IsHello.mono _ _ _)
      | (with_reducible exact spec_l9Has.mono _ _ _)
      | (with_reducible exact LeO.refl _)
      | (with_reducible exact LeO.none _)
      | (with_reducible refine LeO.ite ?_ ?_)
      | (with_reducible refine LeO.bind ?_ (fun _ => ?_))
      | exact ih0 _ _ _ _ _ _ _
      | exact ih1 _ _ _ _ _ _ _ _ _
      | exact ih2 _ _ _ _ _ _ _ _ _ _ _ _
      | exact spec_IsBox.mono _ _ _ _ _
      | exact spec_IsHello.mono _ _ _
      | exact spec_l9Has.mono _ _ _
      | exact LeO.none _
      | refine LeO.ite ?_ ?_
      | refine LeO.bind ?_ (fun _ => ?_)
def spec_PassBox.T1 : Bool × List (List Nat × List Nat) := (true, [([], []), ([0], [0]), ([1], [1]), ([2, 1], [2]), ([3], [3]), ([4, 3, 3], [3, 4]), ([5, 3], [3, 5]), ([3, 6], [3, 6]), ([7, 5], [7]), ([8], [8]), ([9, 8], [8, 9]), ([10, 8], [8, 10]), ([11, 8, 8], [8, 11]), ([12], [12]), ([13, 12], [12, 13]), ([12], [12]), ([15, 12], [12, 15]), ([16, 12], [12, 16]), ([17, 12], [12, 17]), ([14, 18, 12], [12, 14, 18]), ([19, 12], [12, 19]), ([12], [12]), ([21, 12], [12, 21]), ([20, 22, 12], [12, 20, 22]), ([12, 23, 8], [8, 12, 23]), ([8, 24], [8, 24])])
def spec_PassBox.B1 : List Nat := [0, 1, 3, 7, 15, 31, 63, 127, 255, 511, 1023, 2047, 4095, 8191, 16383, 8191, 40959, 106495, 237567, 524287, 1048575, 8191, 2105343, 8388607, 16777215, 33554431]
theorem spec_PassBox.tab1 : rtab .any (opsOf Try.f70 1) = spec_PassBox.T1 := by kernel_rfl
theorem spec_PassBox.bits1 : waitsOk spec_PassBox.T1.2 spec_PassBox.B1 = true := by kernel_rfl
def spec_PassBox.T12 : Bool × List (List Nat × List Nat) := (true, [([], []), ([0], [0]), ([], []), ([], []), ([], []), ([4], [4]), ([], []), ([5, 6], [5, 6]), ([7], [7]), ([8], [8]), ([3, 9], [3, 9]), ([2, 10], [2, 10]), ([11], [11]), ([1, 12, 10], [1, 12]), ([0, 1, 2, 3, 4, 5, 6, 7, 8, 9, 10, 11, 12, 13], []), ([14, 13, 13, 0, 1, 2, 3, 4, 5, 6, 7, 8, 9, 10, 11, 12, 13], [13, 14])])
def spec_PassBox.B12 : List Nat := [0, 1, 0, 0, 0, 16, 0, 112, 240, 496, 1016, 2044, 4092, 8191, 16383, 32767]
theorem spec_PassBox.tab12 : rtab .any (opsOf Try.f70 12) = spec_PassBox.T12 := by kernel_rfl
theorem spec_PassBox.bits12 : waitsOk spec_PassBox.T12.2 spec_PassBox.B12 = true := by kernel_rfl
set_option maxHeartbeats 8000000 in
set_option maxRecDepth 100000 in
theorem spec_PassBox.calls (k : Nat) (a0_0 : Int) (A0_1 : Option Addr) (c0_1 : Nat) (l0_1 : List Int) (A0_2 : Option Addr) (c0_2 : Nat) (l0_2 : List Int) (a0_3 : Bool) (A1_0 : Option Addr) (c1_0 : Nat) (l1_0 : List Int) (A1_1 : Option Addr) (c1_1 : Nat) (l1_1 : List (S69)) (r1 : List Int) (r2 : List (S69)) (r3 : Bool) (w : World) (hr0_1 : Kd.C (Kd.int .i64) w A0_1 l0_1.length l0_1) (hc0_1 : l0_1.length ≤ c0_1) (hr0_2 : Kd.C (Kd.int .i64) w A0_2 l0_2.length l0_2) (hc0_2 : l0_2.length ≤ c0_2) (hr1_0 : Kd.C (Kd.int .i64) w A1_0 l1_0.length l1_0) (hc1_0 : l1_0.length ≤ c1_0) (hr1_1 : Kd.C k69 w A1_1 l1_1.length l1_1) (hc1_1 : l1_1.length ≤ c1_1) (h : spec_PassBox.f k a0_0 l0_1 l0_2 a0_3 l1_0 l1_1 = some (r1, r2, r3)) :
    Calls Try.prog 70 #[.agg #[.int .i64 a0_0, .slice A0_1 l0_1.length c0_1, .slice A0_2 l0_2.length c0_2, .bool a0_3], .agg #[.slice A1_0 l1_0.length c1_0, .slice A1_1 l1_1.length c1_1]] w fun e w' => ∃ v0_ v1_ : Value, e = .returned (.tuple #[.agg #[v0_, v1_], .bool r3]) ∧ Kd.R (Kd.int .i64) 3 w' w.heap.size (fun _ => True) v0_ r1 ∧ Kd.S k69 69 w' w.heap.size (fun k_ => some k_ ≠ (v0_ : Value).ownBlock) v1_ r2 ∧ Below w.heap.size w w' := by
  have hu50 := Try.underlying50
  have hu63 := Try.underlying63
  have hu69 := Try.underlying69
  have HR0_1 := Aside0.mk hr0_1
  have HC0_1 := Aside0.mk hc0_1
  clear hr0_1 hc0_1
  have HR0_2 := Aside0.mk hr0_2
  have HC0_2 := Aside0.mk hc0_2
  clear hr0_2 hc0_2
  have HR1_0 := Aside0.mk hr1_0
  have HC1_0 := Aside0.mk hc1_0
  clear hr1_0 hc1_0
  have HR1_1 := Aside0.mk hr1_1
  have HC1_1 := Aside0.mk hc1_1
  clear hr1_1 hc1_1
  have HB := Aside0.mk (Below.refl w.heap.size w)
  have H : ((spec_IsBox.f k a0_0 l0_1 l0_2 a0_3).bind fun t178 => (if t178 = true then ((spec_IsHello.f k l1_0 l1_1).bind fun t179 => (if t179 = true then (if a0_0 > 0 then (if 0 ≤ (wrap64 ((l1_0.length : Int) - 1)) then (if (wrap64 ((l1_0.length : Int) - 1)) < (l1_0.length : Int) then (spec_PassBox.j0 k (decide ((rd l1_0 (wrap64 ((l1_0.length : Int) - 1))) > a0_0)) a0_0 l0_1 l0_2 a0_3 l1_0 l1_1) else (none)) else (none)) else (spec_PassBox.j0 k false a0_0 l0_1 l0_2 a0_3 l1_0 l1_1)) else (spec_PassBox.j0 k true a0_0 l0_1 l0_2 a0_3 l1_0 l1_1))) else (spec_PassBox.j0 k true a0_0 l0_1 l0_2 a0_3 l1_0 l1_1))) = some (r1, r2, r3) := h
  clear h
  have HC3 := Aside0.mk H
  clear H
  go_enter Try.func70, Try.ntmps70
  go_upto_region 1 with (first | ((with_reducible refine gate_dst (N := 2) rfl ?_); (try (refine gate_guard (by rfl) ?_; dsimp only)); refine box_event ?hg (N := 2) ?hd (cs := #[.int .i64 a0_0, .slice A0_1 l0_1.length c0_1, .slice A0_2 l0_2.length c0_2, .bool a0_3]) (t := 50) ?hr ?_; (case hd => rfl); (case hg => rfl); (case hr => first | (go_simp; done) | (go_simp; rfl)); intro gb175 hg w4 hbox hb; have n0_ := Aside0.mk (below_step (pb_ HB.out) hb); have n1_ := Aside0.mk (hbox); have n2_ := Aside0.mk ((by rw [hg]; exact (below_size (pb_ HB.out)) : w.heap.size ≤ gb175)); have n3_ := Aside0.mk ((by rw [hg]; exact (below_size (pb_ HB.out)) : w.heap.size ≤ gb175)); clear HB; have HB := n0_; have BK175 := n1_; have GW175 := n2_; have GE175 := n3_; clear n0_ n1_ n2_ n3_; clear hb hbox hg) | ((with_reducible refine gate_dst (N := 3) rfl ?_); (try (refine gate_guard (by rfl) ?_; dsimp only)); refine box_event ?hg (N := 3) ?hd (cs := #[.slice A1_0 l1_0.length c1_0, .slice A1_1 l1_1.length c1_1]) (t := 63) ?hr ?_; (case hd => rfl); (case hg => rfl); (case hr => first | (go_simp; done) | (go_simp; rfl)); intro gb176 hg w5 hbox hb; have n0_ := Aside0.mk (bb_ BK175.out hb); have n1_ := Aside0.mk (below_step (pb1_ HB.out GE175.out) hb); have n2_ := Aside0.mk (hbox); have n3_ := Aside0.mk ((by rw [hg]; exact (below_size (pb1_ HB.out GE175.out)) : w.heap.size ≤ gb176)); have n4_ := Aside0.mk ((by rw [hg]; exact (below_size (pb1_ HB.out GE175.out)) : w.heap.size ≤ gb176)); have n5_ := Aside0.mk ((by rw [hg]; exact Nat.ne_of_lt (blk_lt (pk_ BK175.out)) : gb175 ≠ gb176)); have n6_ := Aside0.mk ((by rw [hg]; exact Nat.ne_of_gt (blk_lt (pk_ BK175.out)) : gb176 ≠ gb175)); clear BK175; clear HB; have BK175 := n0_; have HB := n1_; have BK176 := n2_; have GW176 := n3_; have GE176 := n4_; have NB175_176 := n5_; have NB176_175 := n6_; clear n0_ n1_ n2_ n3_ n4_ n5_ n6_; clear hb hbox hg) | ((with_reducible refine gate_dst (N := 4) rfl ?_); (try (refine gate_guard (by rfl) ?_; dsimp only)); refine box_event ?hg (N := 4) ?hd (cs := #[.slice none 0 0, .slice none 0 0]) (t := 63) ?hr ?_; (case hd => rfl); (case hg => rfl); (case hr => first | (go_simp; done) | (go_simp; rfl)); intro gb177 hg w6 hbox hb; have n0_ := Aside0.mk (bb_ BK175.out hb); have n1_ := Aside0.mk (bb_ BK176.out hb); have n2_ := Aside0.mk (below_step (pb2_ HB.out GE175.out GE176.out) hb); have n3_ := Aside0.mk (hbox); have n4_ := Aside0.mk ((by rw [hg]; exact (below_size (pb2_ HB.out GE175.out GE176.out)) : w.heap.size ≤ gb177)); have n5_ := Aside0.mk ((by rw [hg]; exact (below_size (pb2_ HB.out GE175.out GE176.out)) : w.heap.size ≤ gb177)); have n6_ := Aside0.mk ((by rw [hg]; exact Nat.ne_of_lt (blk_lt (pk_ BK175.out)) : gb175 ≠ gb177)); have n7_ := Aside0.mk ((by rw [hg]; exact Nat.ne_of_gt (blk_lt (pk_ BK175.out)) : gb177 ≠ gb175)); have n8_ := Aside0.mk ((by rw [hg]; exact Nat.ne_of_lt (blk_lt (pk_ BK176.out)) : gb176 ≠ gb177)); have n9_ := Aside0.mk ((by rw [hg]; exact Nat.ne_of_gt (blk_lt (pk_ BK176.out)) : gb177 ≠ gb176)); clear BK175; clear BK176; clear HB; have BK175 := n0_; have BK176 := n1_; have HB := n2_; have BK177 := n3_; have GW177 := n4_; have GE177 := n5_; have NB175_177 := n6_; have NB177_175 := n7_; have NB176_177 := n8_; have NB177_176 := n9_; clear n0_ n1_ n2_ n3_ n4_ n5_ n6_ n7_ n8_ n9_; clear hb hbox hg))
  (try simp only [Act.put, List.setIfInBounds_toArray, List.set_cons_zero, List.set_cons_succ])
  go_cut [35] (fun v35 wc => ∃ (kq : Nat) (x35_2 : Bool), v35 = .bool x35_2 ∧ Aside0 (spec_PassBox.j0 kq x35_2 a0_0 l0_1 l0_2 a0_3 l1_0 l1_1 = some (r1, r2, r3)) ∧ Aside0 (kq ≤ k) ∧ Aside0 (wc.heap[gb175]? = some (.cells #[.int .i64 a0_0, (.slice A0_1 l0_1.length c0_1), (.slice A0_2 l0_2.length c0_2), .bool a0_3] 50 (0, 0))) ∧ Aside0 (wc.heap[gb176]? = some (.cells #[(.slice A1_0 l1_0.length c1_0), (.slice A1_1 l1_1.length c1_1)] 63 (0, 0))) ∧ Aside0 (wc.heap[gb177]? = some (.cells #[(.slice none 0 0), (.slice none 0 0)] 63 (0, 0))) ∧ Aside0 (Below w.heap.size w wc))
  case first =>
    have H := HC3.out
    clear HC3
    replace H := Option.bind_eq_some_iff.mp H
    obtain ⟨t178, A70, H⟩ := H
    (try dsimp only at H)
    have A7 := Aside0.mk A70
    clear A70
    by_cases c8 : t178 = true
    rotate_left
    · replace c8 := Bool.eq_false_iff.mpr c8
      subst c8
      rw [if_neg (show ¬ (false = true) by decide)] at H
      have H' := Aside0.mk H
      clear H
      try go_wp2
      have n0_ := Aside0.mk (blk_drew BK175.out)
      have n1_ := Aside0.mk (blk_drew BK176.out)
      have n2_ := Aside0.mk (blk_drew BK177.out)
      have n3_ := Aside0.mk (below_drew1 HB.out)
      clear BK175
      clear BK176
      clear BK177
      clear HB
      have BK175 := n0_
      have BK176 := n1_
      have BK177 := n2_
      have HB := n3_
      clear n0_ n1_ n2_ n3_
      refine start_ (n := 26) (S := fun w' => w'.cell? ⟨gb175, 0, none⟩ = some (.int .i64 a0_0) ∧ w'.cell? ⟨gb175, 1, none⟩ = some (.slice A0_1 l0_1.length c0_1) ∧ w'.cell? ⟨gb175, 2, none⟩ = some (.slice A0_2 l0_2.length c0_2) ∧ w'.cell? ⟨gb175, 3, none⟩ = some (.bool a0_3)) (ds := []) #[false, false, false, false, false, false, false, false, false, false, false, false, false, false, false, false, false, false, false, false, false, false, false, false, false, false] (by kernel_rfl) rfl rfl ⟨(blk_cell BK175.out 0).trans rfl, (blk_cell BK175.out 1).trans rfl, (blk_cell BK175.out 2).trans rfl, (blk_cell BK175.out 3).trans rfl⟩ (fun hHeld => ?_); refine with_tabW spec_PassBox.tab1 spec_PassBox.bits1 (fun HT_ HW_ => ?_)
      generalize w6.drew = w9 at BK175 BK176 BK177 HB hHeld ⊢
      refine ta_ 0 (some 10) (tf_ 1 26) HT_ HW_ hHeld ?_
      refine on_ 1 (some 11) (tf_ 2 26) HT_ (fun K hK => ?_)
      refine goes_ Try.func51 (by kernel_rfl) rfl #[.agg #[.int .i64 a0_0, .slice A0_1 l0_1.length c0_1, .slice A0_2 l0_2.length c0_2, .bool a0_3]] (by rfl) rfl rfl mp_ ?_
      with_reducible refine (spec_IsBox.calls k a0_0 _ _ l0_1 _ _ l0_2 a0_3 false _ ?side1 ?side2 ?side3 ?side4 A7.out).mono ?_
      (case side1 => exact pc_ (Kd.C_below HR0_1.out HB.out))
      (case side2 => exact HC0_1.out)
      (case side3 => exact pc_ (Kd.C_below HR0_2.out HB.out))
      (case side4 => exact HC0_2.out)
      rintro e w10 ⟨rfl, hb⟩
      refine ⟨_, rfl, ?_⟩
      have n0_ := Aside0.mk (bb_ BK175.out hb)
      have n1_ := Aside0.mk (bb_ BK176.out hb)
      have n2_ := Aside0.mk (bb_ BK177.out hb)
      have n3_ := Aside0.mk (below_step (pb3_ HB.out GE175.out GE176.out GE177.out) hb)
      clear BK175
      clear BK176
      clear BK177
      clear HB
      have BK175 := n0_
      have BK176 := n1_
      have BK177 := n2_
      have HB := n3_
      clear n0_ n1_ n2_ n3_
      (try clear hb)
      (try clear hb2)
      (try clear hk)
      (try clear hi)
      refine hK.out _ _ ⟨(blk_cell BK175.out 0).trans rfl, (blk_cell BK175.out 1).trans rfl, (blk_cell BK175.out 2).trans rfl, (blk_cell BK175.out 3).trans rfl⟩ (fun hHeld => ?_)
      clear hK K
      refine no_ (some 11) ?_
      refine pu_ 2 (some 12) (tf_ 3 26) HT_ ?_
      refine pu_ 3 (some 13) (tf_ 4 26) HT_ ?_
      refine pn_ 4 (some 14) (tf_ 5 26) HT_ ?_
      refine pn_ 5 (some 15) (tf_ 6 26) HT_ ?_
      refine pn_ 6 (some 16) (tf_ 7 26) HT_ ?_
      refine pu_ 7 (some 17) (tf_ 8 26) HT_ ?_
      refine pu_ 8 (some 18) (tf_ 9 26) HT_ ?_
      refine pn_ 9 (some 19) (tf_ 10 26) HT_ ?_
      refine pn_ 10 (some 20) (tf_ 11 26) HT_ ?_
      refine pn_ 11 (some 21) (tf_ 12 26) HT_ ?_
      refine pn_ 12 (some 22) (tf_ 13 26) HT_ ?_
      refine pn_ 13 (some 23) (tf_ 14 26) HT_ ?_
      refine pn_ 14 (some 24) (tf_ 15 26) HT_ ?_
      refine pn_ 15 (some 25) (tf_ 16 26) HT_ ?_
      refine pn_ 16 (some 26) (tf_ 17 26) HT_ ?_
      refine pn_ 17 (some 27) (tf_ 18 26) HT_ ?_
      refine pn_ 18 (some 28) (tf_ 19 26) HT_ ?_
      refine pn_ 19 (some 29) (tf_ 20 26) HT_ ?_
      refine pn_ 20 (some 30) (tf_ 21 26) HT_ ?_
      refine pn_ 21 (some 31) (tf_ 22 26) HT_ ?_
      refine pn_ 22 (some 32) (tf_ 23 26) HT_ ?_
      refine pn_ 23 (some 33) (tf_ 24 26) HT_ ?_
      refine pn_ 24 (some 34) (tf_ 25 26) HT_ ?_
      refine pu_ 25 (some 35) (tf_ 26 26) HT_ ?_
      refine done_ (done_of HT_.out (by kernel_rfl)) ?_
      try go_wp2
      go_meet
      case rel => exact ⟨_, (true), el_, H', ⟨by first | omega | exact Nat.le_refl _⟩, ⟨pk_ BK175.out⟩, ⟨pk_ BK176.out⟩, ⟨pk_ BK177.out⟩, ⟨pb3_ HB.out GE175.out GE176.out GE177.out⟩⟩
    subst c8
    rw [if_pos rfl] at H
    replace H := Option.bind_eq_some_iff.mp H
    obtain ⟨t179, A110, H⟩ := H
    (try dsimp only at H)
    have A11 := Aside0.mk A110
    clear A110
    by_cases c12 : t179 = true
    rotate_left
    · replace c12 := Bool.eq_false_iff.mpr c12
      subst c12
      rw [if_neg (show ¬ (false = true) by decide)] at H
      have H' := Aside0.mk H
      clear H
      try go_wp2
      have n0_ := Aside0.mk (blk_drew BK175.out)
      have n1_ := Aside0.mk (blk_drew BK176.out)
      have n2_ := Aside0.mk (blk_drew BK177.out)
      have n3_ := Aside0.mk (below_drew1 HB.out)
      clear BK175
      clear BK176
      clear BK177
      clear HB
      have BK175 := n0_
      have BK176 := n1_
      have BK177 := n2_
      have HB := n3_
      clear n0_ n1_ n2_ n3_
      refine start_ (n := 26) (S := fun w' => w'.cell? ⟨gb175, 0, none⟩ = some (.int .i64 a0_0) ∧ w'.cell? ⟨gb175, 1, none⟩ = some (.slice A0_1 l0_1.length c0_1) ∧ w'.cell? ⟨gb175, 2, none⟩ = some (.slice A0_2 l0_2.length c0_2) ∧ w'.cell? ⟨gb175, 3, none⟩ = some (.bool a0_3) ∧ w'.cell? ⟨gb176, 0, none⟩ = some (.slice A1_0 l1_0.length c1_0) ∧ w'.cell? ⟨gb176, 1, none⟩ = some (.slice A1_1 l1_1.length c1_1)) (ds := []) #[false, false, false, false, false, false, false, false, false, false, false, false, false, false, false, false, false, false, false, false, false, false, false, false, false, false] (by kernel_rfl) rfl rfl ⟨(blk_cell BK175.out 0).trans rfl, (blk_cell BK175.out 1).trans rfl, (blk_cell BK175.out 2).trans rfl, (blk_cell BK175.out 3).trans rfl, (blk_cell BK176.out 0).trans rfl, (blk_cell BK176.out 1).trans rfl⟩ (fun hHeld => ?_); refine with_tabW spec_PassBox.tab1 spec_PassBox.bits1 (fun HT_ HW_ => ?_)
      generalize w6.drew = w13 at BK175 BK176 BK177 HB hHeld ⊢
      refine ta_ 0 (some 10) (tf_ 1 26) HT_ HW_ hHeld ?_
      refine on_ 1 (some 11) (tf_ 2 26) HT_ (fun K hK => ?_)
      refine goes_ Try.func51 (by kernel_rfl) rfl #[.agg #[.int .i64 a0_0, .slice A0_1 l0_1.length c0_1, .slice A0_2 l0_2.length c0_2, .bool a0_3]] (by rfl) rfl rfl mp_ ?_
      with_reducible refine (spec_IsBox.calls k a0_0 _ _ l0_1 _ _ l0_2 a0_3 true _ ?side1 ?side2 ?side3 ?side4 A7.out).mono ?_
      (case side1 => exact pc_ (Kd.C_below HR0_1.out HB.out))
      (case side2 => exact HC0_1.out)
      (case side3 => exact pc_ (Kd.C_below HR0_2.out HB.out))
      (case side4 => exact HC0_2.out)
      rintro e w14 ⟨rfl, hb⟩
      refine ⟨_, rfl, ?_⟩
      have n0_ := Aside0.mk (bb_ BK175.out hb)
      have n1_ := Aside0.mk (bb_ BK176.out hb)
      have n2_ := Aside0.mk (bb_ BK177.out hb)
      have n3_ := Aside0.mk (below_step (pb3_ HB.out GE175.out GE176.out GE177.out) hb)
      clear BK175
      clear BK176
      clear BK177
      clear HB
      have BK175 := n0_
      have BK176 := n1_
      have BK177 := n2_
      have HB := n3_
      clear n0_ n1_ n2_ n3_
      (try clear hb)
      (try clear hb2)
      (try clear hk)
      (try clear hi)
      refine hK.out _ _ ⟨(blk_cell BK175.out 0).trans rfl, (blk_cell BK175.out 1).trans rfl, (blk_cell BK175.out 2).trans rfl, (blk_cell BK175.out 3).trans rfl, (blk_cell BK176.out 0).trans rfl, (blk_cell BK176.out 1).trans rfl⟩ (fun hHeld => ?_)
      clear hK K
      refine no_ (some 11) ?_
      refine pu_ 2 (some 12) (tf_ 3 26) HT_ ?_
      refine pu_ 3 (some 13) (tf_ 4 26) HT_ ?_
      refine ta_ 4 (some 14) (tf_ 5 26) HT_ HW_ hHeld ?_
      refine on_ 5 (some 15) (tf_ 6 26) HT_ (fun K hK => ?_)
      refine goes_ Try.func68 (by kernel_rfl) rfl #[.agg #[.slice A1_0 l1_0.length c1_0, .slice A1_1 l1_1.length c1_1]] (by rfl) rfl rfl mp_ ?_
      with_reducible refine (spec_IsHello.calls k _ _ l1_0 _ _ l1_1 false _ ?side1 ?side2 ?side3 ?side4 A11.out).mono ?_
      (case side1 => exact pc_ (Kd.C_below HR1_0.out HB.out))
      (case side2 => exact HC1_0.out)
      (case side3 => exact pc_ (Kd.C_below HR1_1.out HB.out))
      (case side4 => exact HC1_1.out)
      rintro e w15 ⟨rfl, hb⟩
      refine ⟨_, rfl, ?_⟩
      have n0_ := Aside0.mk (bb_ BK175.out hb)
      have n1_ := Aside0.mk (bb_ BK176.out hb)
      have n2_ := Aside0.mk (bb_ BK177.out hb)
      have n3_ := Aside0.mk (below_step (pb3_ HB.out GE175.out GE176.out GE177.out) hb)
      clear BK175
      clear BK176
      clear BK177
      clear HB
      have BK175 := n0_
      have BK176 := n1_
      have BK177 := n2_
      have HB := n3_
      clear n0_ n1_ n2_ n3_
      (try clear hb)
      (try clear hb2)
      (try clear hk)
      (try clear hi)
      refine hK.out _ _ ⟨(blk_cell BK175.out 0).trans rfl, (blk_cell BK175.out 1).trans rfl, (blk_cell BK175.out 2).trans rfl, (blk_cell BK175.out 3).trans rfl, (blk_cell BK176.out 0).trans rfl, (blk_cell BK176.out 1).trans rfl⟩ (fun hHeld => ?_)
      clear hK K
      refine no_ (some 15) ?_
      refine pu_ 6 (some 16) (tf_ 7 26) HT_ ?_
      refine pu_ 7 (some 17) (tf_ 8 26) HT_ ?_
      refine pu_ 8 (some 18) (tf_ 9 26) HT_ ?_
      refine pn_ 9 (some 19) (tf_ 10 26) HT_ ?_
      refine pn_ 10 (some 20) (tf_ 11 26) HT_ ?_
      refine pn_ 11 (some 21) (tf_ 12 26) HT_ ?_
      refine pn_ 12 (some 22) (tf_ 13 26) HT_ ?_
      refine pn_ 13 (some 23) (tf_ 14 26) HT_ ?_
      refine pn_ 14 (some 24) (tf_ 15 26) HT_ ?_
      refine pn_ 15 (some 25) (tf_ 16 26) HT_ ?_
      refine pn_ 16 (some 26) (tf_ 17 26) HT_ ?_
      refine pn_ 17 (some 27) (tf_ 18 26) HT_ ?_
      refine pn_ 18 (some 28) (tf_ 19 26) HT_ ?_
      refine pn_ 19 (some 29) (tf_ 20 26) HT_ ?_
      refine pn_ 20 (some 30) (tf_ 21 26) HT_ ?_
      refine pn_ 21 (some 31) (tf_ 22 26) HT_ ?_
      refine pn_ 22 (some 32) (tf_ 23 26) HT_ ?_
      refine pn_ 23 (some 33) (tf_ 24 26) HT_ ?_
      refine pn_ 24 (some 34) (tf_ 25 26) HT_ ?_
      refine pu_ 25 (some 35) (tf_ 26 26) HT_ ?_
      refine done_ (done_of HT_.out (by kernel_rfl)) ?_
      try go_wp2
      go_meet
      case rel => exact ⟨_, (true), el_, H', ⟨by first | omega | exact Nat.le_refl _⟩, ⟨pk_ BK175.out⟩, ⟨pk_ BK176.out⟩, ⟨pk_ BK177.out⟩, ⟨pb3_ HB.out GE175.out GE176.out GE177.out⟩⟩
    subst c12
    rw [if_pos rfl] at H
    by_cases c16 : a0_0 > 0
    rotate_left
    · rw [if_neg c16] at H
      have c16b0 : decide (0 < a0_0) = false := decide_eq_false c16
      clear c16
      (first | rw [c16b0] | (simp only [i64_w, i32_w]; rw [c16b0]) | skip)
      have H' := Aside0.mk H
      clear H
      try go_wp2
      have n0_ := Aside0.mk (blk_drew BK175.out)
      have n1_ := Aside0.mk (blk_drew BK176.out)
      have n2_ := Aside0.mk (blk_drew BK177.out)
      have n3_ := Aside0.mk (below_drew1 HB.out)
      clear BK175
      clear BK176
      clear BK177
      clear HB
      have BK175 := n0_
      have BK176 := n1_
      have BK177 := n2_
      have HB := n3_
      clear n0_ n1_ n2_ n3_
      refine start_ (n := 26) (S := fun w' => w'.cell? ⟨gb175, 0, none⟩ = some (.int .i64 a0_0) ∧ w'.cell? ⟨gb175, 1, none⟩ = some (.slice A0_1 l0_1.length c0_1) ∧ w'.cell? ⟨gb175, 2, none⟩ = some (.slice A0_2 l0_2.length c0_2) ∧ w'.cell? ⟨gb175, 3, none⟩ = some (.bool a0_3) ∧ w'.cell? ⟨gb176, 0, none⟩ = some (.slice A1_0 l1_0.length c1_0) ∧ w'.cell? ⟨gb176, 1, none⟩ = some (.slice A1_1 l1_1.length c1_1)) (ds := []) #[false, false, false, false, false, false, false, false, false, false, false, false, false, false, false, false, false, false, false, false, false, false, false, false, false, false] (by kernel_rfl) rfl rfl ⟨(blk_cell BK175.out 0).trans rfl, (blk_cell BK175.out 1).trans rfl, (blk_cell BK175.out 2).trans rfl, (blk_cell BK175.out 3).trans rfl, (blk_cell BK176.out 0).trans rfl, (blk_cell BK176.out 1).trans rfl⟩ (fun hHeld => ?_); refine with_tabW spec_PassBox.tab1 spec_PassBox.bits1 (fun HT_ HW_ => ?_)
      generalize w6.drew = w17 at BK175 BK176 BK177 HB hHeld ⊢
      refine ta_ 0 (some 10) (tf_ 1 26) HT_ HW_ hHeld ?_
      refine on_ 1 (some 11) (tf_ 2 26) HT_ (fun K hK => ?_)
      refine goes_ Try.func51 (by kernel_rfl) rfl #[.agg #[.int .i64 a0_0, .slice A0_1 l0_1.length c0_1, .slice A0_2 l0_2.length c0_2, .bool a0_3]] (by rfl) rfl rfl mp_ ?_
      with_reducible refine (spec_IsBox.calls k a0_0 _ _ l0_1 _ _ l0_2 a0_3 true _ ?side1 ?side2 ?side3 ?side4 A7.out).mono ?_
      (case side1 => exact pc_ (Kd.C_below HR0_1.out HB.out))
      (case side2 => exact HC0_1.out)
      (case side3 => exact pc_ (Kd.C_below HR0_2.out HB.out))
      (case side4 => exact HC0_2.out)
      rintro e w18 ⟨rfl, hb⟩
      refine ⟨_, rfl, ?_⟩
      have n0_ := Aside0.mk (bb_ BK175.out hb)
      have n1_ := Aside0.mk (bb_ BK176.out hb)
      have n2_ := Aside0.mk (bb_ BK177.out hb)
      have n3_ := Aside0.mk (below_step (pb3_ HB.out GE175.out GE176.out GE177.out) hb)
      clear BK175
      clear BK176
      clear BK177
      clear HB
      have BK175 := n0_
      have BK176 := n1_
      have BK177 := n2_
      have HB := n3_
      clear n0_ n1_ n2_ n3_
      (try clear hb)
      (try clear hb2)
      (try clear hk)
      (try clear hi)
      refine hK.out _ _ ⟨(blk_cell BK175.out 0).trans rfl, (blk_cell BK175.out 1).trans rfl, (blk_cell BK175.out 2).trans rfl, (blk_cell BK175.out 3).trans rfl, (blk_cell BK176.out 0).trans rfl, (blk_cell BK176.out 1).trans rfl⟩ (fun hHeld => ?_)
      clear hK K
      refine no_ (some 11) ?_
      refine pu_ 2 (some 12) (tf_ 3 26) HT_ ?_
      refine pu_ 3 (some 13) (tf_ 4 26) HT_ ?_
      refine ta_ 4 (some 14) (tf_ 5 26) HT_ HW_ hHeld ?_
      refine on_ 5 (some 15) (tf_ 6 26) HT_ (fun K hK => ?_)
      refine goes_ Try.func68 (by kernel_rfl) rfl #[.agg #[.slice A1_0 l1_0.length c1_0, .slice A1_1 l1_1.length c1_1]] (by rfl) rfl rfl mp_ ?_
      with_reducible refine (spec_IsHello.calls k _ _ l1_0 _ _ l1_1 true _ ?side1 ?side2 ?side3 ?side4 A11.out).mono ?_
      (case side1 => exact pc_ (Kd.C_below HR1_0.out HB.out))
      (case side2 => exact HC1_0.out)
      (case side3 => exact pc_ (Kd.C_below HR1_1.out HB.out))
      (case side4 => exact HC1_1.out)
      rintro e w19 ⟨rfl, hb⟩
      refine ⟨_, rfl, ?_⟩
      have n0_ := Aside0.mk (bb_ BK175.out hb)
      have n1_ := Aside0.mk (bb_ BK176.out hb)
      have n2_ := Aside0.mk (bb_ BK177.out hb)
      have n3_ := Aside0.mk (below_step (pb3_ HB.out GE175.out GE176.out GE177.out) hb)
      clear BK175
      clear BK176
      clear BK177
      clear HB
      have BK175 := n0_
      have BK176 := n1_
      have BK177 := n2_
      have HB := n3_
      clear n0_ n1_ n2_ n3_
      (try clear hb)
      (try clear hb2)
      (try clear hk)
      (try clear hi)
      refine hK.out _ _ ⟨(blk_cell BK175.out 0).trans rfl, (blk_cell BK175.out 1).trans rfl, (blk_cell BK175.out 2).trans rfl, (blk_cell BK175.out 3).trans rfl, (blk_cell BK176.out 0).trans rfl, (blk_cell BK176.out 1).trans rfl⟩ (fun hHeld => ?_)
      clear hK K
      refine no_ (some 15) ?_
      refine pu_ 6 (some 16) (tf_ 7 26) HT_ ?_
      refine pu_ 7 (some 17) (tf_ 8 26) HT_ ?_
      refine pu_ 8 (some 18) (tf_ 9 26) HT_ ?_
      refine pu_ 9 (some 19) (tf_ 10 26) HT_ ?_
      refine ta_ 10 (some 20) (tf_ 11 26) HT_ HW_ hHeld ?_
      refine pu_ 11 (some 21) (tf_ 12 26) HT_ ?_
      refine pu_ 12 (some 22) (tf_ 13 26) HT_ ?_
      refine pn_ 13 (some 23) (tf_ 14 26) HT_ ?_
      refine pn_ 14 (some 24) (tf_ 15 26) HT_ ?_
      refine pn_ 15 (some 25) (tf_ 16 26) HT_ ?_
      refine pn_ 16 (some 26) (tf_ 17 26) HT_ ?_
      refine pn_ 17 (some 27) (tf_ 18 26) HT_ ?_
      refine pn_ 18 (some 28) (tf_ 19 26) HT_ ?_
      refine pn_ 19 (some 29) (tf_ 20 26) HT_ ?_
      refine pn_ 20 (some 30) (tf_ 21 26) HT_ ?_
      refine pn_ 21 (some 31) (tf_ 22 26) HT_ ?_
      refine pn_ 22 (some 32) (tf_ 23 26) HT_ ?_
      refine pn_ 23 (some 33) (tf_ 24 26) HT_ ?_
      refine pu_ 24 (some 34) (tf_ 25 26) HT_ ?_
      refine pu_ 25 (some 35) (tf_ 26 26) HT_ ?_
      refine done_ (done_of HT_.out (by kernel_rfl)) ?_
      try go_wp2
      go_meet
      case rel => exact ⟨_, (false), el_, H', ⟨by first | omega | exact Nat.le_refl _⟩, ⟨pk_ BK175.out⟩, ⟨pk_ BK176.out⟩, ⟨pk_ BK177.out⟩, ⟨pb3_ HB.out GE175.out GE176.out GE177.out⟩⟩
    rw [if_pos c16] at H
    have c16b0 : decide (0 < a0_0) = true := decide_eq_true c16
    clear c16
    (first | rw [c16b0] | (simp only [i64_w, i32_w]; rw [c16b0]) | skip)
    obtain ⟨ji20, hji20⟩ : ∃ j_ : Int, (wrap64 ((l1_0.length : Int) - 1)) = j_ := ⟨_, rfl⟩
    replace H : (if 0 ≤ (ji20) then (if (ji20) < (l1_0.length : Int) then (spec_PassBox.j0 k (decide ((rd l1_0 (ji20)) > a0_0)) a0_0 l0_1 l0_2 a0_3 l1_0 l1_1) else (none)) else (none)) = some (r1, r2, r3) := by first | (rw [hji20] at H; exact H) | (simp only [hji20] at H ⊢; exact H)
    (try rw [hji20] at A7)
    (try rw [hji20] at A11)
    have hji20w : (IntKind.i64.wrap ((l1_0.length : Int) - 1)) = ji20 := (i64_w _).trans hji20
    by_cases c21 : 0 ≤ (ji20)
    rotate_left
    · rw [if_neg c21] at H
      exact absurd H (by simp)
    rw [if_pos c21] at H
    have c21b0 : decide (0 ≤ (ji20)) = true := decide_eq_true c21
    clear c21
    by_cases c22 : (ji20) < (l1_0.length : Int)
    rotate_left
    · rw [if_neg c22] at H
      exact absurd H (by simp)
    rw [if_pos c22] at H
    have c22b0 : decide ((ji20) < (l1_0.length : Int)) = true := decide_eq_true c22
    clear c22
    have H' := Aside0.mk H
    clear H
    try go_wp2
    have n0_ := Aside0.mk (blk_drew BK175.out)
    have n1_ := Aside0.mk (blk_drew BK176.out)
    have n2_ := Aside0.mk (blk_drew BK177.out)
    have n3_ := Aside0.mk (below_drew1 HB.out)
    clear BK175
    clear BK176
    clear BK177
    clear HB
    have BK175 := n0_
    have BK176 := n1_
    have BK177 := n2_
    have HB := n3_
    clear n0_ n1_ n2_ n3_
    have p180 : 0 ≤ ((ji20) : Int) := dt_
    have q180 : (ji20) < (l1_0.length : Int) := dt_
    obtain ⟨ad180, e180, hx180_0⟩ := Kd.at_int HR1_0.out (ji20) p180 q180
    have hw180_0 := hx180_0
    cases e180
    replace hx180_0 := (HB.out.cell (World.block_lt_of_cell? w _ hx180_0)).trans hx180_0
    replace p180 := eq_true p180
    replace q180 := eq_true q180
    refine start_ (n := 26) (S := fun w' => w'.cell? ⟨gb175, 0, none⟩ = some (.int .i64 a0_0) ∧ w'.cell? ⟨gb175, 1, none⟩ = some (.slice A0_1 l0_1.length c0_1) ∧ w'.cell? ⟨gb175, 2, none⟩ = some (.slice A0_2 l0_2.length c0_2) ∧ w'.cell? ⟨gb175, 3, none⟩ = some (.bool a0_3) ∧ w'.cell? ⟨gb176, 0, none⟩ = some (.slice (some ad180) l1_0.length c1_0) ∧ w'.cell? ⟨gb176, 1, none⟩ = some (.slice A1_1 l1_1.length c1_1) ∧ w'.cell? (ad180.add ((ji20)).toNat) = some (.int .i64 (rd l1_0 (ji20)))) (ds := []) #[false, false, false, false, false, false, false, false, false, false, false, false, false, false, false, false, false, false, false, false, false, false, false, false, false, false] (by kernel_rfl) rfl rfl ⟨(blk_cell BK175.out 0).trans rfl, (blk_cell BK175.out 1).trans rfl, (blk_cell BK175.out 2).trans rfl, (blk_cell BK175.out 3).trans rfl, (blk_cell BK176.out 0).trans rfl, (blk_cell BK176.out 1).trans rfl, ((HB.out.cell (World.block_lt_of_cell? w _ hw180_0)).trans hw180_0)⟩ (fun hHeld => ?_); refine with_tabW spec_PassBox.tab1 spec_PassBox.bits1 (fun HT_ HW_ => ?_)
    generalize w6.drew = w23 at BK175 BK176 BK177 HB hx180_0 hHeld ⊢
    refine ta_ 0 (some 10) (tf_ 1 26) HT_ HW_ hHeld ?_
    refine on_ 1 (some 11) (tf_ 2 26) HT_ (fun K hK => ?_)
    refine goes_ Try.func51 (by kernel_rfl) rfl #[.agg #[.int .i64 a0_0, .slice A0_1 l0_1.length c0_1, .slice A0_2 l0_2.length c0_2, .bool a0_3]] (by rfl) rfl rfl mp_ ?_
    with_reducible refine (spec_IsBox.calls k a0_0 _ _ l0_1 _ _ l0_2 a0_3 true _ ?side1 ?side2 ?side3 ?side4 A7.out).mono ?_
    (case side1 => exact pc_ (Kd.C_below HR0_1.out HB.out))
    (case side2 => exact HC0_1.out)
    (case side3 => exact pc_ (Kd.C_below HR0_2.out HB.out))
    (case side4 => exact HC0_2.out)
    rintro e w24 ⟨rfl, hb⟩
    refine ⟨_, rfl, ?_⟩
    have n0_ := Aside0.mk (bb_ BK175.out hb)
    have n1_ := Aside0.mk (bb_ BK176.out hb)
    have n2_ := Aside0.mk (bb_ BK177.out hb)
    have n3_ := Aside0.mk (below_step (pb3_ HB.out GE175.out GE176.out GE177.out) hb)
    clear BK175
    clear BK176
    clear BK177
    clear HB
    have BK175 := n0_
    have BK176 := n1_
    have BK177 := n2_
    have HB := n3_
    clear n0_ n1_ n2_ n3_
    (try clear hb)
    (try clear hb2)
    (try clear hk)
    (try clear hi)
    refine hK.out _ _ ⟨(blk_cell BK175.out 0).trans rfl, (blk_cell BK175.out 1).trans rfl, (blk_cell BK175.out 2).trans rfl, (blk_cell BK175.out 3).trans rfl, (blk_cell BK176.out 0).trans rfl, (blk_cell BK176.out 1).trans rfl, ((HB.out.cell (World.block_lt_of_cell? w _ hw180_0)).trans hw180_0)⟩ (fun hHeld => ?_)
    clear hK K
    refine no_ (some 11) ?_
    refine pu_ 2 (some 12) (tf_ 3 26) HT_ ?_
    refine pu_ 3 (some 13) (tf_ 4 26) HT_ ?_
    refine ta_ 4 (some 14) (tf_ 5 26) HT_ HW_ hHeld ?_
    refine on_ 5 (some 15) (tf_ 6 26) HT_ (fun K hK => ?_)
    refine goes_ Try.func68 (by kernel_rfl) rfl #[.agg #[.slice (some ad180) l1_0.length c1_0, .slice A1_1 l1_1.length c1_1]] (by rfl) rfl rfl mp_ ?_
    with_reducible refine (spec_IsHello.calls k _ _ l1_0 _ _ l1_1 true _ ?side1 ?side2 ?side3 ?side4 A11.out).mono ?_
    (case side1 => exact pc_ (Kd.C_below HR1_0.out HB.out))
    (case side2 => exact HC1_0.out)
    (case side3 => exact pc_ (Kd.C_below HR1_1.out HB.out))
    (case side4 => exact HC1_1.out)
    rintro e w25 ⟨rfl, hb⟩
    refine ⟨_, rfl, ?_⟩
    have n0_ := Aside0.mk (bb_ BK175.out hb)
    have n1_ := Aside0.mk (bb_ BK176.out hb)
    have n2_ := Aside0.mk (bb_ BK177.out hb)
    have n3_ := Aside0.mk (below_step (pb3_ HB.out GE175.out GE176.out GE177.out) hb)
    clear BK175
    clear BK176
    clear BK177
    clear HB
    have BK175 := n0_
    have BK176 := n1_
    have BK177 := n2_
    have HB := n3_
    clear n0_ n1_ n2_ n3_
    (try clear hb)
    (try clear hb2)
    (try clear hk)
    (try clear hi)
    refine hK.out _ _ ⟨(blk_cell BK175.out 0).trans rfl, (blk_cell BK175.out 1).trans rfl, (blk_cell BK175.out 2).trans rfl, (blk_cell BK175.out 3).trans rfl, (blk_cell BK176.out 0).trans rfl, (blk_cell BK176.out 1).trans rfl, ((HB.out.cell (World.block_lt_of_cell? w _ hw180_0)).trans hw180_0)⟩ (fun hHeld => ?_)
    clear hK K
    refine no_ (some 15) ?_
    refine pu_ 6 (some 16) (tf_ 7 26) HT_ ?_
    refine pu_ 7 (some 17) (tf_ 8 26) HT_ ?_
    refine pu_ 8 (some 18) (tf_ 9 26) HT_ ?_
    refine pu_ 9 (some 19) (tf_ 10 26) HT_ ?_
    refine ta_ 10 (some 20) (tf_ 11 26) HT_ HW_ hHeld ?_
    refine pu_ 11 (some 21) (tf_ 12 26) HT_ ?_
    refine pu_ 12 (some 22) (tf_ 13 26) HT_ ?_
    refine pu_ 13 (some 23) (tf_ 14 26) HT_ ?_
    refine pu_ 15 (some 25) #[true, true, true, true, true, true, true, true, true, true, true, true, true, true, false, true, false, false, false, false, false, false, false, false, false, false] HT_ ?_
    refine pu_ 21 (some 31) #[true, true, true, true, true, true, true, true, true, true, true, true, true, true, false, true, false, false, false, false, false, true, false, false, false, false] HT_ ?_
    refine ta_ 14 (some 24) #[true, true, true, true, true, true, true, true, true, true, true, true, true, true, true, true, false, false, false, false, false, true, false, false, false, false] HT_ HW_ hHeld ?_
    refine ta_ 16 (some 26) #[true, true, true, true, true, true, true, true, true, true, true, true, true, true, true, true, true, false, false, false, false, true, false, false, false, false] HT_ HW_ hHeld ?_
    refine pu_ 17 (some 27) #[true, true, true, true, true, true, true, true, true, true, true, true, true, true, true, true, true, true, false, false, false, true, false, false, false, false] HT_ ?_
    refine pu_ 18 (some 28) #[true, true, true, true, true, true, true, true, true, true, true, true, true, true, true, true, true, true, true, false, false, true, false, false, false, false] HT_ ?_
    refine pu_ 19 (some 29) #[true, true, true, true, true, true, true, true, true, true, true, true, true, true, true, true, true, true, true, true, false, true, false, false, false, false] HT_ ?_
    refine ta_ 20 (some 30) (tf_ 22 26) HT_ HW_ hHeld ?_
    refine ta_ 22 (some 32) (tf_ 23 26) HT_ HW_ hHeld ?_
    refine pu_ 23 (some 33) (tf_ 24 26) HT_ ?_
    refine pu_ 24 (some 34) (tf_ 25 26) HT_ ?_
    refine pu_ 25 (some 35) (tf_ 26 26) HT_ ?_
    refine done_ (done_of HT_.out (by kernel_rfl)) ?_
    try go_wp2
    go_meet
    case rel => exact ⟨_, (decide ((rd l1_0 (ji20)) > a0_0)), (by first | rfl | (simp; done) | (simp only [← hji20] <;> (first | rfl | simp)) | (simp [*]; done)), H', ⟨by first | omega | exact Nat.le_refl _⟩, ⟨pk_ BK175.out⟩, ⟨pk_ BK176.out⟩, ⟨pk_ BK177.out⟩, ⟨pb3_ HB.out GE175.out GE176.out GE177.out⟩⟩
  clear HC3
  try clear c1
  try clear p1
  try clear q1
  try clear hx1
  try clear c2
  try clear p2
  try clear c5
  try clear c6
  try clear p6
  try clear c12
  try clear c16
  try clear c16b0
  try clear p18
  try clear q18
  try clear hx18
  try clear c21
  try clear c21b0
  try clear c22
  try clear c22b0
  try clear hx180_0
  try clear p180
  try clear q180
  obtain ⟨kq, x35_2, rfl, HA, HJ2, BK175, BK176, BK177, HB⟩ := hcut
  rcases kq with _ | kj2
  · exact absurd HA.out (by simp [spec_PassBox.j0])
  have H := HA.out
  clear HA
  simp only [spec_PassBox.j0] at H
  by_cases c26 : x35_2 = true
  · subst c26
    rw [if_pos rfl] at H
    simp only [Option.some.injEq, Prod.mk.injEq] at H
    obtain ⟨rfl, rfl, rfl⟩ := H
    have hnb27 := NB177_175.out
    have hnc27 := NB175_177.out
    have hnb28 := NB177_176.out
    have hnc28 := NB176_177.out
    obtain ⟨hcz29_0, hcz29_1, hfz29_0, hfz29_1⟩ := bc2_ BK177.out
    go_wp2
    refine bodyPost_ret (results_ct rfl _ _ gb177 63 #[.slice none 0 0, .slice none 0 0] (0, 0) _ rfl (pp_ BK177.out) Try.underlying63 rfl (by kernel_rfl)) rfl ?_
    exact ⟨_, _, er_, by first | exact Kd.R_nil _ _ _ _ _ | exact Kd.N_nil _ _ _ _ _ | exact Kd.V_nil _ _ _ _ _ | exact Kd.Q_nil _ _ _ _ _ | exact Kd.S_nil _ _ _ _ _, by first | exact Kd.S_nil _ _ _ _ _ | exact Kd.N_nil _ _ _ _ _ | exact Kd.V_nil _ _ _ _ _ | exact Kd.Q_nil _ _ _ _ _ | exact Kd.R_nil _ _ _ _ _, pb3_ HB.out GE175.out GE176.out GE177.out⟩
  replace c26 := Bool.eq_false_iff.mpr c26
  subst c26
  rw [if_neg (show ¬ (false = true) by decide)] at H
  obtain ⟨y181, hy181⟩ : ∃ y_ : List Int, y_ = (([] : List Int)) := ⟨_, rfl⟩
  replace H : (if y181.length + l1_0.length < 17592186044416 then (spec_PassBox.l0 kj2 0 a0_0 l0_1 l0_2 a0_3 l1_0 l1_1 (y181 ++ l1_0) ([] : List (S69))) else (none)) = some (r1, r2, r3) := by first | (rw [hy181]; with_reducible exact H) | (have H2_ := (Option.bind_some _ _).symm.trans H; rw [hy181]; with_reducible exact H2_) | (have H2_ := (Option.bind_some _ _).symm.trans H; with_reducible exact H2_) | with_reducible exact H | (rw [hy181]; exact H) | exact H
  have Ny181 := Aside0.mk hy181
  clear hy181
  by_cases c30 : y181.length + l1_0.length < 17592186044416
  rotate_left
  · rw [if_neg c30] at H
    exact absurd H (by simp)
  rw [if_pos c30] at H
  have LMc30 := Aside0.mk c30
  clear c30
  obtain ⟨y184, hy184⟩ : ∃ y_ : List Int, y_ = (y181 ++ l1_0) := ⟨_, rfl⟩
  replace H : (spec_PassBox.l0 kj2 0 a0_0 l0_1 l0_2 a0_3 l1_0 l1_1 y184 ([] : List (S69))) = some (r1, r2, r3) := by first | (rw [hy184]; with_reducible exact H) | (have H2_ := (Option.bind_some _ _).symm.trans H; rw [hy184]; with_reducible exact H2_) | (have H2_ := (Option.bind_some _ _).symm.trans H; with_reducible exact H2_) | with_reducible exact H | (rw [hy184]; exact H) | exact H
  have Ny184 := Aside0.mk hy184
  clear hy184
  have H' := Aside0.mk H
  clear H
  go_wp2_with (first | ((with_reducible refine gate_dst (N := 37) rfl ?_); (try (refine gate_guard (by rfl) ?_; dsimp only)); refine Kd.R_lit (Kd.int .i64) _ 3 ?hg (N := 37) ?hd (xs := ([] : List Int)) (inner := []) (ok := fun _ => True) (okp := fun _ => True) ?hr ?hp (fun _ hk => hk) trivial (Below.refl _ _) (Nat.le_refl _) (by simp) ?_; (case hd => rfl); (case hg => rfl); (case hr => first | (go_simp; done) | (go_simp; rfl)); (case hp => exact (Reps.none _ _)); intro v182 w31 ho32 hb hg_ hnew_; clear hg_ hnew_; (first | rw [← Ny181.out] at ho32 | (simp only [Int.reduceToNat] at ho32; rw [← Ny181.out] at ho32)); have n0_ := Aside0.mk (Kd.R_lower ho32 (below_size (pb3_ HB.out GE175.out GE176.out GE177.out))); have n1_ := Aside0.mk (bb_ BK175.out hb); have n2_ := Aside0.mk (bb_ BK176.out hb); have n3_ := Aside0.mk (bb_ BK177.out hb); have n4_ := Aside0.mk (below_step (pb3_ HB.out GE175.out GE176.out GE177.out) hb); clear BK175; clear BK176; clear BK177; clear HB; have HO183 := n0_; have BK175 := n1_; have BK176 := n2_; have BK177 := n3_; have HB := n4_; clear n0_ n1_ n2_ n3_ n4_; clear hb ho32; have hnb33 := NB176_175.out; have hnc33 := NB175_176.out; have hnb34 := NB176_177.out; have hnc34 := NB177_176.out; have hcz35_0 : w31.cell? ⟨gb176, 0, none⟩ = some (.slice A1_0 l1_0.length c1_0) := (blk_cell BK176.out 0).trans rfl; have hcz35_1 : w31.cell? ⟨gb176, 1, none⟩ = some (.slice A1_1 l1_1.length c1_1) := (blk_cell BK176.out 1).trans rfl; have hfz35_0 := blk_frozen BK176.out 0; have hfz35_1 := blk_frozen BK176.out 1) | ((with_reducible refine gate_builtin (b := .append) (xs := #[.tmp 37, .tmp 39]) rfl ?_); (try (refine gate_guard (by rfl) ?_; dsimp only)); at_builtin; refine Kd.R_append_rows (Kd.int .i64) (w0 := w) w.heap.size rfl (.tmp 37) (.tmp 39) 23 3 (.int .i64 0) 8 rfl Try.underlying23 info3 rfl (by decide) (by omega) v182 y181 l1_0 _ _ _ (fun _ => True) (fun _ => False) rfl rfl ?aO ?aR (fun _ _ h => h) (fun _ h => h.elim) ?aF ?aB ?aS ?aL ?_; (case aR => exact pc_ (Kd.C_below HR1_0.out HB.out)); (case aB => exact (pb3_ HB.out GE175.out GE176.out GE177.out)); (case aF => exact (fun _ _ => trivial)); (case aO => exact (pr_ HO183.out)); (case aS => exact (below_size (pb3_ HB.out GE175.out GE176.out GE177.out))); (case aL => have := LMc30.out; omega); intro v185 w36 ho hb hg hat; rw [← Ny184.out] at ho; have n0_ := Aside0.mk (blk_grown (g := gb175) (o := .cells #[.int .i64 a0_0, .slice A0_1 l0_1.length c0_1, .slice A0_2 l0_2.length c0_2, .bool a0_3] 50 (0, 0)) (pk_ BK175.out) hg (Kd.R_ne HO183.out BK175.out (by decide))); have n1_ := Aside0.mk (blk_grown (g := gb176) (o := .cells #[.slice A1_0 l1_0.length c1_0, .slice A1_1 l1_1.length c1_1] 63 (0, 0)) (pk_ BK176.out) hg (Kd.R_ne HO183.out BK176.out (by decide))); have n2_ := Aside0.mk (blk_grown (g := gb177) (o := .cells #[.slice none 0 0, .slice none 0 0] 63 (0, 0)) (pk_ BK177.out) hg (Kd.R_ne HO183.out BK177.out (by decide))); have n3_ := Aside0.mk (hb); have n4_ := Aside0.mk (ho); clear BK175; clear BK176; clear BK177; clear HB; clear HO183; have BK175 := n0_; have BK176 := n1_; have BK177 := n2_; have HB := n3_; have HO186 := n4_; clear n0_ n1_ n2_ n3_ n4_; clear ho hb hg hat; obtain ⟨Ao37, co37, eo37⟩ := Kd.R_slice HO186.out; subst eo37) | ((with_reducible refine gate_dst (N := 6) rfl ?_); (try (refine gate_guard (by rfl) ?_; dsimp only)); refine box_event ?hg (N := 6) ?hd (cs := #[.slice none 0 0, .slice none 0 0]) (t := 63) ?hr ?_; (case hd => rfl); (case hg => rfl); (case hr => first | (go_simp; done) | (go_simp; rfl)); intro gb187 hg w38 hbox hb; have n0_ := Aside0.mk (Kd.R_below (pr_ HO186.out) hb); have n1_ := Aside0.mk (bb_ BK175.out hb); have n2_ := Aside0.mk (bb_ BK176.out hb); have n3_ := Aside0.mk (bb_ BK177.out hb); have n4_ := Aside0.mk (below_step (pb3_ HB.out GE175.out GE176.out GE177.out) hb); have n5_ := Aside0.mk (hbox); have n6_ := Aside0.mk ((by rw [hg]; exact (below_size (pb3_ HB.out GE175.out GE176.out GE177.out)) : w.heap.size ≤ gb187)); have n7_ := Aside0.mk ((by rw [hg]; exact (below_size (pb3_ HB.out GE175.out GE176.out GE177.out)) : w.heap.size ≤ gb187)); have n8_ := Aside0.mk ((by rw [hg]; exact Nat.ne_of_lt (blk_lt (pk_ BK175.out)) : gb175 ≠ gb187)); have n9_ := Aside0.mk ((by rw [hg]; exact Nat.ne_of_gt (blk_lt (pk_ BK175.out)) : gb187 ≠ gb175)); have n10_ := Aside0.mk ((by rw [hg]; exact Nat.ne_of_lt (blk_lt (pk_ BK176.out)) : gb176 ≠ gb187)); have n11_ := Aside0.mk ((by rw [hg]; exact Nat.ne_of_gt (blk_lt (pk_ BK176.out)) : gb187 ≠ gb176)); have n12_ := Aside0.mk ((by rw [hg]; exact Nat.ne_of_lt (blk_lt (pk_ BK177.out)) : gb177 ≠ gb187)); have n13_ := Aside0.mk ((by rw [hg]; exact Nat.ne_of_gt (blk_lt (pk_ BK177.out)) : gb187 ≠ gb177)); clear HO186; clear BK175; clear BK176; clear BK177; clear HB; have HO186 := n0_; have BK175 := n1_; have BK176 := n2_; have BK177 := n3_; have HB := n4_; have BK187 := n5_; have GW187 := n6_; have GE187 := n7_; have NB175_187 := n8_; have NB187_175 := n9_; have NB176_187 := n10_; have NB187_176 := n11_; have NB177_187 := n12_; have NB187_177 := n13_; clear n0_ n1_ n2_ n3_ n4_ n5_ n6_ n7_ n8_ n9_ n10_ n11_ n12_ n13_; clear hb hbox hg; have hnb39 := NB187_175.out; have hnc39 := NB175_187.out; have hnb40 := NB187_176.out; have hnc40 := NB176_187.out; have hnb41 := NB187_177.out; have hnc41 := NB177_187.out; have hcz42_0 : w38.cell? ⟨gb187, 0, none⟩ = some (.slice none 0 0) := (blk_cell BK187.out 0).trans rfl; have hcz42_1 : w38.cell? ⟨gb187, 1, none⟩ = some (.slice none 0 0) := (blk_cell BK187.out 1).trans rfl; have hfz42_0 := blk_frozen BK187.out 0; have hfz42_1 := blk_frozen BK187.out 1))
  (try simp only [Act.put, List.setIfInBounds_toArray, List.set_cons_zero, List.set_cons_succ])
  go_loopg [7] kj2 (fun kq v7 w' => ∃ (x7_2 : Int) (x188001_2 : List (S69)) (u188001 : Value), v7 = .int .i64 x7_2 ∧ Aside0 (spec_PassBox.l0 kq x7_2 a0_0 l0_1 l0_2 a0_3 l1_0 l1_1 y184 x188001_2 = some (r1, r2, r3)) ∧ Aside0 (kq ≤ kj2) ∧ Aside0 (Kd.R (Kd.int .i64) 3 w' w.heap.size (fun _ => True) (.slice Ao37 y184.length co37) y184) ∧ Aside0 (Kd.S k69 69 w' w.heap.size (fun k_ => some k_ ≠ ((.slice Ao37 y184.length co37) : Value).ownBlock) u188001 x188001_2) ∧ Aside0 (w'.heap[gb175]? = some (.cells #[.int .i64 a0_0, (.slice A0_1 l0_1.length c0_1), (.slice A0_2 l0_2.length c0_2), .bool a0_3] 50 (0, 0))) ∧ Aside0 (w'.heap[gb176]? = some (.cells #[(.slice A1_0 l1_0.length c1_0), (.slice A1_1 l1_1.length c1_1)] 63 (0, 0))) ∧ Aside0 (w'.heap[gb177]? = some (.cells #[(.slice none 0 0), (.slice none 0 0)] 63 (0, 0))) ∧ Aside0 (w'.heap[gb187]? = some (.cells #[(.slice Ao37 y184.length co37), u188001] 63 (0, 0))) ∧ Aside0 (Below w.heap.size w w'))
  case atStart => exact ⟨(0), (([] : List (S69))), (.slice none 0 0), el_, H', ⟨Nat.le_refl _⟩, ⟨pr_ (Kd.R_mono (rf2_ HO186.out BK187.out) (fun _ hk => trivial))⟩, ⟨by first | exact Kd.S_nil _ _ _ _ _ | exact Kd.N_nil _ _ _ _ _ | exact Kd.V_nil _ _ _ _ _ | exact Kd.Q_nil _ _ _ _ _ | exact Kd.R_nil _ _ _ _ _⟩, ⟨pp_ BK175.out⟩, ⟨pp_ BK176.out⟩, ⟨pp_ BK177.out⟩, ⟨pp_ BK187.out⟩, ⟨pb4_ HB.out GE175.out GE176.out GE177.out GE187.out⟩⟩
  clear H'
  try clear c1
  try clear p1
  try clear q1
  try clear hx1
  try clear c2
  try clear p2
  try clear c3
  try clear c4
  try clear c5
  try clear c6
  try clear p6
  try clear c12
  try clear c16
  try clear c16b0
  try clear p18
  try clear q18
  try clear hx18
  try clear c21
  try clear c21b0
  try clear c22
  try clear c22b0
  try clear c26
  try clear c27
  try clear c28
  try clear c30
  try clear c33
  try clear c34
  try clear c39
  try clear c40
  try clear c41
  try clear hcz29_0
  try clear hcz29_1
  try clear hcz35_0
  try clear hcz35_1
  try clear hcz42_0
  try clear hcz42_1
  try clear hfz29_0
  try clear hfz29_1
  try clear hfz35_0
  try clear hfz35_1
  try clear hfz42_0
  try clear hfz42_1
  try clear hx180_0
  try clear p1
  try clear p18
  try clear p180
  try clear p2
  try clear p6
  try clear q1
  try clear q18
  try clear q180
  obtain ⟨x7_2, x188001_2, u188001, rfl, HA, HK2, HO_188000, HO_188001, BK175, BK176, BK177, BK187, HB⟩ := hrel
  rcases gk with _ | k2
  · exact absurd HA.out (by simp [spec_PassBox.l0])
  have H := HA.out
  clear HA
  simp only [spec_PassBox.l0] at H
  by_cases c43 : x7_2 < (l1_1.length : Int)
  rotate_left
  · rw [if_neg c43] at H
    have c43b0 : decide (x7_2 < (l1_1.length : Int)) = false := decide_eq_false c43
    clear c43
    simp only [Option.some.injEq, Prod.mk.injEq] at H
    obtain ⟨rfl, rfl, rfl⟩ := H
    have hnb44 := NB176_175.out
    have hnc44 := NB175_176.out
    have hnb45 := NB176_177.out
    have hnc45 := NB177_176.out
    have hnb46 := NB176_187.out
    have hnc46 := NB187_176.out
    obtain ⟨hcz47_0, hcz47_1, hfz47_0, hfz47_1⟩ := bc2_ BK176.out
    have hnb48 := NB187_175.out
    have hnc48 := NB175_187.out
    have hnb49 := NB187_177.out
    have hnc49 := NB177_187.out
    obtain ⟨hcz50_0, hcz50_1, hfz50_0, hfz50_1⟩ := bc2_ BK187.out
    have hnb51 := NB177_175.out
    have hnc51 := NB175_177.out
    obtain ⟨hcz52_0, hcz52_1, hfz52_0, hfz52_1⟩ := bc2_ BK177.out
    obtain ⟨Ao53, co53, eo53⟩ := Kd.S_slice HO_188001.out
    subst eo53
    go_wp2
    refine bodyPost_ret (results_ct rfl _ _ gb177 63 #[.slice Ao37 y184.length co37, .slice Ao53 x188001_2.length co53] (0, 0) _ rfl (pp_ BK177.out) Try.underlying63 rfl (by kernel_rfl)) rfl ?_
    exact ⟨_, _, er_, pr_ (Kd.R_mono (rf2_ HO_188000.out BK177.out) (fun _ hk => trivial)), ps_ (Kd.S_mono (Kd.S_far (p := ⟨gb177, 1, none⟩) (Kd.S_far (p := ⟨gb177, 0, none⟩) (Kd.S_types HO_188001.out BK177.out (by decide)) (fun _ hk => hk.2) (.slice Ao37 y184.length co37)) (fun _ hk => hk.2) (.slice Ao53 x188001_2.length co53)) (fun _ hk => hk.1)), pb4_ HB.out GE175.out GE176.out GE177.out GE187.out⟩
  rw [if_pos c43] at H
  have c43b0 : decide (x7_2 < (l1_1.length : Int)) = true := decide_eq_true c43
  clear c43
  by_cases c54 : 0 ≤ x7_2
  rotate_left
  · rw [if_neg c54] at H
    exact absurd H (by simp)
  rw [if_pos c54] at H
  have c54b0 : decide (0 ≤ x7_2) = true := decide_eq_true c54
  clear c54
  replace H := Option.bind_eq_some_iff.mp H
  obtain ⟨t189, A550, H⟩ := H
  (try dsimp only at H)
  have A55 := Aside0.mk A550
  clear A550
  have HC56 := Aside0.mk H
  clear H
  have hnb57 := NB176_175.out
  have hnc57 := NB175_176.out
  have hnb58 := NB176_177.out
  have hnc58 := NB177_176.out
  have hnb59 := NB176_187.out
  have hnc59 := NB187_176.out
  obtain ⟨hcz60_0, hcz60_1, hfz60_0, hfz60_1⟩ := bc2_ BK176.out
  have p188 : 0 ≤ (x7_2 : Int) := dt_
  have q188 : x7_2 < (l1_1.length : Int) := dt_
  obtain ⟨ad188, A188_1, c188_1, e188, hx188_0, hx188_1, hl188_1, hi188_1⟩ := at_T69 HR1_1.out x7_2 p188 q188
  cases e188
  replace hx188_0 := (HB.out.cell (World.block_lt_of_cell? w _ hx188_0)).trans hx188_0
  replace hx188_1 := (HB.out.cell (World.block_lt_of_cell? w _ hx188_1)).trans hx188_1
  have HR188_1 := Aside0.mk hi188_1
  have HC188_1 := Aside0.mk hl188_1
  clear hi188_1 hl188_1
  replace p188 := eq_true p188
  replace q188 := eq_true q188
  have hnb61 := NB175_177.out
  have hnc61 := NB177_175.out
  have hnb62 := NB175_187.out
  have hnc62 := NB187_175.out
  obtain ⟨hcz63_0, hcz63_1, hcz63_2, hcz63_3, hfz63_0, hfz63_1, hfz63_2, hfz63_3⟩ := bc4_ BK175.out
  go_upto_region 9 with (first | ((with_reducible refine gate_callee (f := 54) rfl ?_); refine goesL_ (some 58) rfl rfl Try.func54 (by kernel_rfl) rfl #[.slice A0_2 l0_2.length c0_2, .int .i64 ((rd_T69 l1_1 x7_2).f0)] rfl mp_ ?_; (with_reducible refine (spec_l9Has.calls k2 _ _ l0_2 ((rd_T69 l1_1 x7_2).f0) t189 _ ?side1 ?side2 A55.out).mono ?_); (case side1 => exact pc_ (Kd.C_below HR0_2.out HB.out)); (case side2 => exact HC0_2.out); rintro e w' ⟨rfl, ⟨nd, rfl⟩⟩; refine ⟨_, rfl, ?_⟩))
  (try simp only [Act.put, List.setIfInBounds_toArray, List.set_cons_zero, List.set_cons_succ])
  go_cut [75] (fun v75 wc => ∃ (kq : Nat) (x75_55 : Bool), v75 = .bool x75_55 ∧ Aside0 (spec_PassBox.j2 kq x7_2 ((rd_T69 l1_1 x7_2).f0) t189 x75_55 a0_0 l0_1 l0_2 a0_3 l1_0 l1_1 y184 x188001_2 = some (r1, r2, r3)) ∧ Aside0 (kq ≤ k2) ∧ Aside0 (Kd.R (Kd.int .i64) 3 wc w.heap.size (fun _ => True) (.slice Ao37 y184.length co37) y184) ∧ Aside0 (Kd.S k69 69 wc w.heap.size (fun k_ => some k_ ≠ ((.slice Ao37 y184.length co37) : Value).ownBlock) u188001 x188001_2) ∧ Aside0 (wc.heap[gb175]? = some (.cells #[.int .i64 a0_0, (.slice A0_1 l0_1.length c0_1), (.slice A0_2 l0_2.length c0_2), .bool a0_3] 50 (0, 0))) ∧ Aside0 (wc.heap[gb176]? = some (.cells #[(.slice A1_0 l1_0.length c1_0), (.slice (some ad188) l1_1.length c1_1)] 63 (0, 0))) ∧ Aside0 (wc.heap[gb177]? = some (.cells #[(.slice none 0 0), (.slice none 0 0)] 63 (0, 0))) ∧ Aside0 (wc.heap[gb187]? = some (.cells #[(.slice Ao37 y184.length co37), u188001] 63 (0, 0))) ∧ Aside0 (Below w.heap.size w wc))
  case first =>
    have H := HC56.out
    clear HC56
    replace H := Option.bind_eq_some_iff.mp H
    obtain ⟨t190, A640, H⟩ := H
    (try dsimp only at H)
    have A64 := Aside0.mk A640
    clear A640
    by_cases c65 : t190 = true
    · subst c65
      rw [if_pos rfl] at H
      have H' := Aside0.mk H
      clear H
      have hnb66 := NB175_176.out
      have hnc66 := NB176_175.out
      have hnb67 := NB175_177.out
      have hnc67 := NB177_175.out
      have hnb68 := NB175_187.out
      have hnc68 := NB187_175.out
      obtain ⟨hcz69_0, hcz69_1, hcz69_2, hcz69_3, hfz69_0, hfz69_1, hfz69_2, hfz69_3⟩ := bc4_ BK175.out
      go_wp2_with (first | ((with_reducible refine gate_callee (f := 54) rfl ?_); refine goesL_ (some 62) rfl rfl Try.func54 (by kernel_rfl) rfl #[.slice A0_1 l0_1.length c0_1, .int .i64 ((rd_T69 l1_1 x7_2).f0)] rfl mp_ ?_; (with_reducible refine (spec_l9Has.calls k2 _ _ l0_1 ((rd_T69 l1_1 x7_2).f0) true _ ?side1 ?side2 A64.out).mono ?_); (case side1 => exact pc_ (Kd.C_below HR0_1.out HB.out)); (case side2 => exact HC0_1.out); rintro e w' ⟨rfl, ⟨nd, rfl⟩⟩; refine ⟨_, rfl, ?_⟩))
      go_meet
      case rel => exact ⟨_, (true), el_, H', ⟨by have := HJ2.out; have := HK2.out; first | omega | exact Nat.le_refl _⟩, ⟨pr_ HO_188000.out⟩, ⟨ps_ HO_188001.out⟩, ⟨pk_ BK175.out⟩, ⟨pk_ BK176.out⟩, ⟨pk_ BK177.out⟩, ⟨pk_ BK187.out⟩, ⟨pb4_ HB.out GE175.out GE176.out GE177.out GE187.out⟩⟩
    replace c65 := Bool.eq_false_iff.mpr c65
    subst c65
    rw [if_neg (show ¬ (false = true) by decide)] at H
    by_cases c70 : a0_3 = true
    rotate_left
    · replace c70 := Bool.eq_false_iff.mpr c70
      subst c70
      rw [if_neg (show ¬ (false = true) by decide)] at H
      have H' := Aside0.mk H
      clear H
      have hnb71 := NB175_176.out
      have hnc71 := NB176_175.out
      have hnb72 := NB175_177.out
      have hnc72 := NB177_175.out
      have hnb73 := NB175_187.out
      have hnc73 := NB187_175.out
      obtain ⟨hcz74_0, hcz74_1, hcz74_2, hcz74_3, hfz74_0, hfz74_1, hfz74_2, hfz74_3⟩ := bc4_ BK175.out
      go_wp2_with (first | ((with_reducible refine gate_callee (f := 54) rfl ?_); refine goesL_ (some 62) rfl rfl Try.func54 (by kernel_rfl) rfl #[.slice A0_1 l0_1.length c0_1, .int .i64 ((rd_T69 l1_1 x7_2).f0)] rfl mp_ ?_; (with_reducible refine (spec_l9Has.calls k2 _ _ l0_1 ((rd_T69 l1_1 x7_2).f0) false _ ?side1 ?side2 A64.out).mono ?_); (case side1 => exact pc_ (Kd.C_below HR0_1.out HB.out)); (case side2 => exact HC0_1.out); rintro e w' ⟨rfl, ⟨nd, rfl⟩⟩; refine ⟨_, rfl, ?_⟩))
      go_meet
      case rel => exact ⟨_, (false), el_, H', ⟨by have := HJ2.out; have := HK2.out; first | omega | exact Nat.le_refl _⟩, ⟨pr_ HO_188000.out⟩, ⟨ps_ HO_188001.out⟩, ⟨pk_ BK175.out⟩, ⟨pk_ BK176.out⟩, ⟨pk_ BK177.out⟩, ⟨pk_ BK187.out⟩, ⟨pb4_ HB.out GE175.out GE176.out GE177.out GE187.out⟩⟩
    subst c70
    rw [if_pos rfl] at H
    by_cases c75 : t189 = true
    · subst c75
      rw [if_pos rfl] at H
      have H' := Aside0.mk H
      clear H
      have hnb76 := NB175_176.out
      have hnc76 := NB176_175.out
      have hnb77 := NB175_177.out
      have hnc77 := NB177_175.out
      have hnb78 := NB175_187.out
      have hnc78 := NB187_175.out
      obtain ⟨hcz79_0, hcz79_1, hcz79_2, hcz79_3, hfz79_0, hfz79_1, hfz79_2, hfz79_3⟩ := bc4_ BK175.out
      go_wp2_with (first | ((with_reducible refine gate_callee (f := 54) rfl ?_); refine goesL_ (some 62) rfl rfl Try.func54 (by kernel_rfl) rfl #[.slice A0_1 l0_1.length c0_1, .int .i64 ((rd_T69 l1_1 x7_2).f0)] rfl mp_ ?_; (with_reducible refine (spec_l9Has.calls k2 _ _ l0_1 ((rd_T69 l1_1 x7_2).f0) false _ ?side1 ?side2 A64.out).mono ?_); (case side1 => exact pc_ (Kd.C_below HR0_1.out HB.out)); (case side2 => exact HC0_1.out); rintro e w' ⟨rfl, ⟨nd, rfl⟩⟩; refine ⟨_, rfl, ?_⟩))
      go_meet
      case rel => exact ⟨_, (false), el_, H', ⟨by have := HJ2.out; have := HK2.out; first | omega | exact Nat.le_refl _⟩, ⟨pr_ HO_188000.out⟩, ⟨ps_ HO_188001.out⟩, ⟨pk_ BK175.out⟩, ⟨pk_ BK176.out⟩, ⟨pk_ BK177.out⟩, ⟨pk_ BK187.out⟩, ⟨pb4_ HB.out GE175.out GE176.out GE177.out GE187.out⟩⟩
    replace c75 := Bool.eq_false_iff.mpr c75
    subst c75
    rw [if_neg (show ¬ (false = true) by decide)] at H
    replace H := Option.bind_eq_some_iff.mp H
    obtain ⟨t191, A800, H⟩ := H
    (try dsimp only at H)
    have A80 := Aside0.mk A800
    clear A800
    have H' := Aside0.mk H
    clear H
    have hnb81 := NB175_176.out
    have hnc81 := NB176_175.out
    have hnb82 := NB175_177.out
    have hnc82 := NB177_175.out
    have hnb83 := NB175_187.out
    have hnc83 := NB187_175.out
    obtain ⟨hcz84_0, hcz84_1, hcz84_2, hcz84_3, hfz84_0, hfz84_1, hfz84_2, hfz84_3⟩ := bc4_ BK175.out
    go_wp2_with (first | ((with_reducible refine gate_callee (f := 54) rfl ?_); refine goesL_ (some 62) rfl rfl Try.func54 (by kernel_rfl) rfl #[.slice A0_1 l0_1.length c0_1, .int .i64 ((rd_T69 l1_1 x7_2).f0)] rfl mp_ ?_; (with_reducible refine (spec_l9Has.calls k2 _ _ l0_1 ((rd_T69 l1_1 x7_2).f0) false _ ?side1 ?side2 A64.out).mono ?_); (case side1 => exact pc_ (Kd.C_below HR0_1.out HB.out)); (case side2 => exact HC0_1.out); rintro e w' ⟨rfl, ⟨nd, rfl⟩⟩; refine ⟨_, rfl, ?_⟩) | (go_at_call 49; (with_reducible refine (spec_l1In.calls ((rd_T69 l1_1 x7_2).f0) 1 3 t191 _ A80.out).mono ?_); rintro e w' ⟨rfl, ⟨nd, rfl⟩⟩))
    go_meet
    case rel => exact ⟨_, (!t191), el_, H', ⟨by have := HJ2.out; have := HK2.out; first | omega | exact Nat.le_refl _⟩, ⟨pr_ HO_188000.out⟩, ⟨ps_ HO_188001.out⟩, ⟨pk_ BK175.out⟩, ⟨pk_ BK176.out⟩, ⟨pk_ BK177.out⟩, ⟨pk_ BK187.out⟩, ⟨pb4_ HB.out GE175.out GE176.out GE177.out GE187.out⟩⟩
  clear HC56
  try clear c1
  try clear p1
  try clear q1
  try clear hx1
  try clear c2
  try clear p2
  try clear c3
  try clear c4
  try clear c5
  try clear c6
  try clear p6
  try clear c7
  try clear c8
  try clear c12
  try clear c16
  try clear c16b0
  try clear c18
  try clear p18
  try clear q18
  try clear hx18
  try clear c21
  try clear c21b0
  try clear c22
  try clear c22b0
  try clear c26
  try clear c27
  try clear c28
  try clear c30
  try clear c33
  try clear c34
  try clear c39
  try clear c40
  try clear c41
  try clear c43
  try clear c43b0
  try clear c44
  try clear c45
  try clear c46
  try clear c48
  try clear c49
  try clear c51
  try clear c54
  try clear c54b0
  try clear c57
  try clear c58
  try clear c59
  try clear c61
  try clear c62
  try clear c65
  try clear c66
  try clear c67
  try clear c68
  try clear c70
  try clear c71
  try clear c72
  try clear c73
  try clear c75
  try clear c76
  try clear c77
  try clear c78
  try clear c81
  try clear c82
  try clear c83
  try clear hcz29_0
  try clear hcz29_1
  try clear hcz35_0
  try clear hcz35_1
  try clear hcz42_0
  try clear hcz42_1
  try clear hcz47_0
  try clear hcz47_1
  try clear hcz50_0
  try clear hcz50_1
  try clear hcz52_0
  try clear hcz52_1
  try clear hcz60_0
  try clear hcz60_1
  try clear hcz63_0
  try clear hcz63_1
  try clear hcz63_2
  try clear hcz63_3
  try clear hcz69_0
  try clear hcz69_1
  try clear hcz69_2
  try clear hcz69_3
  try clear hcz74_0
  try clear hcz74_1
  try clear hcz74_2
  try clear hcz74_3
  try clear hcz79_0
  try clear hcz79_1
  try clear hcz79_2
  try clear hcz79_3
  try clear hcz84_0
  try clear hcz84_1
  try clear hcz84_2
  try clear hcz84_3
  try clear hfz29_0
  try clear hfz29_1
  try clear hfz35_0
  try clear hfz35_1
  try clear hfz42_0
  try clear hfz42_1
  try clear hfz47_0
  try clear hfz47_1
  try clear hfz50_0
  try clear hfz50_1
  try clear hfz52_0
  try clear hfz52_1
  try clear hfz60_0
  try clear hfz60_1
  try clear hfz63_0
  try clear hfz63_1
  try clear hfz63_2
  try clear hfz63_3
  try clear hfz69_0
  try clear hfz69_1
  try clear hfz69_2
  try clear hfz69_3
  try clear hfz74_0
  try clear hfz74_1
  try clear hfz74_2
  try clear hfz74_3
  try clear hfz79_0
  try clear hfz79_1
  try clear hfz79_2
  try clear hfz79_3
  try clear hfz84_0
  try clear hfz84_1
  try clear hfz84_2
  try clear hfz84_3
  try clear hx180_0
  try clear hx188_0
  try clear hx188_1
  try clear p1
  try clear p18
  try clear p180
  try clear p188
  try clear p2
  try clear p6
  try clear q1
  try clear q18
  try clear q180
  try clear q188
  obtain ⟨kq, x75_55, rfl, HA, HJ55, HO_188000, HO_188001, BK175, BK176, BK177, BK187, HB⟩ := hcut
  rcases kq with _ | kj55
  · exact absurd HA.out (by simp [spec_PassBox.j2])
  have H := HA.out
  clear HA
  simp only [spec_PassBox.j2] at H
  by_cases c85 : x75_55 = true
  · subst c85
    rw [if_pos rfl] at H
    simp only [Option.some.injEq, Prod.mk.injEq] at H
    obtain ⟨rfl, rfl, rfl⟩ := H
    have hnb86 := NB177_175.out
    have hnc86 := NB175_177.out
    have hnb87 := NB177_176.out
    have hnc87 := NB176_177.out
    have hnb88 := NB177_187.out
    have hnc88 := NB187_177.out
    obtain ⟨hcz89_0, hcz89_1, hfz89_0, hfz89_1⟩ := bc2_ BK177.out
    go_wp2
    refine bodyPost_ret (results_ct rfl _ _ gb177 63 #[.slice none 0 0, .slice none 0 0] (0, 0) _ rfl (pp_ BK177.out) Try.underlying63 rfl (by kernel_rfl)) rfl ?_
    exact ⟨_, _, er_, by first | exact Kd.R_nil _ _ _ _ _ | exact Kd.N_nil _ _ _ _ _ | exact Kd.V_nil _ _ _ _ _ | exact Kd.Q_nil _ _ _ _ _ | exact Kd.S_nil _ _ _ _ _, by first | exact Kd.S_nil _ _ _ _ _ | exact Kd.N_nil _ _ _ _ _ | exact Kd.V_nil _ _ _ _ _ | exact Kd.Q_nil _ _ _ _ _ | exact Kd.R_nil _ _ _ _ _, pb4_ HB.out GE175.out GE176.out GE177.out GE187.out⟩
  replace c85 := Bool.eq_false_iff.mpr c85
  subst c85
  rw [if_neg (show ¬ (false = true) by decide)] at H
  by_cases c90 : t189 = true
  · subst c90
    rw [if_pos rfl] at H
    have H' := Aside0.mk H
    clear H
    go_wp2
    go_roundg kj55
    case measure => have := HJ2.out; have := HK2.out; have := HJ55.out; omega
    case rel => exact ⟨(wrap64 (x7_2 + 1)), (x188001_2), (u188001), el_, H', ⟨by have := HJ2.out; have := HK2.out; have := HJ55.out; omega⟩, ⟨pr_ HO_188000.out⟩, ⟨ps_ HO_188001.out⟩, ⟨pk_ BK175.out⟩, ⟨pk_ BK176.out⟩, ⟨pk_ BK177.out⟩, ⟨pk_ BK187.out⟩, ⟨pb4_ HB.out GE175.out GE176.out GE177.out GE187.out⟩⟩
  replace c90 := Bool.eq_false_iff.mpr c90
  subst c90
  rw [if_neg (show ¬ (false = true) by decide)] at H
  obtain ⟨y192, hy192⟩ : ∃ y_ : List Int, y_ = (([] : List Int)) := ⟨_, rfl⟩
  replace H : (if 0 ≤ x7_2 then (if x7_2 < (l1_1.length : Int) then (if y192.length + ((rd_T69 l1_1 x7_2).f1).length < 17592186044416 then (if x188001_2.length < 4398046511104 then (spec_PassBox.l0 kj55 (wrap64 (x7_2 + 1)) a0_0 l0_1 l0_2 a0_3 l1_0 l1_1 y184 (x188001_2 ++ [(⟨((rd_T69 l1_1 x7_2).f0), (y192 ++ ((rd_T69 l1_1 x7_2).f1))⟩ : S69)])) else (none)) else (none)) else (none)) else (none)) = some (r1, r2, r3) := by first | (rw [hy192]; with_reducible exact H) | (have H2_ := (Option.bind_some _ _).symm.trans H; rw [hy192]; with_reducible exact H2_) | (have H2_ := (Option.bind_some _ _).symm.trans H; with_reducible exact H2_) | with_reducible exact H | (rw [hy192]; exact H) | exact H
  have Ny192 := Aside0.mk hy192
  clear hy192
  by_cases c91 : 0 ≤ x7_2
  rotate_left
  · rw [if_neg c91] at H
    exact absurd H (by simp)
  rw [if_pos c91] at H
  have c91b0 : decide (0 ≤ x7_2) = true := decide_eq_true c91
  clear c91
  by_cases c92 : x7_2 < (l1_1.length : Int)
  rotate_left
  · rw [if_neg c92] at H
    exact absurd H (by simp)
  rw [if_pos c92] at H
  have c92b0 : decide (x7_2 < (l1_1.length : Int)) = true := decide_eq_true c92
  clear c92
  by_cases c93 : y192.length + ((rd_T69 l1_1 x7_2).f1).length < 17592186044416
  rotate_left
  · rw [if_neg c93] at H
    exact absurd H (by simp)
  rw [if_pos c93] at H
  have LMc93 := Aside0.mk c93
  clear c93
  obtain ⟨y196, hy196⟩ : ∃ y_ : List Int, y_ = (y192 ++ ((rd_T69 l1_1 x7_2).f1)) := ⟨_, rfl⟩
  replace H : (if x188001_2.length < 4398046511104 then (spec_PassBox.l0 kj55 (wrap64 (x7_2 + 1)) a0_0 l0_1 l0_2 a0_3 l1_0 l1_1 y184 (x188001_2 ++ [(⟨((rd_T69 l1_1 x7_2).f0), y196⟩ : S69)])) else (none)) = some (r1, r2, r3) := by first | (rw [hy196]; with_reducible exact H) | (have H2_ := (Option.bind_some _ _).symm.trans H; rw [hy196]; with_reducible exact H2_) | (have H2_ := (Option.bind_some _ _).symm.trans H; with_reducible exact H2_) | with_reducible exact H | (rw [hy196]; exact H) | exact H
  have Ny196 := Aside0.mk hy196
  clear hy196
  by_cases c94 : x188001_2.length < 4398046511104
  rotate_left
  · rw [if_neg c94] at H
    exact absurd H (by simp)
  rw [if_pos c94] at H
  have LMc94 := Aside0.mk c94
  clear c94
  obtain ⟨y199, hy199⟩ : ∃ y_ : List (S69), y_ = (x188001_2 ++ [(⟨((rd_T69 l1_1 x7_2).f0), y196⟩ : S69)]) := ⟨_, rfl⟩
  replace H : (spec_PassBox.l0 kj55 (wrap64 (x7_2 + 1)) a0_0 l0_1 l0_2 a0_3 l1_0 l1_1 y184 y199) = some (r1, r2, r3) := by first | (rw [hy199]; with_reducible exact H) | (have H2_ := (Option.bind_some _ _).symm.trans H; rw [hy199]; with_reducible exact H2_) | (have H2_ := (Option.bind_some _ _).symm.trans H; with_reducible exact H2_) | with_reducible exact H | (rw [hy199]; exact H) | exact H
  have Ny199 := Aside0.mk hy199
  clear hy199
  have H' := Aside0.mk H
  clear H
  try go_wp2
  have n0_ := Aside0.mk (Kd.R_drew HO_188000.out)
  have n1_ := Aside0.mk (Kd.S_drew HO_188001.out)
  have n2_ := Aside0.mk (blk_drew BK175.out)
  have n3_ := Aside0.mk (blk_drew BK176.out)
  have n4_ := Aside0.mk (blk_drew BK177.out)
  have n5_ := Aside0.mk (blk_drew BK187.out)
  have n6_ := Aside0.mk (below_drew1 HB.out)
  clear HO_188000
  clear HO_188001
  clear BK175
  clear BK176
  clear BK177
  clear BK187
  clear HB
  have HO_188000 := n0_
  have HO_188001 := n1_
  have BK175 := n2_
  have BK176 := n3_
  have BK177 := n4_
  have BK187 := n5_
  have HB := n6_
  clear n0_ n1_ n2_ n3_ n4_ n5_ n6_
  have p195 : 0 ≤ (x7_2 : Int) := dt_
  have q195 : x7_2 < (l1_1.length : Int) := dt_
  obtain ⟨ad195, A195_1, c195_1, e195, hx195_0, hx195_1, hl195_1, hi195_1⟩ := at_T69 HR1_1.out x7_2 p195 q195
  have hw195_1 := hx195_1
  have hw195_0 := hx195_0
  obtain rfl : ad188 = ad195 := (by injection e195)
  replace hx195_0 := (HB.out.cell (World.block_lt_of_cell? w _ hx195_0)).trans hx195_0
  replace hx195_1 := (HB.out.cell (World.block_lt_of_cell? w _ hx195_1)).trans hx195_1
  have HR195_1 := Aside0.mk hi195_1
  have HC195_1 := Aside0.mk hl195_1
  clear hi195_1 hl195_1
  replace p195 := eq_true p195
  replace q195 := eq_true q195
  refine start_ (n := 16) (S := fun w' => w'.cell? ⟨gb187, 0, none⟩ = some (.slice Ao37 y184.length co37) ∧ w'.cell? ⟨gb187, 1, none⟩ = some (u188001) ∧ w'.cell? ⟨gb176, 0, none⟩ = some (.slice A1_0 l1_0.length c1_0) ∧ w'.cell? ⟨gb176, 1, none⟩ = some (.slice (some ad188) l1_1.length c1_1) ∧ w'.cell? (ad188.add ((x7_2).toNat * 2)) = some (.int .i64 ((rd_T69 l1_1 x7_2).f0)) ∧ w'.cell? ⟨(ad188.add ((x7_2).toNat * 2)).block, (ad188.add ((x7_2).toNat * 2)).off + 1, none⟩ = some (.slice A195_1 ((rd_T69 l1_1 x7_2).f1).length c195_1)) (ds := [15]) #[false, false, false, false, false, false, false, false, false, false, false, false, false, false, false, false] (by kernel_rfl) rfl rfl ⟨(blk_cell BK187.out 0).trans rfl, (blk_cell BK187.out 1).trans rfl, (blk_cell BK176.out 0).trans rfl, (blk_cell BK176.out 1).trans rfl, ((HB.out.cell (World.block_lt_of_cell? w _ hw195_0)).trans hw195_0), ((HB.out.cell (World.block_lt_of_cell? w _ hw195_1)).trans hw195_1)⟩ (fun hHeld => ?_); refine with_tabW spec_PassBox.tab12 spec_PassBox.bits12 (fun HT_ HW_ => ?_)
  generalize wc.drew = w95 at HO_188000 HO_188001 BK175 BK176 BK177 BK187 HB HR195_1 hx195_0 hx195_1 hHeld ⊢
  refine pu_ 0 (some 79) (tf_ 1 16) HT_ ?_
  refine pu_ 2 (some 81) #[true, false, true, false, false, false, false, false, false, false, false, false, false, false, false, false] HT_ ?_
  refine pu_ 4 (some 83) #[true, false, true, false, true, false, false, false, false, false, false, false, false, false, false, false] HT_ ?_
  refine pu_ 6 (some 85) #[true, false, true, false, true, false, true, false, false, false, false, false, false, false, false, false] HT_ ?_
  refine ta_ 1 (some 80) #[true, true, true, false, true, false, true, false, false, false, false, false, false, false, false, false] HT_ HW_ hHeld ?_
  refine ta_ 5 (some 84) #[true, true, true, false, true, true, true, false, false, false, false, false, false, false, false, false] HT_ HW_ hHeld ?_
  refine pu_ 7 (some 86) #[true, true, true, false, true, true, true, true, false, false, false, false, false, false, false, false] HT_ ?_
  refine pu_ 8 (some 87) #[true, true, true, false, true, true, true, true, true, false, false, false, false, false, false, false] HT_ ?_
  refine ta_ 9 (some 88) #[true, true, true, false, true, true, true, true, true, true, false, false, false, false, false, false] HT_ HW_ hHeld ?_
  refine on_ 3 (some 82) (tf_ 10 16) HT_ (fun K hK => ?_)
  refine Kd.R_lit_step (Kd.int .i64) _ 3 ?hg (N := 82) ?hd (xs := ([] : List Int)) (inner := []) (ok := fun _ => True) (okp := fun _ => True) ?hr ?hp (fun _ hk => hk) trivial (Below.refl _ _) (Nat.le_refl _) (by simp) ?_; (case hd => rfl); (case hg => rfl); (case hr => first | (go_simp; done) | (go_simp; rfl)); (case hp => exact (Reps.none _ _))
  intro v193 w96 ho97 hb hg_ hnew_
  clear hg_ hnew_
  (first | rw [← Ny192.out] at ho97 | (simp only [Int.reduceToNat] at ho97; rw [← Ny192.out] at ho97))
  have n0_ := Aside0.mk (Kd.R_elder' (pr_ HO_188000.out) (Kd.R_base ho97) hb)
  have n1_ := Aside0.mk (Kd.S_elder' (ps_ HO_188001.out) (Kd.R_base ho97) hb)
  have n2_ := Aside0.mk (Kd.R_lower (Kd.R_new' ho97 (Kd.R_lt (pr_ HO_188000.out))) (below_size (pb4_ HB.out GE175.out GE176.out GE177.out GE187.out)))
  have n3_ := Aside0.mk (bb_ BK175.out hb)
  have n4_ := Aside0.mk (bb_ BK176.out hb)
  have n5_ := Aside0.mk (bb_ BK177.out hb)
  have n6_ := Aside0.mk (bb_ BK187.out hb)
  have n7_ := Aside0.mk (below_step (pb4_ HB.out GE175.out GE176.out GE177.out GE187.out) hb)
  clear HO_188000
  clear HO_188001
  clear BK175
  clear BK176
  clear BK177
  clear BK187
  clear HB
  have HO_188000 := n0_
  have HO_188001 := n1_
  have HO194 := n2_
  have BK175 := n3_
  have BK176 := n4_
  have BK177 := n5_
  have BK187 := n6_
  have HB := n7_
  clear n0_ n1_ n2_ n3_ n4_ n5_ n6_ n7_
  clear hb ho97
  refine hK.out _ _ ⟨(blk_cell BK187.out 0).trans rfl, (blk_cell BK187.out 1).trans rfl, (blk_cell BK176.out 0).trans rfl, (blk_cell BK176.out 1).trans rfl, ((HB.out.cell (World.block_lt_of_cell? w _ hw195_0)).trans hw195_0), ((HB.out.cell (World.block_lt_of_cell? w _ hw195_1)).trans hw195_1)⟩ (fun hHeld => ?_)
  clear hK K
  refine no_ (some 82) ?_
  refine on_ 10 (some 89) (tf_ 11 16) HT_ (fun K hK => ?_)
  refine Kd.R_append_rows_step (Kd.int .i64) (w0 := w) w.heap.size (by rfl) (.tmp 82) (.tmp 88) 23 3 (.int .i64 0) 8 rfl Try.underlying23 info3 rfl (by decide) (by omega) v193 y192 ((rd_T69 l1_1 x7_2).f1) _ _ _ (fun k_ => some k_ ≠ (.slice Ao37 y184.length co37 : Value).ownBlock) (fun _ => False) rfl rfl ?aO ?aR (fun _ _ h => h) (fun _ h => h.elim) ?aF ?aB ?aS ?aL ?_
  (case aR => exact pc_ (Kd.C_below HR195_1.out HB.out))
  (case aB => exact (pb4_ HB.out GE175.out GE176.out GE177.out GE187.out))
  (case aF => exact (fun k_ hk => Kd.fresh' (Kd.R_lt (pr_ HO_188000.out)) k_ hk))
  (case aO => exact (pr_ (Kd.R_mono HO194.out (fun _ hk => hk.2))))
  (case aS => exact (below_size (pb4_ HB.out GE175.out GE176.out GE177.out GE187.out)))
  (case aL => have := LMc93.out; omega)
  intro v197 w98 ho hb hg hat
  rw [← Ny196.out] at ho
  have n0_ := Aside0.mk (Kd.R_after (ok := (fun _ => True)) (pr_ HO_188000.out) hg hat)
  have n1_ := Aside0.mk (Kd.S_after (ok := (fun k_ => some k_ ≠ (.slice Ao37 y184.length co37 : Value).ownBlock)) (ps_ HO_188001.out) hg hat)
  have n2_ := Aside0.mk (blk_grown (g := gb175) (o := .cells #[.int .i64 a0_0, .slice A0_1 l0_1.length c0_1, .slice A0_2 l0_2.length c0_2, .bool a0_3] 50 (0, 0)) (pk_ BK175.out) hg (Kd.R_ne HO194.out BK175.out (by decide)))
  have n3_ := Aside0.mk (blk_grown (g := gb176) (o := .cells #[.slice A1_0 l1_0.length c1_0, .slice (some ad188) l1_1.length c1_1] 63 (0, 0)) (pk_ BK176.out) hg (Kd.R_ne HO194.out BK176.out (by decide)))
  have n4_ := Aside0.mk (blk_grown (g := gb177) (o := .cells #[.slice none 0 0, .slice none 0 0] 63 (0, 0)) (pk_ BK177.out) hg (Kd.R_ne HO194.out BK177.out (by decide)))
  have n5_ := Aside0.mk (blk_grown (g := gb187) (o := .cells #[.slice Ao37 y184.length co37, u188001] 63 (0, 0)) (pk_ BK187.out) hg (Kd.R_ne HO194.out BK187.out (by decide)))
  have n6_ := Aside0.mk (hb)
  have n7_ := Aside0.mk (ho)
  clear HO_188000
  clear HO_188001
  clear BK175
  clear BK176
  clear BK177
  clear BK187
  clear HB
  clear HO194
  have HO_188000 := n0_
  have HO_188001 := n1_
  have BK175 := n2_
  have BK176 := n3_
  have BK177 := n4_
  have BK187 := n5_
  have HB := n6_
  have HO198 := n7_
  clear n0_ n1_ n2_ n3_ n4_ n5_ n6_ n7_
  clear ho hb hg hat
  obtain ⟨Ao99, co99, eo99⟩ := Kd.R_slice HO198.out
  (first | subst eo99 | (injection eo99 with f1_ f2_ f3_; have f4_ := f1_.symm; have f5_ := f3_.symm; clear f1_ f2_ f3_; subst f4_; subst f5_))
  refine hK.out _ _ ⟨(blk_cell BK187.out 0).trans rfl, (blk_cell BK187.out 1).trans rfl, (blk_cell BK176.out 0).trans rfl, (blk_cell BK176.out 1).trans rfl, ((HB.out.cell (World.block_lt_of_cell? w _ hw195_0)).trans hw195_0), ((HB.out.cell (World.block_lt_of_cell? w _ hw195_1)).trans hw195_1)⟩ (fun hHeld => ?_)
  clear hK K
  refine no_ (some 89) ?_
  refine pu_ 11 (some 90) (tf_ 12 16) HT_ ?_
  refine on_ 12 (some 91) (tf_ 13 16) HT_ (fun K hK => ?_)
  refine value_ (w1 := ?_) (v := ?_) (by rfl) rfl ?_ ?_
  rotate_left 2
  · go_simp
    constructor
    · rfl
    · rfl
  refine hK.out _ _ ⟨(blk_cell (blk_alloc BK187.out _) 0).trans rfl, (blk_cell (blk_alloc BK187.out _) 1).trans rfl, (blk_cell (blk_alloc BK176.out _) 0).trans rfl, (blk_cell (blk_alloc BK176.out _) 1).trans rfl, (World.cell?_alloc_lt _ _ _ (World.block_lt_of_cell? _ _ (((HB.out.cell (World.block_lt_of_cell? w _ hw195_0)).trans hw195_0)))).trans (((HB.out.cell (World.block_lt_of_cell? w _ hw195_0)).trans hw195_0)), (World.cell?_alloc_lt _ _ _ (World.block_lt_of_cell? _ _ (((HB.out.cell (World.block_lt_of_cell? w _ hw195_1)).trans hw195_1)))).trans (((HB.out.cell (World.block_lt_of_cell? w _ hw195_1)).trans hw195_1))⟩ (fun hHeld => ?_)
  clear hK K
  refine no_ (some 91) ?_
  refine on_ 13 (some 92) (tf_ 14 16) HT_ (fun K hK => ?_)
  refine Kd.S_append_step k69 (w0 := w) w.heap.size (by rfl) (.tmp 80) (.tmp 91) 48 69 (.agg #[(.int .i64 0), (.slice none 0 0)]) 32 rfl Try.underlying48 info69 rfl (by decide) (by omega) u188001 x188001_2 (⟨((rd_T69 l1_1 x7_2).f0), y196⟩ : S69) [.int .i64 ((rd_T69 l1_1 x7_2).f0), .slice Ao99 y196.length co99] (fun k_ => some k_ ≠ (.slice Ao37 y184.length co37 : Value).ownBlock) (fun k_ => some k_ = (.slice Ao99 y196.length co99 : Value).ownBlock) rfl rfl ?aP (fun k_ hk_ => ((Kd.R_mono (ok' := fun k_ => ((fun k_ => some k_ ≠ (.slice Ao37 y184.length co37 : Value).ownBlock)) k_ ∧ some k_ ≠ (u188001 : Value).ownBlock) (Kd.R_apart' (HO198.out) (Kd.S_typed HO_188001.out) (by decide)) (fun k_ hk => ⟨hk.1, hk.2⟩))).1 k_ hk_.symm) ?aF ?aO ?aB ?aS ?aL ?_
  (case aP => exact k69_mkM _ _ _ (⟨((rd_T69 l1_1 x7_2).f0), y196⟩ : S69) (Kd.R_mono (Kd.R_tight rfl (Kd.R_mono (ok' := fun k_ => ((fun k_ => some k_ ≠ (.slice Ao37 y184.length co37 : Value).ownBlock)) k_ ∧ some k_ ≠ (u188001 : Value).ownBlock) (Kd.R_apart' (HO198.out) (Kd.S_typed HO_188001.out) (by decide)) (fun k_ hk => ⟨hk.1, hk.2⟩))) (fun _ h_ => h_)))
  (case aB => exact (pb4_ HB.out GE175.out GE176.out GE177.out GE187.out))
  (case aF => exact (fun k_ hk => Kd.fresh' (Kd.R_lt (pr_ HO_188000.out)) k_ hk))
  (case aO => exact (by (with_reducible repeat (first | apply Kd.S_alloc | apply Kd.S_drewN | apply Kd.S_drew)); exact Kd.S_mono HO_188001.out (fun k_ hk => ⟨hk.1, fun e_ => hk.2 e_⟩)))
  (case aS => exact (below_size (pb4_ HB.out GE175.out GE176.out GE177.out GE187.out)))
  (case aL => have := LMc94.out; omega)
  intro v200 w100 ho hb hg hat
  rw [← Ny199.out] at ho
  have n0_ := Aside0.mk (Kd.R_over' (pr_ HO_188000.out) (Kd.S_typed (ps_ HO_188001.out)) (by decide) hg)
  have n1_ := Aside0.mk (blk_grown (g := gb175) (o := .cells #[.int .i64 a0_0, .slice A0_1 l0_1.length c0_1, .slice A0_2 l0_2.length c0_2, .bool a0_3] 50 (0, 0)) (pk_ BK175.out) hg (Kd.S_ne HO_188001.out BK175.out (by decide)))
  have n2_ := Aside0.mk (blk_grown (g := gb176) (o := .cells #[.slice A1_0 l1_0.length c1_0, .slice (some ad188) l1_1.length c1_1] 63 (0, 0)) (pk_ BK176.out) hg (Kd.S_ne HO_188001.out BK176.out (by decide)))
  have n3_ := Aside0.mk (blk_grown (g := gb177) (o := .cells #[.slice none 0 0, .slice none 0 0] 63 (0, 0)) (pk_ BK177.out) hg (Kd.S_ne HO_188001.out BK177.out (by decide)))
  have n4_ := Aside0.mk (blk_grown (g := gb187) (o := .cells #[.slice Ao37 y184.length co37, u188001] 63 (0, 0)) (pk_ BK187.out) hg (Kd.S_ne HO_188001.out BK187.out (by decide)))
  have n5_ := Aside0.mk (hb)
  have n6_ := Aside0.mk (ho)
  clear HO_188000
  clear BK175
  clear BK176
  clear BK177
  clear BK187
  clear HB
  clear HO_188001
  clear HO198
  have HO_188000 := n0_
  have BK175 := n1_
  have BK176 := n2_
  have BK177 := n3_
  have BK187 := n4_
  have HB := n5_
  have HO201 := n6_
  clear n0_ n1_ n2_ n3_ n4_ n5_ n6_
  clear ho hb hg hat
  obtain ⟨Ao101, co101, eo101⟩ := Kd.S_slice HO201.out
  (first | subst eo101 | (injection eo101 with f1_ f2_ f3_; have f4_ := f1_.symm; have f5_ := f3_.symm; clear f1_ f2_ f3_; subst f4_; subst f5_))
  refine hK.out _ _ ⟨(blk_cell BK187.out 0).trans rfl, (blk_cell BK187.out 1).trans rfl, (blk_cell BK176.out 0).trans rfl, (blk_cell BK176.out 1).trans rfl, ((HB.out.cell (World.block_lt_of_cell? w _ hw195_0)).trans hw195_0), ((HB.out.cell (World.block_lt_of_cell? w _ hw195_1)).trans hw195_1)⟩ (fun hHeld => ?_)
  clear hK K
  refine no_ (some 92) ?_
  refine pu_ 14 (some 93) (tf_ 15 16) HT_ ?_
  refine last_ (i := 15) (N := none) #[true, true, true, true, true, true, true, true, true, true, true, true, true, true, true, true] rfl rfl (one_of HT_.out (by kernel_rfl)) (by decide) (fun K hK => ?_)
  have hs102 : w100.cell? ⟨gb187, 1, none⟩ = some (u188001) := (blk_cell BK187.out 1).trans rfl
  have hfs102 := blk_frozen BK187.out 1
  have hns102_0 := NB175_187.out
  have hns102_1 := NB176_187.out
  have hns102_2 := NB177_187.out
  have hms102_0 := NB187_175.out
  have hms102_1 := NB187_176.out
  have hms102_2 := NB187_177.out
  refine skip_ (w1 := ?_) (by rfl) rfl ?_ ?_
  rotate_left
  · go_simp
    rfl
  refine hK.out _ _ ?_
  clear hK K
  refine done_ (done_of HT_.out (by kernel_rfl)) ?_
  try go_wp2
  go_roundg kj55
  case measure => have := HJ2.out; have := HK2.out; have := HJ55.out; omega
  case rel => exact ⟨(wrap64 (x7_2 + 1)), (y199), (.slice Ao101 y199.length co101), el_, H', ⟨by have := HJ2.out; have := HK2.out; have := HJ55.out; omega⟩, ⟨pr_ (Kd.R_mono (Kd.R_far (p := ⟨gb187, 1, none⟩) (Kd.R_types HO_188000.out BK187.out (by decide)) (fun _ hk => hk.2) (.slice Ao101 y199.length co101)) (fun _ hk => trivial))⟩, ⟨ps_ (Kd.S_mono (Kd.S_far (p := ⟨gb187, 1, none⟩) (Kd.S_types HO201.out BK187.out (by decide)) (fun _ hk => hk.2) (.slice Ao101 y199.length co101)) (fun _ hk => hk.1))⟩, ⟨pp_ BK175.out⟩, ⟨pp_ BK176.out⟩, ⟨pp_ BK177.out⟩, ⟨pp_ BK187.out⟩, ⟨pb4_ HB.out GE175.out GE176.out GE177.out GE187.out⟩⟩

end Go.Proofs.Ytpoandlbmaljhaa.Print
