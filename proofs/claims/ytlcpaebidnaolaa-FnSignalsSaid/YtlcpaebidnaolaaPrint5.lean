-- Written by a program of this session (printx.py) out of the translation; Lean checks it.
import Derived.Test.YtlcpaebidnaolaaPrint0
import Derived.Test.YtlcpaebidnaolaaPrint2
import Derived.Test.YtlcpaebidnaolaaPrint3
import Derived.Test.YtlcpaebidnaolaaPrint4
namespace Go.Proofs.Ytlcpaebidnaolaa.Print
open Go.RowKit Go.Proofs.YtlcpaebidnaolaaW.PrintWords Go.Proofs.YtlcpaebidnaolaaW.PrintLast Go.Proofs.YtlcpaebidnaolaaW.PrintMore Go.Proofs.Ytlcpaebidnaolaa.Short
attribute [local go_sem] max2_int min2_int max_two min_two max_three min_three max_four min_four   -- for this text's walks alone
set_option linter.unusedVariables false
set_option maxHeartbeats 8000000
set_option maxRecDepth 100000
set_option linter.unusedSimpArgs false

/-! ### spec_PassBox: function 82 -/
mutual
def spec_PassBox.j0 : Nat → Bool → Int → List Int → List Int → Bool → List Int → List (S113) → Option (List Int × (List (S113)) × Bool)
 | 0, _, _, _, _, _, _, _ => none
 | k + 1, x35, x230000, x230001, x230002, x230003, x231000, x231001 => if x35 = true then (some (([] : List Int), ([] : List (S113)), false)) else ((some (([] : List Int) : List Int)).bind fun y235 => (if y235.length + x231000.length < 17592186044416 then (spec_PassBox.l0 k 0 x230000 x230001 x230002 x230003 x231000 x231001 (y235 ++ x231000) ([] : List (S113))) else (none)))
def spec_PassBox.l0 : Nat → Int → Int → List Int → List Int → Bool → List Int → List (S113) → List Int → List (S113) → Option (List Int × (List (S113)) × Bool)
 | 0, _, _, _, _, _, _, _, _, _ => none
 | k + 1, x7, x230000, x230001, x230002, x230003, x231000, x231001, x242000, x242001 => if x7 < (x231001.length : Int) then (if 0 ≤ x7 then ((spec_l9Has.f k x230002 ((rd_T113 x231001 x7).f0)).bind fun t243 => ((spec_l9Has.f k x230001 ((rd_T113 x231001 x7).f0)).bind fun t244 => (if t244 = true then (spec_PassBox.j2 k x7 ((rd_T113 x231001 x7).f0) t243 true x230000 x230001 x230002 x230003 x231000 x231001 x242000 x242001) else (if x230003 = true then (if t243 = true then (spec_PassBox.j2 k x7 ((rd_T113 x231001 x7).f0) t243 false x230000 x230001 x230002 x230003 x231000 x231001 x242000 x242001) else ((spec_l1In.f ((rd_T113 x231001 x7).f0) 1 3).bind fun t245 => (spec_PassBox.j2 k x7 ((rd_T113 x231001 x7).f0) t243 (!t245) x230000 x230001 x230002 x230003 x231000 x231001 x242000 x242001))) else (spec_PassBox.j2 k x7 ((rd_T113 x231001 x7).f0) t243 false x230000 x230001 x230002 x230003 x231000 x231001 x242000 x242001))))) else (none)) else (some (x242000, x242001, true))
def spec_PassBox.j2 : Nat → Int → Int → Bool → Bool → Int → List Int → List Int → Bool → List Int → List (S113) → List Int → List (S113) → Option (List Int × (List (S113)) × Bool)
 | 0, _, _, _, _, _, _, _, _, _, _, _, _ => none
 | k + 1, x7, x8, x9, x75, x230000, x230001, x230002, x230003, x231000, x231001, x242000, x242001 => if x75 = true then (some (([] : List Int), ([] : List (S113)), false)) else (if x9 = true then (spec_PassBox.l0 k (wrap64 (x7 + 1)) x230000 x230001 x230002 x230003 x231000 x231001 x242000 x242001) else ((some (([] : List Int) : List Int)).bind fun y246 => (if 0 ≤ x7 then (if x7 < (x231001.length : Int) then (if y246.length + ((rd_T113 x231001 x7).f1).length < 17592186044416 then (if x242001.length < 4398046511104 then (spec_PassBox.l0 k (wrap64 (x7 + 1)) x230000 x230001 x230002 x230003 x231000 x231001 x242000 (x242001 ++ [(⟨x8, (y246 ++ ((rd_T113 x231001 x7).f1))⟩ : S113)])) else (none)) else (none)) else (none)) else (none))))
end
def spec_PassBox.f (k : Nat) (a0_0 : Int) (l0_1 : List Int) (l0_2 : List Int) (a0_3 : Bool) (l1_0 : List Int) (l1_1 : List (S113)) : Option (List Int × (List (S113)) × Bool) := (spec_IsBox.f k a0_0 l0_1 l0_2 a0_3).bind fun t232 => (if t232 = true then ((spec_IsHello.f k l1_0 l1_1).bind fun t233 => (if t233 = true then (if a0_0 > 0 then (if 0 ≤ (wrap64 ((l1_0.length : Int) - 1)) then (if (wrap64 ((l1_0.length : Int) - 1)) < (l1_0.length : Int) then (spec_PassBox.j0 k (decide ((rd l1_0 (wrap64 ((l1_0.length : Int) - 1))) > a0_0)) a0_0 l0_1 l0_2 a0_3 l1_0 l1_1) else (none)) else (none)) else (spec_PassBox.j0 k false a0_0 l0_1 l0_2 a0_3 l1_0 l1_1)) else (spec_PassBox.j0 k true a0_0 l0_1 l0_2 a0_3 l1_0 l1_1))) else (spec_PassBox.j0 k true a0_0 l0_1 l0_2 a0_3 l1_0 l1_1))
theorem spec_PassBox.mono_l : ∀ k, (∀ y0 y1 y2 y3 y4 y5 y6, LeO (spec_PassBox.j0 k y0 y1 y2 y3 y4 y5 y6) (spec_PassBox.j0 (k + 1) y0 y1 y2 y3 y4 y5 y6)) ∧ (∀ y0 y1 y2 y3 y4 y5 y6 y7 y8, LeO (spec_PassBox.l0 k y0 y1 y2 y3 y4 y5 y6 y7 y8) (spec_PassBox.l0 (k + 1) y0 y1 y2 y3 y4 y5 y6 y7 y8)) ∧ (∀ y0 y1 y2 y3 y4 y5 y6 y7 y8 y9 y10 y11, LeO (spec_PassBox.j2 k y0 y1 y2 y3 y4 y5 y6 y7 y8 y9 y10 y11) (spec_PassBox.j2 (k + 1) y0 y1 y2 y3 y4 y5 y6 y7 y8 y9 y10 y11))
 | 0 => ⟨fun _ _ _ _ _ _ _ r h => by simp [spec_PassBox.j0] at h, fun _ _ _ _ _ _ _ _ _ r h => by simp [spec_PassBox.l0] at h, fun _ _ _ _ _ _ _ _ _ _ _ _ r h => by simp [spec_PassBox.j2] at h⟩
 | k + 1 => by
  obtain ⟨ih0, ih1, ih2⟩ := spec_PassBox.mono_l k
  refine ⟨?_, ?_, ?_⟩
  ·intro y0 y1 y2 y3 y4 y5 y6
   unfold spec_PassBox.j0
   exact mo6_ ih0 ih1 ih2 spec_IsBox.mono spec_IsHello.mono spec_l9Has.mono
  ·intro y0 y1 y2 y3 y4 y5 y6 y7 y8
   unfold spec_PassBox.l0
   exact mo6_ ih0 ih1 ih2 spec_IsBox.mono spec_IsHello.mono spec_l9Has.mono
  ·intro y0 y1 y2 y3 y4 y5 y6 y7 y8 y9 y10 y11
   unfold spec_PassBox.j2
   exact mo6_ ih0 ih1 ih2 spec_IsBox.mono spec_IsHello.mono spec_l9Has.mono
theorem spec_PassBox.mono : ∀ a0 a1 a2 a3 a4 a5 k, LeO (spec_PassBox.f k a0 a1 a2 a3 a4 a5) (spec_PassBox.f (k + 1) a0 a1 a2 a3 a4 a5) := by
 intro a0 a1 a2 a3 a4 a5 k
 obtain ⟨ih0, ih1, ih2⟩ := spec_PassBox.mono_l k
 unfold spec_PassBox.f
 exact mo6_ ih0 ih1 ih2 spec_IsBox.mono spec_IsHello.mono spec_l9Has.mono
def spec_PassBox.T1 : Bool × List (List Nat × List Nat) := (true, [([], []), ([0], [0]), ([1], [1]), ([2, 1], [2]), ([3], [3]), ([4, 3, 3], [3, 4]), ([5, 3], [3, 5]), ([3, 6], [3, 6]), ([7, 5], [7]), ([8], [8]), ([9, 8], [8, 9]), ([10, 8], [8, 10]), ([11, 8, 8], [8, 11]), ([12], [12]), ([13, 12], [12, 13]), ([12], [12]), ([15, 12], [12, 15]), ([16, 12], [12, 16]), ([17, 12], [12, 17]), ([14, 18, 12], [12, 14, 18]), ([19, 12], [12, 19]), ([12], [12]), ([21, 12], [12, 21]), ([20, 22, 12], [12, 20, 22]), ([12, 23, 8], [8, 12, 23]), ([8, 24], [8, 24])])
def spec_PassBox.B1 : List Nat := [0, 1, 3, 7, 15, 31, 63, 127, 255, 511, 1023, 2047, 4095, 8191, 16383, 8191, 40959, 106495, 237567, 524287, 1048575, 8191, 2105343, 8388607, 16777215, 33554431]
theorem spec_PassBox.tab1 : rtab .any (opsOf Try.f82 1) = spec_PassBox.T1 := by kernel_rfl
theorem spec_PassBox.bits1 : waitsOk spec_PassBox.T1.2 spec_PassBox.B1 = true := by kernel_rfl
def spec_PassBox.T12 : Bool × List (List Nat × List Nat) := (true, [([], []), ([0], [0]), ([], []), ([], []), ([], []), ([4], [4]), ([], []), ([5, 6], [5, 6]), ([7], [7]), ([8], [8]), ([3, 9], [3, 9]), ([2, 10], [2, 10]), ([11], [11]), ([1, 12, 10], [1, 12]), ([0, 1, 2, 3, 4, 5, 6, 7, 8, 9, 10, 11, 12, 13], []), ([14, 13, 13, 0, 1, 2, 3, 4, 5, 6, 7, 8, 9, 10, 11, 12, 13], [13, 14])])
def spec_PassBox.B12 : List Nat := [0, 1, 0, 0, 0, 16, 0, 112, 240, 496, 1016, 2044, 4092, 8191, 16383, 32767]
theorem spec_PassBox.tab12 : rtab .any (opsOf Try.f82 12) = spec_PassBox.T12 := by kernel_rfl
theorem spec_PassBox.bits12 : waitsOk spec_PassBox.T12.2 spec_PassBox.B12 = true := by kernel_rfl
theorem spec_PassBox.calls (k : Nat) (a0_0 : Int) (A0_1 : Option Addr) (c0_1 : Nat) (l0_1 : List Int) (A0_2 : Option Addr) (c0_2 : Nat) (l0_2 : List Int) (a0_3 : Bool) (A1_0 : Option Addr) (c1_0 : Nat) (l1_0 : List Int) (A1_1 : Option Addr) (c1_1 : Nat) (l1_1 : List (S113)) (r1 : List Int) (r2 : List (S113)) (r3 : Bool) (w : World) (hr0_1 : Kd.C (Kd.int .i64) w A0_1 l0_1.length l0_1) (hc0_1 : l0_1.length ≤ c0_1) (hr0_2 : Kd.C (Kd.int .i64) w A0_2 l0_2.length l0_2) (hc0_2 : l0_2.length ≤ c0_2) (hr1_0 : Kd.C (Kd.int .i64) w A1_0 l1_0.length l1_0) (hc1_0 : l1_0.length ≤ c1_0) (hr1_1 : Kd.C k113 w A1_1 l1_1.length l1_1) (hc1_1 : l1_1.length ≤ c1_1) (h : spec_PassBox.f k a0_0 l0_1 l0_2 a0_3 l1_0 l1_1 = some (r1, r2, r3)) :
  Calls Try.prog 82 #[.agg #[.int .i64 a0_0, .slice A0_1 l0_1.length c0_1, .slice A0_2 l0_2.length c0_2, .bool a0_3], .agg #[.slice A1_0 l1_0.length c1_0, .slice A1_1 l1_1.length c1_1]] w fun e w' => ∃ v0_ v1_ : Value, e = .returned (.tuple #[.agg #[v0_, v1_], .bool r3]) ∧ Kd.R (Kd.int .i64) 3 w' w.heap.size (fun _ => True) v0_ r1 ∧ Kd.S k113 113 w' w.heap.size (fun k_ => some k_ ≠ (v0_ : Value).ownBlock) v1_ r2 ∧ Below w.heap.size w w' := by
 have hu89 := Try.underlying89
 have hu71 := Try.underlying71
 have hu113 := Try.underlying113
 have HR0_1 := Q_ hr0_1
 have HC0_1 := Q_ hc0_1
 clear hr0_1 hc0_1
 have HR0_2 := Q_ hr0_2
 have HC0_2 := Q_ hc0_2
 clear hr0_2 hc0_2
 have HR1_0 := Q_ hr1_0
 have HC1_0 := Q_ hc1_0
 clear hr1_0 hc1_0
 have HR1_1 := Q_ hr1_1
 have HC1_1 := Q_ hc1_1
 clear hr1_1 hc1_1
 have HB := Q_ (Below.refl w.heap.size w)
 have H : ((spec_IsBox.f k a0_0 l0_1 l0_2 a0_3).bind fun t232 => (if t232 = true then ((spec_IsHello.f k l1_0 l1_1).bind fun t233 => (if t233 = true then (if a0_0 > 0 then (if 0 ≤ (wrap64 ((l1_0.length : Int) - 1)) then (if (wrap64 ((l1_0.length : Int) - 1)) < (l1_0.length : Int) then (spec_PassBox.j0 k (decide ((rd l1_0 (wrap64 ((l1_0.length : Int) - 1))) > a0_0)) a0_0 l0_1 l0_2 a0_3 l1_0 l1_1) else (none)) else (none)) else (spec_PassBox.j0 k false a0_0 l0_1 l0_2 a0_3 l1_0 l1_1)) else (spec_PassBox.j0 k true a0_0 l0_1 l0_2 a0_3 l1_0 l1_1))) else (spec_PassBox.j0 k true a0_0 l0_1 l0_2 a0_3 l1_0 l1_1))) = some (r1, r2, r3) := h
 clear h
 have HC3 := Q_ H
 clear H
 go_enter Try.func82, Try.ntmps82
 go_upto_region 1 with (first | ((with_reducible refine gate_dst (N := 2) rfl ?_); (try (refine gate_guard (by rfl) ?_; dsimp only)); refine box_event ?hg (N := 2) ?hd (cs := #[.int .i64 a0_0, .slice A0_1 l0_1.length c0_1, .slice A0_2 l0_2.length c0_2, .bool a0_3]) (t := 89) ?hr ?_; (case hd => rfl); (case hg => rfl); (case hr => first | (go_simp; done) | (go_simp; rfl)); intro gb229 hg w4 hbox hb; have _ := Q_ (below_step (pb_ HB.out) hb); have BK229 := Q_ (hbox); have GW229 := Q_ ((by rw [hg]; exact (below_size (pb_ HB.out)) : w.heap.size ≤ gb229)); have GE229 := GW229; clear HB; rename_i HB; clear hb hbox hg) | ((with_reducible refine gate_dst (N := 3) rfl ?_); (try (refine gate_guard (by rfl) ?_; dsimp only)); refine box_event ?hg (N := 3) ?hd (cs := #[.slice A1_0 l1_0.length c1_0, .slice A1_1 l1_1.length c1_1]) (t := 71) ?hr ?_; (case hd => rfl); (case hg => rfl); (case hr => first | (go_simp; done) | (go_simp; rfl)); intro gb230 hg w5 hbox hb; have _ := Q_ (bb_ BK229.out hb); have _ := Q_ (below_step (pb1_ HB.out GE229.out) hb); have BK230 := Q_ (hbox); have GW230 := Q_ ((by rw [hg]; exact (below_size (pb1_ HB.out GE229.out)) : w.heap.size ≤ gb230)); have GE230 := GW230; have NB229_230 := Q_ ((by rw [hg]; exact Nat.ne_of_lt (blk_lt (pk_ BK229.out)) : gb229 ≠ gb230)); have NB230_229 := Q_ NB229_230.out.symm; clear BK229 HB; rename_i BK229 HB; clear hb hbox hg) | ((with_reducible refine gate_dst (N := 4) rfl ?_); (try (refine gate_guard (by rfl) ?_; dsimp only)); refine box_event ?hg (N := 4) ?hd (cs := #[.slice none 0 0, .slice none 0 0]) (t := 71) ?hr ?_; (case hd => rfl); (case hg => rfl); (case hr => first | (go_simp; done) | (go_simp; rfl)); intro gb231 hg w6 hbox hb; have _ := Q_ (bb_ BK229.out hb); have _ := Q_ (bb_ BK230.out hb); have _ := Q_ (below_step (pb2_ HB.out GE229.out GE230.out) hb); have BK231 := Q_ (hbox); have GW231 := Q_ ((by rw [hg]; exact (below_size (pb2_ HB.out GE229.out GE230.out)) : w.heap.size ≤ gb231)); have GE231 := GW231; have NB229_231 := Q_ ((by rw [hg]; exact Nat.ne_of_lt (blk_lt (pk_ BK229.out)) : gb229 ≠ gb231)); have NB231_229 := Q_ NB229_231.out.symm; have NB230_231 := Q_ ((by rw [hg]; exact Nat.ne_of_lt (blk_lt (pk_ BK230.out)) : gb230 ≠ gb231)); have NB231_230 := Q_ NB230_231.out.symm; clear BK229 BK230 HB; rename_i BK229 BK230 HB; clear hb hbox hg))
 (try simp only [Act.put, List.setIfInBounds_toArray, List.set_cons_zero, List.set_cons_succ])
 go_cut [35] (fun v35 wc => ∃ (kq : Nat) (x35_2 : Bool), v35 = .bool x35_2 ∧ Aside0 (spec_PassBox.j0 kq x35_2 a0_0 l0_1 l0_2 a0_3 l1_0 l1_1 = some (r1, r2, r3)) ∧ Aside0 (kq ≤ k) ∧ Aside0 (wc.heap[gb229]? = some (.cells #[.int .i64 a0_0, (.slice A0_1 l0_1.length c0_1), (.slice A0_2 l0_2.length c0_2), .bool a0_3] 89 (0, 0))) ∧ Aside0 (wc.heap[gb230]? = some (.cells #[(.slice A1_0 l1_0.length c1_0), (.slice A1_1 l1_1.length c1_1)] 71 (0, 0))) ∧ Aside0 (wc.heap[gb231]? = some (.cells #[(.slice none 0 0), (.slice none 0 0)] 71 (0, 0))) ∧ Aside0 (Below w.heap.size w wc))
 case first =>
  have H := HC3.out
  clear HC3
  replace H := Option.bind_eq_some_iff.mp H
  obtain ⟨t232, A70, H⟩ := H
  (try dsimp only at H)
  have A7 := Q_ A70
  clear A70
  by_cases c8 : t232 = true
  rotate_left
  ·replace c8 := bf_ c8
   subst c8
   rw [if_neg ff_] at H
   have H' := Q_ H
   clear H
   try go_wp2
   have _ := Q_ (blk_drew BK229.out)
   have _ := Q_ (blk_drew BK230.out)
   have _ := Q_ (blk_drew BK231.out)
   have _ := Q_ (below_drew1 HB.out)
   clear BK229 BK230 BK231 HB
   rename_i BK229 BK230 BK231 HB
   refine start_ (n := 26) (S := fun w' => w'.cell? ⟨gb229, 0, none⟩ = some (.int .i64 a0_0) ∧ w'.cell? ⟨gb229, 1, none⟩ = some (.slice A0_1 l0_1.length c0_1) ∧ w'.cell? ⟨gb229, 2, none⟩ = some (.slice A0_2 l0_2.length c0_2) ∧ w'.cell? ⟨gb229, 3, none⟩ = some (.bool a0_3)) (ds := []) (tf_ 0 26) (by kernel_rfl) rfl rfl (sb_ BK229.out) (fun hHeld => ?_); refine with_tabW spec_PassBox.tab1 spec_PassBox.bits1 (fun HT_ HW_ => ?_)
   generalize w6.drew = w9 at BK229 BK230 BK231 HB hHeld ⊢
   refine ta_ 0 (some 10) (tf_ 1 26) HT_ HW_ hHeld ?_
   refine on_ 1 (some 11) (tf_ 2 26) HT_ (fun K hK => ?_)
   refine goes_ Try.func98 (by kernel_rfl) rfl #[.agg #[.int .i64 a0_0, .slice A0_1 l0_1.length c0_1, .slice A0_2 l0_2.length c0_2, .bool a0_3]] (by rfl) rfl rfl mp_ ?_
   with_reducible refine (spec_IsBox.calls k a0_0 _ _ l0_1 _ _ l0_2 a0_3 false _ ?side1 ?side2 ?side3 ?side4 A7.out).mono ?_
   (case side1 => exact cb_ HR0_1 HB)
   (case side2 => exact HC0_1.out)
   (case side3 => exact cb_ HR0_2 HB)
   (case side4 => exact HC0_2.out)
   rintro e w10 ⟨rfl, hb⟩
   refine ⟨_, rfl, ?_⟩
   have _ := Q_ (bb_ BK229.out hb)
   have _ := Q_ (bb_ BK230.out hb)
   have _ := Q_ (bb_ BK231.out hb)
   have _ := Q_ (below_step (pb3_ HB.out GE229.out GE230.out GE231.out) hb)
   clear BK229 BK230 BK231 HB
   rename_i BK229 BK230 BK231 HB
   (try clear hb)
   (try clear hb2)
   (try clear hk)
   (try clear hi)
   refine hK.out _ _ (sb_ BK229.out) (fun hHeld => ?_)
   clear hK K
   refine no_ (some 11) ?_
   refine pu_ 2 (some 12) (tf_ 3 26) HT_ ?_
   refine pu_ 3 (some 13) (tf_ 4 26) HT_ ?_
   refine pn_ 4 (some 14) (tf_ 5 26) HT_ ?_
   refine pn_ 5 (some 15) (tf_ 6 26) HT_ ?_
   refine pn_ 6 (some 16) (tf_ 7 26) HT_ ?_
   refine pu_ 7 (some 17) (tf_ 8 26) HT_ ?_
   refine pu_ 8 (some 18) (tf_ 9 26) HT_ ?_
   refine pn_ 9 (some 19) (tf_ 10 26) HT_ ?_
   refine pn_ 10 (some 20) (tf_ 11 26) HT_ ?_
   refine pn_ 11 (some 21) (tf_ 12 26) HT_ ?_
   refine pn_ 12 (some 22) (tf_ 13 26) HT_ ?_
   refine pn_ 13 (some 23) (tf_ 14 26) HT_ ?_
   refine pn_ 14 (some 24) (tf_ 15 26) HT_ ?_
   refine pn_ 15 (some 25) (tf_ 16 26) HT_ ?_
   refine pn_ 16 (some 26) (tf_ 17 26) HT_ ?_
   refine pn_ 17 (some 27) (tf_ 18 26) HT_ ?_
   refine pn_ 18 (some 28) (tf_ 19 26) HT_ ?_
   refine pn_ 19 (some 29) (tf_ 20 26) HT_ ?_
   refine pn_ 20 (some 30) (tf_ 21 26) HT_ ?_
   refine pn_ 21 (some 31) (tf_ 22 26) HT_ ?_
   refine pn_ 22 (some 32) (tf_ 23 26) HT_ ?_
   refine pn_ 23 (some 33) (tf_ 24 26) HT_ ?_
   refine pn_ 24 (some 34) (tf_ 25 26) HT_ ?_
   refine pu_ 25 (some 35) (tf_ 26 26) HT_ ?_
   refine done_ (done_of HT_.out (by kernel_rfl)) ?_
   try go_wp2
   go_meet
   case rel => exact ⟨_, (true), el_, H', ⟨by first | omega | exact Nat.le_refl _⟩, ⟨pk_ BK229.out⟩, ⟨pk_ BK230.out⟩, ⟨pk_ BK231.out⟩, ⟨pb3_ HB.out GE229.out GE230.out GE231.out⟩⟩
  subst c8
  rw [if_pos rfl] at H
  replace H := Option.bind_eq_some_iff.mp H
  obtain ⟨t233, A110, H⟩ := H
  (try dsimp only at H)
  have A11 := Q_ A110
  clear A110
  by_cases c12 : t233 = true
  rotate_left
  ·replace c12 := bf_ c12
   subst c12
   rw [if_neg ff_] at H
   have H' := Q_ H
   clear H
   try go_wp2
   have _ := Q_ (blk_drew BK229.out)
   have _ := Q_ (blk_drew BK230.out)
   have _ := Q_ (blk_drew BK231.out)
   have _ := Q_ (below_drew1 HB.out)
   clear BK229 BK230 BK231 HB
   rename_i BK229 BK230 BK231 HB
   refine start_ (n := 26) (S := fun w' => w'.cell? ⟨gb229, 0, none⟩ = some (.int .i64 a0_0) ∧ w'.cell? ⟨gb229, 1, none⟩ = some (.slice A0_1 l0_1.length c0_1) ∧ w'.cell? ⟨gb229, 2, none⟩ = some (.slice A0_2 l0_2.length c0_2) ∧ w'.cell? ⟨gb229, 3, none⟩ = some (.bool a0_3) ∧ w'.cell? ⟨gb230, 0, none⟩ = some (.slice A1_0 l1_0.length c1_0) ∧ w'.cell? ⟨gb230, 1, none⟩ = some (.slice A1_1 l1_1.length c1_1)) (ds := []) (tf_ 0 26) (by kernel_rfl) rfl rfl ⟨(blk_cell BK229.out 0).trans rfl, (blk_cell BK229.out 1).trans rfl, (blk_cell BK229.out 2).trans rfl, (blk_cell BK229.out 3).trans rfl, (blk_cell BK230.out 0).trans rfl, (blk_cell BK230.out 1).trans rfl⟩ (fun hHeld => ?_); refine with_tabW spec_PassBox.tab1 spec_PassBox.bits1 (fun HT_ HW_ => ?_)
   generalize w6.drew = w13 at BK229 BK230 BK231 HB hHeld ⊢
   refine ta_ 0 (some 10) (tf_ 1 26) HT_ HW_ hHeld ?_
   refine on_ 1 (some 11) (tf_ 2 26) HT_ (fun K hK => ?_)
   refine goes_ Try.func98 (by kernel_rfl) rfl #[.agg #[.int .i64 a0_0, .slice A0_1 l0_1.length c0_1, .slice A0_2 l0_2.length c0_2, .bool a0_3]] (by rfl) rfl rfl mp_ ?_
   with_reducible refine (spec_IsBox.calls k a0_0 _ _ l0_1 _ _ l0_2 a0_3 true _ ?side1 ?side2 ?side3 ?side4 A7.out).mono ?_
   (case side1 => exact cb_ HR0_1 HB)
   (case side2 => exact HC0_1.out)
   (case side3 => exact cb_ HR0_2 HB)
   (case side4 => exact HC0_2.out)
   rintro e w14 ⟨rfl, hb⟩
   refine ⟨_, rfl, ?_⟩
   have _ := Q_ (bb_ BK229.out hb)
   have _ := Q_ (bb_ BK230.out hb)
   have _ := Q_ (bb_ BK231.out hb)
   have _ := Q_ (below_step (pb3_ HB.out GE229.out GE230.out GE231.out) hb)
   clear BK229 BK230 BK231 HB
   rename_i BK229 BK230 BK231 HB
   (try clear hb)
   (try clear hb2)
   (try clear hk)
   (try clear hi)
   refine hK.out _ _ ⟨(blk_cell BK229.out 0).trans rfl, (blk_cell BK229.out 1).trans rfl, (blk_cell BK229.out 2).trans rfl, (blk_cell BK229.out 3).trans rfl, (blk_cell BK230.out 0).trans rfl, (blk_cell BK230.out 1).trans rfl⟩ (fun hHeld => ?_)
   clear hK K
   refine no_ (some 11) ?_
   refine pu_ 2 (some 12) (tf_ 3 26) HT_ ?_
   refine pu_ 3 (some 13) (tf_ 4 26) HT_ ?_
   refine ta_ 4 (some 14) (tf_ 5 26) HT_ HW_ hHeld ?_
   refine on_ 5 (some 15) (tf_ 6 26) HT_ (fun K hK => ?_)
   refine goes_ Try.func59 (by kernel_rfl) rfl #[.agg #[.slice A1_0 l1_0.length c1_0, .slice A1_1 l1_1.length c1_1]] (by rfl) rfl rfl mp_ ?_
   with_reducible refine (spec_IsHello.calls k _ _ l1_0 _ _ l1_1 false _ ?side1 ?side2 ?side3 ?side4 A11.out).mono ?_
   (case side1 => exact cb_ HR1_0 HB)
   (case side2 => exact HC1_0.out)
   (case side3 => exact cb_ HR1_1 HB)
   (case side4 => exact HC1_1.out)
   rintro e w15 ⟨rfl, hb⟩
   refine ⟨_, rfl, ?_⟩
   have _ := Q_ (bb_ BK229.out hb)
   have _ := Q_ (bb_ BK230.out hb)
   have _ := Q_ (bb_ BK231.out hb)
   have _ := Q_ (below_step (pb3_ HB.out GE229.out GE230.out GE231.out) hb)
   clear BK229 BK230 BK231 HB
   rename_i BK229 BK230 BK231 HB
   (try clear hb)
   (try clear hb2)
   (try clear hk)
   (try clear hi)
   refine hK.out _ _ ⟨(blk_cell BK229.out 0).trans rfl, (blk_cell BK229.out 1).trans rfl, (blk_cell BK229.out 2).trans rfl, (blk_cell BK229.out 3).trans rfl, (blk_cell BK230.out 0).trans rfl, (blk_cell BK230.out 1).trans rfl⟩ (fun hHeld => ?_)
   clear hK K
   refine no_ (some 15) ?_
   refine pu_ 6 (some 16) (tf_ 7 26) HT_ ?_
   refine pu_ 7 (some 17) (tf_ 8 26) HT_ ?_
   refine pu_ 8 (some 18) (tf_ 9 26) HT_ ?_
   refine pn_ 9 (some 19) (tf_ 10 26) HT_ ?_
   refine pn_ 10 (some 20) (tf_ 11 26) HT_ ?_
   refine pn_ 11 (some 21) (tf_ 12 26) HT_ ?_
   refine pn_ 12 (some 22) (tf_ 13 26) HT_ ?_
   refine pn_ 13 (some 23) (tf_ 14 26) HT_ ?_
   refine pn_ 14 (some 24) (tf_ 15 26) HT_ ?_
   refine pn_ 15 (some 25) (tf_ 16 26) HT_ ?_
   refine pn_ 16 (some 26) (tf_ 17 26) HT_ ?_
   refine pn_ 17 (some 27) (tf_ 18 26) HT_ ?_
   refine pn_ 18 (some 28) (tf_ 19 26) HT_ ?_
   refine pn_ 19 (some 29) (tf_ 20 26) HT_ ?_
   refine pn_ 20 (some 30) (tf_ 21 26) HT_ ?_
   refine pn_ 21 (some 31) (tf_ 22 26) HT_ ?_
   refine pn_ 22 (some 32) (tf_ 23 26) HT_ ?_
   refine pn_ 23 (some 33) (tf_ 24 26) HT_ ?_
   refine pn_ 24 (some 34) (tf_ 25 26) HT_ ?_
   refine pu_ 25 (some 35) (tf_ 26 26) HT_ ?_
   refine done_ (done_of HT_.out (by kernel_rfl)) ?_
   try go_wp2
   go_meet
   case rel => exact ⟨_, (true), el_, H', ⟨by first | omega | exact Nat.le_refl _⟩, ⟨pk_ BK229.out⟩, ⟨pk_ BK230.out⟩, ⟨pk_ BK231.out⟩, ⟨pb3_ HB.out GE229.out GE230.out GE231.out⟩⟩
  subst c12
  rw [if_pos rfl] at H
  by_cases c16 : a0_0 > 0
  rotate_left
  ·rw [if_neg c16] at H
   have c16b0 : decide (0 < a0_0) = false := decide_eq_false c16
   clear c16
   (first | rw [c16b0] | (simp only [i64_w, i32_w]; rw [c16b0]) | skip)
   have H' := Q_ H
   clear H
   try go_wp2
   have _ := Q_ (blk_drew BK229.out)
   have _ := Q_ (blk_drew BK230.out)
   have _ := Q_ (blk_drew BK231.out)
   have _ := Q_ (below_drew1 HB.out)
   clear BK229 BK230 BK231 HB
   rename_i BK229 BK230 BK231 HB
   refine start_ (n := 26) (S := fun w' => w'.cell? ⟨gb229, 0, none⟩ = some (.int .i64 a0_0) ∧ w'.cell? ⟨gb229, 1, none⟩ = some (.slice A0_1 l0_1.length c0_1) ∧ w'.cell? ⟨gb229, 2, none⟩ = some (.slice A0_2 l0_2.length c0_2) ∧ w'.cell? ⟨gb229, 3, none⟩ = some (.bool a0_3) ∧ w'.cell? ⟨gb230, 0, none⟩ = some (.slice A1_0 l1_0.length c1_0) ∧ w'.cell? ⟨gb230, 1, none⟩ = some (.slice A1_1 l1_1.length c1_1)) (ds := []) (tf_ 0 26) (by kernel_rfl) rfl rfl ⟨(blk_cell BK229.out 0).trans rfl, (blk_cell BK229.out 1).trans rfl, (blk_cell BK229.out 2).trans rfl, (blk_cell BK229.out 3).trans rfl, (blk_cell BK230.out 0).trans rfl, (blk_cell BK230.out 1).trans rfl⟩ (fun hHeld => ?_); refine with_tabW spec_PassBox.tab1 spec_PassBox.bits1 (fun HT_ HW_ => ?_)
   generalize w6.drew = w17 at BK229 BK230 BK231 HB hHeld ⊢
   refine ta_ 0 (some 10) (tf_ 1 26) HT_ HW_ hHeld ?_
   refine on_ 1 (some 11) (tf_ 2 26) HT_ (fun K hK => ?_)
   refine goes_ Try.func98 (by kernel_rfl) rfl #[.agg #[.int .i64 a0_0, .slice A0_1 l0_1.length c0_1, .slice A0_2 l0_2.length c0_2, .bool a0_3]] (by rfl) rfl rfl mp_ ?_
   with_reducible refine (spec_IsBox.calls k a0_0 _ _ l0_1 _ _ l0_2 a0_3 true _ ?side1 ?side2 ?side3 ?side4 A7.out).mono ?_
   (case side1 => exact cb_ HR0_1 HB)
   (case side2 => exact HC0_1.out)
   (case side3 => exact cb_ HR0_2 HB)
   (case side4 => exact HC0_2.out)
   rintro e w18 ⟨rfl, hb⟩
   refine ⟨_, rfl, ?_⟩
   have _ := Q_ (bb_ BK229.out hb)
   have _ := Q_ (bb_ BK230.out hb)
   have _ := Q_ (bb_ BK231.out hb)
   have _ := Q_ (below_step (pb3_ HB.out GE229.out GE230.out GE231.out) hb)
   clear BK229 BK230 BK231 HB
   rename_i BK229 BK230 BK231 HB
   (try clear hb)
   (try clear hb2)
   (try clear hk)
   (try clear hi)
   refine hK.out _ _ ⟨(blk_cell BK229.out 0).trans rfl, (blk_cell BK229.out 1).trans rfl, (blk_cell BK229.out 2).trans rfl, (blk_cell BK229.out 3).trans rfl, (blk_cell BK230.out 0).trans rfl, (blk_cell BK230.out 1).trans rfl⟩ (fun hHeld => ?_)
   clear hK K
   refine no_ (some 11) ?_
   refine pu_ 2 (some 12) (tf_ 3 26) HT_ ?_
   refine pu_ 3 (some 13) (tf_ 4 26) HT_ ?_
   refine ta_ 4 (some 14) (tf_ 5 26) HT_ HW_ hHeld ?_
   refine on_ 5 (some 15) (tf_ 6 26) HT_ (fun K hK => ?_)
   refine goes_ Try.func59 (by kernel_rfl) rfl #[.agg #[.slice A1_0 l1_0.length c1_0, .slice A1_1 l1_1.length c1_1]] (by rfl) rfl rfl mp_ ?_
   with_reducible refine (spec_IsHello.calls k _ _ l1_0 _ _ l1_1 true _ ?side1 ?side2 ?side3 ?side4 A11.out).mono ?_
   (case side1 => exact cb_ HR1_0 HB)
   (case side2 => exact HC1_0.out)
   (case side3 => exact cb_ HR1_1 HB)
   (case side4 => exact HC1_1.out)
   rintro e w19 ⟨rfl, hb⟩
   refine ⟨_, rfl, ?_⟩
   have _ := Q_ (bb_ BK229.out hb)
   have _ := Q_ (bb_ BK230.out hb)
   have _ := Q_ (bb_ BK231.out hb)
   have _ := Q_ (below_step (pb3_ HB.out GE229.out GE230.out GE231.out) hb)
   clear BK229 BK230 BK231 HB
   rename_i BK229 BK230 BK231 HB
   (try clear hb)
   (try clear hb2)
   (try clear hk)
   (try clear hi)
   refine hK.out _ _ ⟨(blk_cell BK229.out 0).trans rfl, (blk_cell BK229.out 1).trans rfl, (blk_cell BK229.out 2).trans rfl, (blk_cell BK229.out 3).trans rfl, (blk_cell BK230.out 0).trans rfl, (blk_cell BK230.out 1).trans rfl⟩ (fun hHeld => ?_)
   clear hK K
   refine no_ (some 15) ?_
   refine pu_ 6 (some 16) (tf_ 7 26) HT_ ?_
   refine pu_ 7 (some 17) (tf_ 8 26) HT_ ?_
   refine pu_ 8 (some 18) (tf_ 9 26) HT_ ?_
   refine pu_ 9 (some 19) (tf_ 10 26) HT_ ?_
   refine ta_ 10 (some 20) (tf_ 11 26) HT_ HW_ hHeld ?_
   refine pu_ 11 (some 21) (tf_ 12 26) HT_ ?_
   refine pu_ 12 (some 22) (tf_ 13 26) HT_ ?_
   refine pn_ 13 (some 23) (tf_ 14 26) HT_ ?_
   refine pn_ 14 (some 24) (tf_ 15 26) HT_ ?_
   refine pn_ 15 (some 25) (tf_ 16 26) HT_ ?_
   refine pn_ 16 (some 26) (tf_ 17 26) HT_ ?_
   refine pn_ 17 (some 27) (tf_ 18 26) HT_ ?_
   refine pn_ 18 (some 28) (tf_ 19 26) HT_ ?_
   refine pn_ 19 (some 29) (tf_ 20 26) HT_ ?_
   refine pn_ 20 (some 30) (tf_ 21 26) HT_ ?_
   refine pn_ 21 (some 31) (tf_ 22 26) HT_ ?_
   refine pn_ 22 (some 32) (tf_ 23 26) HT_ ?_
   refine pn_ 23 (some 33) (tf_ 24 26) HT_ ?_
   refine pu_ 24 (some 34) (tf_ 25 26) HT_ ?_
   refine pu_ 25 (some 35) (tf_ 26 26) HT_ ?_
   refine done_ (done_of HT_.out (by kernel_rfl)) ?_
   try go_wp2
   go_meet
   case rel => exact ⟨_, (false), el_, H', ⟨by first | omega | exact Nat.le_refl _⟩, ⟨pk_ BK229.out⟩, ⟨pk_ BK230.out⟩, ⟨pk_ BK231.out⟩, ⟨pb3_ HB.out GE229.out GE230.out GE231.out⟩⟩
  rw [if_pos c16] at H
  have c16b0 : decide (0 < a0_0) = true := decide_eq_true c16
  clear c16
  (first | rw [c16b0] | (simp only [i64_w, i32_w]; rw [c16b0]) | skip)
  obtain ⟨ji20, hji20⟩ : ∃ j_ : Int, (wrap64 ((l1_0.length : Int) - 1)) = j_ := ⟨_, rfl⟩
  replace H : (if 0 ≤ (ji20) then (if (ji20) < (l1_0.length : Int) then (spec_PassBox.j0 k (decide ((rd l1_0 (ji20)) > a0_0)) a0_0 l0_1 l0_2 a0_3 l1_0 l1_1) else (none)) else (none)) = some (r1, r2, r3) := by first | (rw [hji20] at H; exact H) | (simp only [hji20] at H ⊢; exact H)
  (try rw [hji20] at A7)
  (try rw [hji20] at A11)
  have hji20w : (IntKind.i64.wrap ((l1_0.length : Int) - 1)) = ji20 := (i64_w _).trans hji20
  by_cases c21 : 0 ≤ (ji20)
  rotate_left
  ·rw [if_neg c21] at H
   exact absurd H (by simp)
  rw [if_pos c21] at H
  have c21b0 : decide (0 ≤ (ji20)) = true := decide_eq_true c21
  clear c21
  by_cases c22 : (ji20) < (l1_0.length : Int)
  rotate_left
  ·rw [if_neg c22] at H
   exact absurd H (by simp)
  rw [if_pos c22] at H
  have c22b0 : decide ((ji20) < (l1_0.length : Int)) = true := decide_eq_true c22
  clear c22
  have H' := Q_ H
  clear H
  try go_wp2
  have _ := Q_ (blk_drew BK229.out)
  have _ := Q_ (blk_drew BK230.out)
  have _ := Q_ (blk_drew BK231.out)
  have _ := Q_ (below_drew1 HB.out)
  clear BK229 BK230 BK231 HB
  rename_i BK229 BK230 BK231 HB
  have p234 : 0 ≤ ((ji20) : Int) := dt_
  have q234 : (ji20) < (l1_0.length : Int) := dt_
  obtain ⟨ad234, e234, hx234_0⟩ := Kd.at_int HR1_0.out (ji20) p234 q234
  have hw234_0 := hx234_0
  cases e234
  replace hx234_0 := bt_ HB hx234_0
  replace p234 := eq_true p234
  replace q234 := eq_true q234
  refine start_ (n := 26) (S := fun w' => w'.cell? ⟨gb229, 0, none⟩ = some (.int .i64 a0_0) ∧ w'.cell? ⟨gb229, 1, none⟩ = some (.slice A0_1 l0_1.length c0_1) ∧ w'.cell? ⟨gb229, 2, none⟩ = some (.slice A0_2 l0_2.length c0_2) ∧ w'.cell? ⟨gb229, 3, none⟩ = some (.bool a0_3) ∧ w'.cell? ⟨gb230, 0, none⟩ = some (.slice (some ad234) l1_0.length c1_0) ∧ w'.cell? ⟨gb230, 1, none⟩ = some (.slice A1_1 l1_1.length c1_1) ∧ w'.cell? (ad234.add ((ji20)).toNat) = some (.int .i64 (rd l1_0 (ji20)))) (ds := []) (tf_ 0 26) (by kernel_rfl) rfl rfl ⟨(blk_cell BK229.out 0).trans rfl, (blk_cell BK229.out 1).trans rfl, (blk_cell BK229.out 2).trans rfl, (blk_cell BK229.out 3).trans rfl, (blk_cell BK230.out 0).trans rfl, (blk_cell BK230.out 1).trans rfl, (bt_ HB hw234_0)⟩ (fun hHeld => ?_); refine with_tabW spec_PassBox.tab1 spec_PassBox.bits1 (fun HT_ HW_ => ?_)
  generalize w6.drew = w23 at BK229 BK230 BK231 HB hx234_0 hHeld ⊢
  refine ta_ 0 (some 10) (tf_ 1 26) HT_ HW_ hHeld ?_
  refine on_ 1 (some 11) (tf_ 2 26) HT_ (fun K hK => ?_)
  refine goes_ Try.func98 (by kernel_rfl) rfl #[.agg #[.int .i64 a0_0, .slice A0_1 l0_1.length c0_1, .slice A0_2 l0_2.length c0_2, .bool a0_3]] (by rfl) rfl rfl mp_ ?_
  with_reducible refine (spec_IsBox.calls k a0_0 _ _ l0_1 _ _ l0_2 a0_3 true _ ?side1 ?side2 ?side3 ?side4 A7.out).mono ?_
  (case side1 => exact cb_ HR0_1 HB)
  (case side2 => exact HC0_1.out)
  (case side3 => exact cb_ HR0_2 HB)
  (case side4 => exact HC0_2.out)
  rintro e w24 ⟨rfl, hb⟩
  refine ⟨_, rfl, ?_⟩
  have _ := Q_ (bb_ BK229.out hb)
  have _ := Q_ (bb_ BK230.out hb)
  have _ := Q_ (bb_ BK231.out hb)
  have _ := Q_ (below_step (pb3_ HB.out GE229.out GE230.out GE231.out) hb)
  clear BK229 BK230 BK231 HB
  rename_i BK229 BK230 BK231 HB
  (try clear hb)
  (try clear hb2)
  (try clear hk)
  (try clear hi)
  refine hK.out _ _ ⟨(blk_cell BK229.out 0).trans rfl, (blk_cell BK229.out 1).trans rfl, (blk_cell BK229.out 2).trans rfl, (blk_cell BK229.out 3).trans rfl, (blk_cell BK230.out 0).trans rfl, (blk_cell BK230.out 1).trans rfl, (bt_ HB hw234_0)⟩ (fun hHeld => ?_)
  clear hK K
  refine no_ (some 11) ?_
  refine pu_ 2 (some 12) (tf_ 3 26) HT_ ?_
  refine pu_ 3 (some 13) (tf_ 4 26) HT_ ?_
  refine ta_ 4 (some 14) (tf_ 5 26) HT_ HW_ hHeld ?_
  refine on_ 5 (some 15) (tf_ 6 26) HT_ (fun K hK => ?_)
  refine goes_ Try.func59 (by kernel_rfl) rfl #[.agg #[.slice (some ad234) l1_0.length c1_0, .slice A1_1 l1_1.length c1_1]] (by rfl) rfl rfl mp_ ?_
  with_reducible refine (spec_IsHello.calls k _ _ l1_0 _ _ l1_1 true _ ?side1 ?side2 ?side3 ?side4 A11.out).mono ?_
  (case side1 => exact cb_ HR1_0 HB)
  (case side2 => exact HC1_0.out)
  (case side3 => exact cb_ HR1_1 HB)
  (case side4 => exact HC1_1.out)
  rintro e w25 ⟨rfl, hb⟩
  refine ⟨_, rfl, ?_⟩
  have _ := Q_ (bb_ BK229.out hb)
  have _ := Q_ (bb_ BK230.out hb)
  have _ := Q_ (bb_ BK231.out hb)
  have _ := Q_ (below_step (pb3_ HB.out GE229.out GE230.out GE231.out) hb)
  clear BK229 BK230 BK231 HB
  rename_i BK229 BK230 BK231 HB
  (try clear hb)
  (try clear hb2)
  (try clear hk)
  (try clear hi)
  refine hK.out _ _ ⟨(blk_cell BK229.out 0).trans rfl, (blk_cell BK229.out 1).trans rfl, (blk_cell BK229.out 2).trans rfl, (blk_cell BK229.out 3).trans rfl, (blk_cell BK230.out 0).trans rfl, (blk_cell BK230.out 1).trans rfl, (bt_ HB hw234_0)⟩ (fun hHeld => ?_)
  clear hK K
  refine no_ (some 15) ?_
  refine pu_ 6 (some 16) (tf_ 7 26) HT_ ?_
  refine pu_ 7 (some 17) (tf_ 8 26) HT_ ?_
  refine pu_ 8 (some 18) (tf_ 9 26) HT_ ?_
  refine pu_ 9 (some 19) (tf_ 10 26) HT_ ?_
  refine ta_ 10 (some 20) (tf_ 11 26) HT_ HW_ hHeld ?_
  refine pu_ 11 (some 21) (tf_ 12 26) HT_ ?_
  refine pu_ 12 (some 22) (tf_ 13 26) HT_ ?_
  refine pu_ 13 (some 23) (tf_ 14 26) HT_ ?_
  refine pu_ 15 (some 25) (tm_ 26 49151) HT_ ?_
  refine pu_ 21 (some 31) (tm_ 26 2146303) HT_ ?_
  refine ta_ 14 (some 24) (tm_ 26 2162687) HT_ HW_ hHeld ?_
  refine ta_ 16 (some 26) (tm_ 26 2228223) HT_ HW_ hHeld ?_
  refine pu_ 17 (some 27) (tm_ 26 2359295) HT_ ?_
  refine pu_ 18 (some 28) (tm_ 26 2621439) HT_ ?_
  refine pu_ 19 (some 29) (tm_ 26 3145727) HT_ ?_
  refine ta_ 20 (some 30) (tf_ 22 26) HT_ HW_ hHeld ?_
  refine ta_ 22 (some 32) (tf_ 23 26) HT_ HW_ hHeld ?_
  refine pu_ 23 (some 33) (tf_ 24 26) HT_ ?_
  refine pu_ 24 (some 34) (tf_ 25 26) HT_ ?_
  refine pu_ 25 (some 35) (tf_ 26 26) HT_ ?_
  refine done_ (done_of HT_.out (by kernel_rfl)) ?_
  try go_wp2
  go_meet
  case rel => exact ⟨_, (decide ((rd l1_0 (ji20)) > a0_0)), (by first | rfl | (simp; done) | (simp only [← hji20] <;> (first | rfl | simp)) | (simp [*]; done)), H', ⟨by first | omega | exact Nat.le_refl _⟩, ⟨pk_ BK229.out⟩, ⟨pk_ BK230.out⟩, ⟨pk_ BK231.out⟩, ⟨pb3_ HB.out GE229.out GE230.out GE231.out⟩⟩
 clear HC3
 try clear c1
 try clear c2
 try clear p2
 try clear q2
 try clear hx2
 try clear c5
 try clear p6
 try clear c9
 try clear c12
 try clear c16
 try clear c16b0
 try clear c21
 try clear c21b0
 try clear c22
 try clear c22b0
 try clear p23
 try clear q23
 try clear hx23
 try clear hx234_0
 try clear p234
 try clear q234
 obtain ⟨kq, x35_2, rfl, HA, HJ2, BK229, BK230, BK231, HB⟩ := hcut
 rcases kq with _ | kj2
 ·exact absurd HA.out (by simp [spec_PassBox.j0])
 have H := HA.out
 clear HA
 simp only [spec_PassBox.j0] at H
 by_cases c26 : x35_2 = true
 ·subst c26
  rw [if_pos rfl] at H
  simp only [Option.some.injEq, Prod.mk.injEq] at H
  obtain ⟨rfl, rfl, rfl⟩ := H
  have hnb27 := NB231_229.out
  have hnc27 := NB229_231.out
  have hnb28 := NB231_230.out
  have hnc28 := NB230_231.out
  have hcz29 := bc2_ BK231.out
  go_wp2
  refine bodyPost_ret (results_ct rfl _ _ gb231 71 #[.slice none 0 0, .slice none 0 0] (0, 0) _ rfl (pp_ BK231.out) Try.underlying71 rfl (by kernel_rfl)) rfl ?_
  exact ⟨_, _, er_, by first | exact Kd.R_nil _ _ _ _ _ | exact Kd.N_nil _ _ _ _ _ | exact Kd.V_nil _ _ _ _ _ | exact Kd.Q_nil _ _ _ _ _ | exact Kd.S_nil _ _ _ _ _, by first | exact Kd.S_nil _ _ _ _ _ | exact Kd.N_nil _ _ _ _ _ | exact Kd.V_nil _ _ _ _ _ | exact Kd.Q_nil _ _ _ _ _ | exact Kd.R_nil _ _ _ _ _, pb3_ HB.out GE229.out GE230.out GE231.out⟩
 replace c26 := bf_ c26
 subst c26
 rw [if_neg ff_] at H
 obtain ⟨y235, hy235⟩ : ∃ y_ : List Int, y_ = (([] : List Int)) := ⟨_, rfl⟩
 replace H : (if y235.length + l1_0.length < 17592186044416 then (spec_PassBox.l0 kj2 0 a0_0 l0_1 l0_2 a0_3 l1_0 l1_1 (y235 ++ l1_0) ([] : List (S113))) else (none)) = some (r1, r2, r3) := hb_ hy235 H
 have Ny235 := Q_ hy235
 clear hy235
 by_cases c30 : y235.length + l1_0.length < 17592186044416
 rotate_left
 ·rw [if_neg c30] at H
  exact absurd H (by simp)
 rw [if_pos c30] at H
 have LMc30 := Q_ c30
 clear c30
 obtain ⟨y238, hy238⟩ : ∃ y_ : List Int, y_ = (y235 ++ l1_0) := ⟨_, rfl⟩
 replace H : (spec_PassBox.l0 kj2 0 a0_0 l0_1 l0_2 a0_3 l1_0 l1_1 y238 ([] : List (S113))) = some (r1, r2, r3) := hb_ hy238 H
 have Ny238 := Q_ hy238
 clear hy238
 have H' := Q_ H
 clear H
 go_wp2_with (first | ((with_reducible refine gate_dst (N := 37) rfl ?_); (try (refine gate_guard (by rfl) ?_; dsimp only)); refine Kd.R_lit (Kd.int .i64) _ 3 ?hg (N := 37) ?hd (xs := ([] : List Int)) (inner := []) (ok := fun _ => True) (okp := fun _ => True) ?hr ?hp (fun _ hk => hk) trivial (Below.refl _ _) (Nat.le_refl _) (by simp) ?_; (case hd => rfl); (case hg => rfl); (case hr => first | (go_simp; done) | (go_simp; rfl)); (case hp => exact (Reps.none _ _)); intro v236 w31 ho32 hb hg_ hnew_; clear hg_ hnew_; (first | rw [← Ny235.out] at ho32 | (simp only [Int.reduceToNat] at ho32; rw [← Ny235.out] at ho32)); have _ := Q_ (Kd.R_lower ho32 (below_size (pb3_ HB.out GE229.out GE230.out GE231.out))); have _ := Q_ (bb_ BK229.out hb); have _ := Q_ (bb_ BK230.out hb); have _ := Q_ (bb_ BK231.out hb); have _ := Q_ (below_step (pb3_ HB.out GE229.out GE230.out GE231.out) hb); clear BK229 BK230 BK231 HB; rename_i HO237 BK229 BK230 BK231 HB; clear hb ho32; have hnb33 := NB230_229.out; have hnc33 := NB229_230.out; have hnb34 := NB230_231.out; have hnc34 := NB231_230.out; have hcz35 := bc2_ BK230.out) | ((with_reducible refine gate_builtin (b := .append) (xs := #[.tmp 37, .tmp 39]) rfl ?_); (try (refine gate_guard (by rfl) ?_; dsimp only)); at_builtin; refine Kd.R_append_rows (Kd.int .i64) (w0 := w) w.heap.size rfl (.tmp 37) (.tmp 39) 25 3 (.int .i64 0) 8 rfl Try.underlying25 info3 rfl (by decide) (by omega) v236 y235 l1_0 _ _ _ (fun _ => True) (fun _ => False) rfl rfl ?aO ?aR (fun _ _ h => h) (fun _ h => h.elim) ?aF ?aB ?aS ?aL ?_; (case aR => exact cb_ HR1_0 HB); (case aB => exact (pb3_ HB.out GE229.out GE230.out GE231.out)); (case aF => exact (fun _ _ => trivial)); (case aO => exact (pr_ HO237.out)); (case aS => exact (below_size (pb3_ HB.out GE229.out GE230.out GE231.out))); (case aL => have := LMc30.out; omega); intro v239 w36 ho hb hg hat; rw [← Ny238.out] at ho; have _ := Q_ (blk_grown (g := gb229) (o := .cells #[.int .i64 a0_0, .slice A0_1 l0_1.length c0_1, .slice A0_2 l0_2.length c0_2, .bool a0_3] 89 (0, 0)) (pk_ BK229.out) hg (Kd.R_ne HO237.out BK229.out (by decide))); have _ := Q_ (blk_grown (g := gb230) (o := .cells #[.slice A1_0 l1_0.length c1_0, .slice A1_1 l1_1.length c1_1] 71 (0, 0)) (pk_ BK230.out) hg (Kd.R_ne HO237.out BK230.out (by decide))); have _ := Q_ (blk_grown (g := gb231) (o := .cells #[.slice none 0 0, .slice none 0 0] 71 (0, 0)) (pk_ BK231.out) hg (Kd.R_ne HO237.out BK231.out (by decide))); have _ := Q_ (hb); have _ := Q_ (ho); clear BK229 BK230 BK231 HB HO237; rename_i BK229 BK230 BK231 HB HO240; clear ho hb hg hat; obtain ⟨Ao37, co37, eo37⟩ := Kd.R_slice HO240.out; subst eo37) | ((with_reducible refine gate_dst (N := 6) rfl ?_); (try (refine gate_guard (by rfl) ?_; dsimp only)); refine box_event ?hg (N := 6) ?hd (cs := #[.slice none 0 0, .slice none 0 0]) (t := 71) ?hr ?_; (case hd => rfl); (case hg => rfl); (case hr => first | (go_simp; done) | (go_simp; rfl)); intro gb241 hg w38 hbox hb; have _ := Q_ (Kd.R_below (pr_ HO240.out) hb); have _ := Q_ (bb_ BK229.out hb); have _ := Q_ (bb_ BK230.out hb); have _ := Q_ (bb_ BK231.out hb); have _ := Q_ (below_step (pb3_ HB.out GE229.out GE230.out GE231.out) hb); have BK241 := Q_ (hbox); have GW241 := Q_ ((by rw [hg]; exact (below_size (pb3_ HB.out GE229.out GE230.out GE231.out)) : w.heap.size ≤ gb241)); have GE241 := GW241; have NB229_241 := Q_ ((by rw [hg]; exact Nat.ne_of_lt (blk_lt (pk_ BK229.out)) : gb229 ≠ gb241)); have NB241_229 := Q_ NB229_241.out.symm; have NB230_241 := Q_ ((by rw [hg]; exact Nat.ne_of_lt (blk_lt (pk_ BK230.out)) : gb230 ≠ gb241)); have NB241_230 := Q_ NB230_241.out.symm; have NB231_241 := Q_ ((by rw [hg]; exact Nat.ne_of_lt (blk_lt (pk_ BK231.out)) : gb231 ≠ gb241)); have NB241_231 := Q_ NB231_241.out.symm; clear HO240 BK229 BK230 BK231 HB; rename_i HO240 BK229 BK230 BK231 HB; clear hb hbox hg; have hnb39 := NB241_229.out; have hnc39 := NB229_241.out; have hnb40 := NB241_230.out; have hnc40 := NB230_241.out; have hnb41 := NB241_231.out; have hnc41 := NB231_241.out; have hcz42 := bc2_ BK241.out))
 (try simp only [Act.put, List.setIfInBounds_toArray, List.set_cons_zero, List.set_cons_succ])
 go_loopg [7] kj2 (fun kq v7 w' => ∃ (x7_2 : Int) (x242001_2 : List (S113)) (u242001 : Value), v7 = .int .i64 x7_2 ∧ Aside0 (spec_PassBox.l0 kq x7_2 a0_0 l0_1 l0_2 a0_3 l1_0 l1_1 y238 x242001_2 = some (r1, r2, r3)) ∧ Aside0 (kq ≤ kj2) ∧ Aside0 (Kd.R (Kd.int .i64) 3 w' w.heap.size (fun _ => True) (.slice Ao37 y238.length co37) y238) ∧ Aside0 (Kd.S k113 113 w' w.heap.size (fun k_ => some k_ ≠ ((.slice Ao37 y238.length co37) : Value).ownBlock) u242001 x242001_2) ∧ Aside0 (w'.heap[gb229]? = some (.cells #[.int .i64 a0_0, (.slice A0_1 l0_1.length c0_1), (.slice A0_2 l0_2.length c0_2), .bool a0_3] 89 (0, 0))) ∧ Aside0 (w'.heap[gb230]? = some (.cells #[(.slice A1_0 l1_0.length c1_0), (.slice A1_1 l1_1.length c1_1)] 71 (0, 0))) ∧ Aside0 (w'.heap[gb231]? = some (.cells #[(.slice none 0 0), (.slice none 0 0)] 71 (0, 0))) ∧ Aside0 (w'.heap[gb241]? = some (.cells #[(.slice Ao37 y238.length co37), u242001] 71 (0, 0))) ∧ Aside0 (Below w.heap.size w w'))
 case atStart => exact ⟨(0), (([] : List (S113))), (.slice none 0 0), el_, H', ⟨Nat.le_refl _⟩, ⟨pr_ (Kd.R_mono (rf2_ HO240.out BK241.out) (fun _ hk => trivial))⟩, ⟨by first | exact Kd.S_nil _ _ _ _ _ | exact Kd.N_nil _ _ _ _ _ | exact Kd.V_nil _ _ _ _ _ | exact Kd.Q_nil _ _ _ _ _ | exact Kd.R_nil _ _ _ _ _⟩, ⟨pp_ BK229.out⟩, ⟨pp_ BK230.out⟩, ⟨pp_ BK231.out⟩, ⟨pp_ BK241.out⟩, ⟨pb4_ HB.out GE229.out GE230.out GE231.out GE241.out⟩⟩
 clear H'
 try clear c1
 try clear c2
 try clear p2
 try clear q2
 try clear hx2
 try clear c3
 try clear c4
 try clear c5
 try clear p6
 try clear c9
 try clear c12
 try clear c16
 try clear c16b0
 try clear c21
 try clear c21b0
 try clear c22
 try clear c22b0
 try clear p23
 try clear q23
 try clear hx23
 try clear c26
 try clear c27
 try clear c28
 try clear c30
 try clear c33
 try clear c34
 try clear c39
 try clear c40
 try clear c41
 try clear hcz29
 try clear hcz35
 try clear hcz42
 try clear hx234_0
 try clear p2
 try clear p23
 try clear p234
 try clear p6
 try clear q2
 try clear q23
 try clear q234
 obtain ⟨x7_2, x242001_2, u242001, rfl, HA, HK2, HO_242000, HO_242001, BK229, BK230, BK231, BK241, HB⟩ := hrel
 rcases gk with _ | k2
 ·exact absurd HA.out (by simp [spec_PassBox.l0])
 have H := HA.out
 clear HA
 simp only [spec_PassBox.l0] at H
 by_cases c43 : x7_2 < (l1_1.length : Int)
 rotate_left
 ·rw [if_neg c43] at H
  have c43b0 : decide (x7_2 < (l1_1.length : Int)) = false := decide_eq_false c43
  clear c43
  simp only [Option.some.injEq, Prod.mk.injEq] at H
  obtain ⟨rfl, rfl, rfl⟩ := H
  have hnb44 := NB230_229.out
  have hnc44 := NB229_230.out
  have hnb45 := NB230_231.out
  have hnc45 := NB231_230.out
  have hnb46 := NB230_241.out
  have hnc46 := NB241_230.out
  have hcz47 := bc2_ BK230.out
  have hnb48 := NB241_229.out
  have hnc48 := NB229_241.out
  have hnb49 := NB241_231.out
  have hnc49 := NB231_241.out
  have hcz50 := bc2_ BK241.out
  have hnb51 := NB231_229.out
  have hnc51 := NB229_231.out
  have hcz52 := bc2_ BK231.out
  obtain ⟨Ao53, co53, eo53⟩ := Kd.S_slice HO_242001.out
  subst eo53
  go_wp2
  refine bodyPost_ret (results_ct rfl _ _ gb231 71 #[.slice Ao37 y238.length co37, .slice Ao53 x242001_2.length co53] (0, 0) _ rfl (pp_ BK231.out) Try.underlying71 rfl (by kernel_rfl)) rfl ?_
  exact ⟨_, _, er_, pr_ (Kd.R_mono (rf2_ HO_242000.out BK231.out) (fun _ hk => trivial)), ps_ (sf2_ HO_242001.out BK231.out), pb4_ HB.out GE229.out GE230.out GE231.out GE241.out⟩
 rw [if_pos c43] at H
 have c43b0 : decide (x7_2 < (l1_1.length : Int)) = true := decide_eq_true c43
 clear c43
 by_cases c54 : 0 ≤ x7_2
 rotate_left
 ·rw [if_neg c54] at H
  exact absurd H (by simp)
 rw [if_pos c54] at H
 have c54b0 : decide (0 ≤ x7_2) = true := decide_eq_true c54
 clear c54
 replace H := Option.bind_eq_some_iff.mp H
 obtain ⟨t243, A550, H⟩ := H
 (try dsimp only at H)
 have A55 := Q_ A550
 clear A550
 have HC56 := Q_ H
 clear H
 have hnb57 := NB230_229.out
 have hnc57 := NB229_230.out
 have hnb58 := NB230_231.out
 have hnc58 := NB231_230.out
 have hnb59 := NB230_241.out
 have hnc59 := NB241_230.out
 have hcz60 := bc2_ BK230.out
 have p242 : 0 ≤ (x7_2 : Int) := dt_
 have q242 : x7_2 < (l1_1.length : Int) := dt_
 obtain ⟨ad242, A242_1, c242_1, e242, hx242_0, hx242_1, hl242_1, hi242_1⟩ := at_T113 HR1_1.out x7_2 p242 q242
 cases e242
 replace hx242_0 := bt_ HB hx242_0
 replace hx242_1 := bt_ HB hx242_1
 have HR242_1 := Q_ hi242_1
 have HC242_1 := Q_ hl242_1
 clear hi242_1 hl242_1
 replace p242 := eq_true p242
 replace q242 := eq_true q242
 have hnb61 := NB229_231.out
 have hnc61 := NB231_229.out
 have hnb62 := NB229_241.out
 have hnc62 := NB241_229.out
 have hcz63 := bc4_ BK229.out
 go_upto_region 9 with (first | ((with_reducible refine gate_callee (f := 74) rfl ?_); refine gl_ (some 58) Try.func74 #[.slice A0_2 l0_2.length c0_2, .int .i64 ((rd_T113 l1_1 x7_2).f0)] ?_; (with_reducible refine (spec_l9Has.calls k2 _ _ l0_2 ((rd_T113 l1_1 x7_2).f0) t243 _ ?side1 ?side2 A55.out).mono ?_); (case side1 => exact cb_ HR0_2 HB); (case side2 => exact HC0_2.out); rintro e w' ⟨rfl, ⟨nd, rfl⟩⟩; refine ⟨_, rfl, ?_⟩))
 (try simp only [Act.put, List.setIfInBounds_toArray, List.set_cons_zero, List.set_cons_succ])
 go_cut [75] (fun v75 wc => ∃ (kq : Nat) (x75_55 : Bool), v75 = .bool x75_55 ∧ Aside0 (spec_PassBox.j2 kq x7_2 ((rd_T113 l1_1 x7_2).f0) t243 x75_55 a0_0 l0_1 l0_2 a0_3 l1_0 l1_1 y238 x242001_2 = some (r1, r2, r3)) ∧ Aside0 (kq ≤ k2) ∧ Aside0 (Kd.R (Kd.int .i64) 3 wc w.heap.size (fun _ => True) (.slice Ao37 y238.length co37) y238) ∧ Aside0 (Kd.S k113 113 wc w.heap.size (fun k_ => some k_ ≠ ((.slice Ao37 y238.length co37) : Value).ownBlock) u242001 x242001_2) ∧ Aside0 (wc.heap[gb229]? = some (.cells #[.int .i64 a0_0, (.slice A0_1 l0_1.length c0_1), (.slice A0_2 l0_2.length c0_2), .bool a0_3] 89 (0, 0))) ∧ Aside0 (wc.heap[gb230]? = some (.cells #[(.slice A1_0 l1_0.length c1_0), (.slice (some ad242) l1_1.length c1_1)] 71 (0, 0))) ∧ Aside0 (wc.heap[gb231]? = some (.cells #[(.slice none 0 0), (.slice none 0 0)] 71 (0, 0))) ∧ Aside0 (wc.heap[gb241]? = some (.cells #[(.slice Ao37 y238.length co37), u242001] 71 (0, 0))) ∧ Aside0 (Below w.heap.size w wc))
 case first =>
  have H := HC56.out
  clear HC56
  replace H := Option.bind_eq_some_iff.mp H
  obtain ⟨t244, A640, H⟩ := H
  (try dsimp only at H)
  have A64 := Q_ A640
  clear A640
  by_cases c65 : t244 = true
  ·subst c65
   rw [if_pos rfl] at H
   have H' := Q_ H
   clear H
   have hnb66 := NB229_230.out
   have hnc66 := NB230_229.out
   have hnb67 := NB229_231.out
   have hnc67 := NB231_229.out
   have hnb68 := NB229_241.out
   have hnc68 := NB241_229.out
   have hcz69 := bc4_ BK229.out
   go_wp2_with (first | ((with_reducible refine gate_callee (f := 74) rfl ?_); refine gl_ (some 62) Try.func74 #[.slice A0_1 l0_1.length c0_1, .int .i64 ((rd_T113 l1_1 x7_2).f0)] ?_; (with_reducible refine (spec_l9Has.calls k2 _ _ l0_1 ((rd_T113 l1_1 x7_2).f0) true _ ?side1 ?side2 A64.out).mono ?_); (case side1 => exact cb_ HR0_1 HB); (case side2 => exact HC0_1.out); rintro e w' ⟨rfl, ⟨nd, rfl⟩⟩; refine ⟨_, rfl, ?_⟩))
   go_meet
   case rel => exact ⟨_, (true), el_, H', ⟨by have := HJ2.out; have := HK2.out; first | omega | exact Nat.le_refl _⟩, ⟨pr_ HO_242000.out⟩, ⟨ps_ HO_242001.out⟩, ⟨pk_ BK229.out⟩, ⟨pk_ BK230.out⟩, ⟨pk_ BK231.out⟩, ⟨pk_ BK241.out⟩, ⟨pb4_ HB.out GE229.out GE230.out GE231.out GE241.out⟩⟩
  replace c65 := bf_ c65
  subst c65
  rw [if_neg ff_] at H
  by_cases c70 : a0_3 = true
  rotate_left
  ·replace c70 := bf_ c70
   subst c70
   rw [if_neg ff_] at H
   have H' := Q_ H
   clear H
   have hnb71 := NB229_230.out
   have hnc71 := NB230_229.out
   have hnb72 := NB229_231.out
   have hnc72 := NB231_229.out
   have hnb73 := NB229_241.out
   have hnc73 := NB241_229.out
   have hcz74 := bc4_ BK229.out
   go_wp2_with (first | ((with_reducible refine gate_callee (f := 74) rfl ?_); refine gl_ (some 62) Try.func74 #[.slice A0_1 l0_1.length c0_1, .int .i64 ((rd_T113 l1_1 x7_2).f0)] ?_; (with_reducible refine (spec_l9Has.calls k2 _ _ l0_1 ((rd_T113 l1_1 x7_2).f0) false _ ?side1 ?side2 A64.out).mono ?_); (case side1 => exact cb_ HR0_1 HB); (case side2 => exact HC0_1.out); rintro e w' ⟨rfl, ⟨nd, rfl⟩⟩; refine ⟨_, rfl, ?_⟩))
   go_meet
   case rel => exact ⟨_, (false), el_, H', ⟨by have := HJ2.out; have := HK2.out; first | omega | exact Nat.le_refl _⟩, ⟨pr_ HO_242000.out⟩, ⟨ps_ HO_242001.out⟩, ⟨pk_ BK229.out⟩, ⟨pk_ BK230.out⟩, ⟨pk_ BK231.out⟩, ⟨pk_ BK241.out⟩, ⟨pb4_ HB.out GE229.out GE230.out GE231.out GE241.out⟩⟩
  subst c70
  rw [if_pos rfl] at H
  by_cases c75 : t243 = true
  ·subst c75
   rw [if_pos rfl] at H
   have H' := Q_ H
   clear H
   have hnb76 := NB229_230.out
   have hnc76 := NB230_229.out
   have hnb77 := NB229_231.out
   have hnc77 := NB231_229.out
   have hnb78 := NB229_241.out
   have hnc78 := NB241_229.out
   have hcz79 := bc4_ BK229.out
   go_wp2_with (first | ((with_reducible refine gate_callee (f := 74) rfl ?_); refine gl_ (some 62) Try.func74 #[.slice A0_1 l0_1.length c0_1, .int .i64 ((rd_T113 l1_1 x7_2).f0)] ?_; (with_reducible refine (spec_l9Has.calls k2 _ _ l0_1 ((rd_T113 l1_1 x7_2).f0) false _ ?side1 ?side2 A64.out).mono ?_); (case side1 => exact cb_ HR0_1 HB); (case side2 => exact HC0_1.out); rintro e w' ⟨rfl, ⟨nd, rfl⟩⟩; refine ⟨_, rfl, ?_⟩))
   go_meet
   case rel => exact ⟨_, (false), el_, H', ⟨by have := HJ2.out; have := HK2.out; first | omega | exact Nat.le_refl _⟩, ⟨pr_ HO_242000.out⟩, ⟨ps_ HO_242001.out⟩, ⟨pk_ BK229.out⟩, ⟨pk_ BK230.out⟩, ⟨pk_ BK231.out⟩, ⟨pk_ BK241.out⟩, ⟨pb4_ HB.out GE229.out GE230.out GE231.out GE241.out⟩⟩
  replace c75 := bf_ c75
  subst c75
  rw [if_neg ff_] at H
  replace H := Option.bind_eq_some_iff.mp H
  obtain ⟨t245, A800, H⟩ := H
  (try dsimp only at H)
  have A80 := Q_ A800
  clear A800
  have H' := Q_ H
  clear H
  have hnb81 := NB229_230.out
  have hnc81 := NB230_229.out
  have hnb82 := NB229_231.out
  have hnc82 := NB231_229.out
  have hnb83 := NB229_241.out
  have hnc83 := NB241_229.out
  have hcz84 := bc4_ BK229.out
  go_wp2_with (first | ((with_reducible refine gate_callee (f := 74) rfl ?_); refine gl_ (some 62) Try.func74 #[.slice A0_1 l0_1.length c0_1, .int .i64 ((rd_T113 l1_1 x7_2).f0)] ?_; (with_reducible refine (spec_l9Has.calls k2 _ _ l0_1 ((rd_T113 l1_1 x7_2).f0) false _ ?side1 ?side2 A64.out).mono ?_); (case side1 => exact cb_ HR0_1 HB); (case side2 => exact HC0_1.out); rintro e w' ⟨rfl, ⟨nd, rfl⟩⟩; refine ⟨_, rfl, ?_⟩) | (go_at_call 72; (with_reducible refine (spec_l1In.calls ((rd_T113 l1_1 x7_2).f0) 1 3 t245 _ A80.out).mono ?_); rintro e w' ⟨rfl, ⟨nd, rfl⟩⟩))
  go_meet
  case rel => exact ⟨_, (!t245), el_, H', ⟨by have := HJ2.out; have := HK2.out; first | omega | exact Nat.le_refl _⟩, ⟨pr_ HO_242000.out⟩, ⟨ps_ HO_242001.out⟩, ⟨pk_ BK229.out⟩, ⟨pk_ BK230.out⟩, ⟨pk_ BK231.out⟩, ⟨pk_ BK241.out⟩, ⟨pb4_ HB.out GE229.out GE230.out GE231.out GE241.out⟩⟩
 clear HC56
 try clear c1
 try clear c2
 try clear p2
 try clear q2
 try clear hx2
 try clear c3
 try clear c4
 try clear c5
 try clear c6
 try clear p6
 try clear c7
 try clear c8
 try clear c9
 try clear c12
 try clear c16
 try clear c16b0
 try clear c21
 try clear c21b0
 try clear c22
 try clear c22b0
 try clear p23
 try clear q23
 try clear hx23
 try clear c24
 try clear p24
 try clear q24
 try clear hx24
 try clear c26
 try clear c27
 try clear c28
 try clear c30
 try clear c33
 try clear c34
 try clear c39
 try clear c40
 try clear c41
 try clear c43
 try clear c43b0
 try clear c44
 try clear c45
 try clear c46
 try clear c48
 try clear c49
 try clear c51
 try clear c54
 try clear c54b0
 try clear c57
 try clear c58
 try clear c59
 try clear c61
 try clear c62
 try clear c65
 try clear c66
 try clear c67
 try clear c68
 try clear c70
 try clear c71
 try clear c72
 try clear c73
 try clear c74
 try clear c75
 try clear c76
 try clear c77
 try clear c78
 try clear c81
 try clear c82
 try clear c83
 try clear hcz47
 try clear hcz50
 try clear hcz52
 try clear hcz60
 try clear hcz63
 try clear hcz69
 try clear hcz74
 try clear hcz79
 try clear hcz84
 try clear hx234_0
 try clear hx242_0
 try clear hx242_1
 try clear p2
 try clear p23
 try clear p234
 try clear p242
 try clear p6
 try clear q2
 try clear q23
 try clear q234
 try clear q242
 obtain ⟨kq, x75_55, rfl, HA, HJ55, HO_242000, HO_242001, BK229, BK230, BK231, BK241, HB⟩ := hcut
 rcases kq with _ | kj55
 ·exact absurd HA.out (by simp [spec_PassBox.j2])
 have H := HA.out
 clear HA
 simp only [spec_PassBox.j2] at H
 by_cases c85 : x75_55 = true
 ·subst c85
  rw [if_pos rfl] at H
  simp only [Option.some.injEq, Prod.mk.injEq] at H
  obtain ⟨rfl, rfl, rfl⟩ := H
  have hnb86 := NB231_229.out
  have hnc86 := NB229_231.out
  have hnb87 := NB231_230.out
  have hnc87 := NB230_231.out
  have hnb88 := NB231_241.out
  have hnc88 := NB241_231.out
  have hcz89 := bc2_ BK231.out
  go_wp2
  refine bodyPost_ret (results_ct rfl _ _ gb231 71 #[.slice none 0 0, .slice none 0 0] (0, 0) _ rfl (pp_ BK231.out) Try.underlying71 rfl (by kernel_rfl)) rfl ?_
  exact ⟨_, _, er_, by first | exact Kd.R_nil _ _ _ _ _ | exact Kd.N_nil _ _ _ _ _ | exact Kd.V_nil _ _ _ _ _ | exact Kd.Q_nil _ _ _ _ _ | exact Kd.S_nil _ _ _ _ _, by first | exact Kd.S_nil _ _ _ _ _ | exact Kd.N_nil _ _ _ _ _ | exact Kd.V_nil _ _ _ _ _ | exact Kd.Q_nil _ _ _ _ _ | exact Kd.R_nil _ _ _ _ _, pb4_ HB.out GE229.out GE230.out GE231.out GE241.out⟩
 replace c85 := bf_ c85
 subst c85
 rw [if_neg ff_] at H
 by_cases c90 : t243 = true
 ·subst c90
  rw [if_pos rfl] at H
  have H' := Q_ H
  clear H
  go_wp2
  go_roundg kj55
  case measure => have := HJ2.out; have := HK2.out; have := HJ55.out; omega
  case rel => exact ⟨(wrap64 (x7_2 + 1)), (x242001_2), (u242001), el_, H', ⟨by have := HJ2.out; have := HK2.out; have := HJ55.out; omega⟩, ⟨pr_ HO_242000.out⟩, ⟨ps_ HO_242001.out⟩, ⟨pk_ BK229.out⟩, ⟨pk_ BK230.out⟩, ⟨pk_ BK231.out⟩, ⟨pk_ BK241.out⟩, ⟨pb4_ HB.out GE229.out GE230.out GE231.out GE241.out⟩⟩
 replace c90 := bf_ c90
 subst c90
 rw [if_neg ff_] at H
 obtain ⟨y246, hy246⟩ : ∃ y_ : List Int, y_ = (([] : List Int)) := ⟨_, rfl⟩
 replace H : (if 0 ≤ x7_2 then (if x7_2 < (l1_1.length : Int) then (if y246.length + ((rd_T113 l1_1 x7_2).f1).length < 17592186044416 then (if x242001_2.length < 4398046511104 then (spec_PassBox.l0 kj55 (wrap64 (x7_2 + 1)) a0_0 l0_1 l0_2 a0_3 l1_0 l1_1 y238 (x242001_2 ++ [(⟨((rd_T113 l1_1 x7_2).f0), (y246 ++ ((rd_T113 l1_1 x7_2).f1))⟩ : S113)])) else (none)) else (none)) else (none)) else (none)) = some (r1, r2, r3) := hb_ hy246 H
 have Ny246 := Q_ hy246
 clear hy246
 by_cases c91 : 0 ≤ x7_2
 rotate_left
 ·rw [if_neg c91] at H
  exact absurd H (by simp)
 rw [if_pos c91] at H
 have c91b0 : decide (0 ≤ x7_2) = true := decide_eq_true c91
 clear c91
 by_cases c92 : x7_2 < (l1_1.length : Int)
 rotate_left
 ·rw [if_neg c92] at H
  exact absurd H (by simp)
 rw [if_pos c92] at H
 have c92b0 : decide (x7_2 < (l1_1.length : Int)) = true := decide_eq_true c92
 clear c92
 by_cases c93 : y246.length + ((rd_T113 l1_1 x7_2).f1).length < 17592186044416
 rotate_left
 ·rw [if_neg c93] at H
  exact absurd H (by simp)
 rw [if_pos c93] at H
 have LMc93 := Q_ c93
 clear c93
 obtain ⟨y250, hy250⟩ : ∃ y_ : List Int, y_ = (y246 ++ ((rd_T113 l1_1 x7_2).f1)) := ⟨_, rfl⟩
 replace H : (if x242001_2.length < 4398046511104 then (spec_PassBox.l0 kj55 (wrap64 (x7_2 + 1)) a0_0 l0_1 l0_2 a0_3 l1_0 l1_1 y238 (x242001_2 ++ [(⟨((rd_T113 l1_1 x7_2).f0), y250⟩ : S113)])) else (none)) = some (r1, r2, r3) := hb_ hy250 H
 have Ny250 := Q_ hy250
 clear hy250
 by_cases c94 : x242001_2.length < 4398046511104
 rotate_left
 ·rw [if_neg c94] at H
  exact absurd H (by simp)
 rw [if_pos c94] at H
 have LMc94 := Q_ c94
 clear c94
 obtain ⟨y253, hy253⟩ : ∃ y_ : List (S113), y_ = (x242001_2 ++ [(⟨((rd_T113 l1_1 x7_2).f0), y250⟩ : S113)]) := ⟨_, rfl⟩
 replace H : (spec_PassBox.l0 kj55 (wrap64 (x7_2 + 1)) a0_0 l0_1 l0_2 a0_3 l1_0 l1_1 y238 y253) = some (r1, r2, r3) := hb_ hy253 H
 have Ny253 := Q_ hy253
 clear hy253
 have H' := Q_ H
 clear H
 try go_wp2
 have _ := Q_ (Kd.R_drew HO_242000.out)
 have _ := Q_ (Kd.S_drew HO_242001.out)
 have _ := Q_ (blk_drew BK229.out)
 have _ := Q_ (blk_drew BK230.out)
 have _ := Q_ (blk_drew BK231.out)
 have _ := Q_ (blk_drew BK241.out)
 have _ := Q_ (below_drew1 HB.out)
 clear HO_242000 HO_242001 BK229 BK230 BK231 BK241 HB
 rename_i HO_242000 HO_242001 BK229 BK230 BK231 BK241 HB
 have p249 : 0 ≤ (x7_2 : Int) := dt_
 have q249 : x7_2 < (l1_1.length : Int) := dt_
 obtain ⟨ad249, A249_1, c249_1, e249, hx249_0, hx249_1, hl249_1, hi249_1⟩ := at_T113 HR1_1.out x7_2 p249 q249
 have hw249_1 := hx249_1
 have hw249_0 := hx249_0
 obtain rfl : ad242 = ad249 := (by injection e249)
 replace hx249_0 := bt_ HB hx249_0
 replace hx249_1 := bt_ HB hx249_1
 have HR249_1 := Q_ hi249_1
 have HC249_1 := Q_ hl249_1
 clear hi249_1 hl249_1
 replace p249 := eq_true p249
 replace q249 := eq_true q249
 refine start_ (n := 16) (S := fun w' => w'.cell? ⟨gb241, 0, none⟩ = some (.slice Ao37 y238.length co37) ∧ w'.cell? ⟨gb241, 1, none⟩ = some (u242001) ∧ w'.cell? ⟨gb230, 0, none⟩ = some (.slice A1_0 l1_0.length c1_0) ∧ w'.cell? ⟨gb230, 1, none⟩ = some (.slice (some ad242) l1_1.length c1_1) ∧ w'.cell? (ad242.add ((x7_2).toNat * 2)) = some (.int .i64 ((rd_T113 l1_1 x7_2).f0)) ∧ w'.cell? ⟨(ad242.add ((x7_2).toNat * 2)).block, (ad242.add ((x7_2).toNat * 2)).off + 1, none⟩ = some (.slice A249_1 ((rd_T113 l1_1 x7_2).f1).length c249_1)) (ds := [15]) #[false, false, false, false, false, false, false, false, false, false, false, false, false, false, false, false] (by kernel_rfl) rfl rfl ⟨(blk_cell BK241.out 0).trans rfl, (blk_cell BK241.out 1).trans rfl, (blk_cell BK230.out 0).trans rfl, (blk_cell BK230.out 1).trans rfl, (bt_ HB hw249_0), (bt_ HB hw249_1)⟩ (fun hHeld => ?_); refine with_tabW spec_PassBox.tab12 spec_PassBox.bits12 (fun HT_ HW_ => ?_)
 generalize wc.drew = w95 at HO_242000 HO_242001 BK229 BK230 BK231 BK241 HB HR249_1 hx249_0 hx249_1 hHeld ⊢
 refine pu_ 0 (some 79) (tf_ 1 16) HT_ ?_
 refine pu_ 2 (some 81) (tm_ 16 5) HT_ ?_
 refine pu_ 4 (some 83) (tm_ 16 21) HT_ ?_
 refine pu_ 6 (some 85) (tm_ 16 85) HT_ ?_
 refine ta_ 1 (some 80) (tm_ 16 87) HT_ HW_ hHeld ?_
 refine ta_ 5 (some 84) (tm_ 16 119) HT_ HW_ hHeld ?_
 refine pu_ 7 (some 86) (tm_ 16 247) HT_ ?_
 refine pu_ 8 (some 87) (tm_ 16 503) HT_ ?_
 refine ta_ 9 (some 88) (tm_ 16 1015) HT_ HW_ hHeld ?_
 refine on_ 3 (some 82) (tf_ 10 16) HT_ (fun K hK => ?_)
 refine Kd.R_lit_step (Kd.int .i64) _ 3 ?hg (N := 82) ?hd (xs := ([] : List Int)) (inner := []) (ok := fun _ => True) (okp := fun _ => True) ?hr ?hp (fun _ hk => hk) trivial (Below.refl _ _) (Nat.le_refl _) (by simp) ?_; (case hd => rfl); (case hg => rfl); (case hr => first | (go_simp; done) | (go_simp; rfl)); (case hp => exact (Reps.none _ _))
 intro v247 w96 ho97 hb hg_ hnew_
 clear hg_ hnew_
 (first | rw [← Ny246.out] at ho97 | (simp only [Int.reduceToNat] at ho97; rw [← Ny246.out] at ho97))
 have _ := Q_ (Kd.R_elder' (pr_ HO_242000.out) (Kd.R_base ho97) hb)
 have _ := Q_ (Kd.S_elder' (ps_ HO_242001.out) (Kd.R_base ho97) hb)
 have _ := Q_ (Kd.R_lower (Kd.R_new' ho97 (Kd.R_lt (pr_ HO_242000.out))) (below_size (pb4_ HB.out GE229.out GE230.out GE231.out GE241.out)))
 have _ := Q_ (bb_ BK229.out hb)
 have _ := Q_ (bb_ BK230.out hb)
 have _ := Q_ (bb_ BK231.out hb)
 have _ := Q_ (bb_ BK241.out hb)
 have _ := Q_ (below_step (pb4_ HB.out GE229.out GE230.out GE231.out GE241.out) hb)
 clear HO_242000 HO_242001 BK229 BK230 BK231 BK241 HB
 rename_i HO_242000 HO_242001 HO248 BK229 BK230 BK231 BK241 HB
 clear hb ho97
 refine hK.out _ _ ⟨(blk_cell BK241.out 0).trans rfl, (blk_cell BK241.out 1).trans rfl, (blk_cell BK230.out 0).trans rfl, (blk_cell BK230.out 1).trans rfl, (bt_ HB hw249_0), (bt_ HB hw249_1)⟩ (fun hHeld => ?_)
 clear hK K
 refine no_ (some 82) ?_
 refine on_ 10 (some 89) (tf_ 11 16) HT_ (fun K hK => ?_)
 refine Kd.R_append_rows_step (Kd.int .i64) (w0 := w) w.heap.size (by rfl) (.tmp 82) (.tmp 88) 25 3 (.int .i64 0) 8 rfl Try.underlying25 info3 rfl (by decide) (by omega) v247 y246 ((rd_T113 l1_1 x7_2).f1) _ _ _ (fun k_ => some k_ ≠ (.slice Ao37 y238.length co37 : Value).ownBlock) (fun _ => False) rfl rfl ?aO ?aR (fun _ _ h => h) (fun _ h => h.elim) ?aF ?aB ?aS ?aL ?_
 (case aR => exact cb_ HR249_1 HB)
 (case aB => exact (pb4_ HB.out GE229.out GE230.out GE231.out GE241.out))
 (case aF => exact (fun k_ hk => Kd.fresh' (Kd.R_lt (pr_ HO_242000.out)) k_ hk))
 (case aO => exact (pr_ (Kd.R_mono HO248.out (fun _ hk => hk.2))))
 (case aS => exact (below_size (pb4_ HB.out GE229.out GE230.out GE231.out GE241.out)))
 (case aL => have := LMc93.out; omega)
 intro v251 w98 ho hb hg hat
 rw [← Ny250.out] at ho
 have _ := Q_ (Kd.R_after (ok := (fun _ => True)) (pr_ HO_242000.out) hg hat)
 have _ := Q_ (Kd.S_after (ok := (fun k_ => some k_ ≠ (.slice Ao37 y238.length co37 : Value).ownBlock)) (ps_ HO_242001.out) hg hat)
 have _ := Q_ (blk_grown (g := gb229) (o := .cells #[.int .i64 a0_0, .slice A0_1 l0_1.length c0_1, .slice A0_2 l0_2.length c0_2, .bool a0_3] 89 (0, 0)) (pk_ BK229.out) hg (Kd.R_ne HO248.out BK229.out (by decide)))
 have _ := Q_ (blk_grown (g := gb230) (o := .cells #[.slice A1_0 l1_0.length c1_0, .slice (some ad242) l1_1.length c1_1] 71 (0, 0)) (pk_ BK230.out) hg (Kd.R_ne HO248.out BK230.out (by decide)))
 have _ := Q_ (blk_grown (g := gb231) (o := .cells #[.slice none 0 0, .slice none 0 0] 71 (0, 0)) (pk_ BK231.out) hg (Kd.R_ne HO248.out BK231.out (by decide)))
 have _ := Q_ (blk_grown (g := gb241) (o := .cells #[.slice Ao37 y238.length co37, u242001] 71 (0, 0)) (pk_ BK241.out) hg (Kd.R_ne HO248.out BK241.out (by decide)))
 have _ := Q_ (hb)
 have _ := Q_ (ho)
 clear HO_242000 HO_242001 BK229 BK230 BK231 BK241 HB HO248
 rename_i HO_242000 HO_242001 BK229 BK230 BK231 BK241 HB HO252
 clear ho hb hg hat
 obtain ⟨Ao99, co99, eo99⟩ := Kd.R_slice HO252.out
 (first | subst eo99 | (injection eo99 with f1_ f2_ f3_; have f4_ := f1_.symm; have f5_ := f3_.symm; clear f1_ f2_ f3_; subst f4_; subst f5_))
 refine hK.out _ _ ⟨(blk_cell BK241.out 0).trans rfl, (blk_cell BK241.out 1).trans rfl, (blk_cell BK230.out 0).trans rfl, (blk_cell BK230.out 1).trans rfl, (bt_ HB hw249_0), (bt_ HB hw249_1)⟩ (fun hHeld => ?_)
 clear hK K
 refine no_ (some 89) ?_
 refine pu_ 11 (some 90) (tf_ 12 16) HT_ ?_
 refine on_ 12 (some 91) (tf_ 13 16) HT_ (fun K hK => ?_)
 refine value_ (w1 := ?_) (v := ?_) (by rfl) rfl ?_ ?_
 rotate_left 2
 ·go_simp
  constructor
  ·rfl
  ·rfl
 refine hK.out _ _ ⟨(blk_cell (blk_alloc BK241.out _) 0).trans rfl, (blk_cell (blk_alloc BK241.out _) 1).trans rfl, (blk_cell (blk_alloc BK230.out _) 0).trans rfl, (blk_cell (blk_alloc BK230.out _) 1).trans rfl, (World.cell?_alloc_lt _ _ _ (World.block_lt_of_cell? _ _ ((bt_ HB hw249_0)))).trans ((bt_ HB hw249_0)), (World.cell?_alloc_lt _ _ _ (World.block_lt_of_cell? _ _ ((bt_ HB hw249_1)))).trans ((bt_ HB hw249_1))⟩ (fun hHeld => ?_)
 clear hK K
 refine no_ (some 91) ?_
 refine on_ 13 (some 92) (tf_ 14 16) HT_ (fun K hK => ?_)
 refine Kd.S_append_step k113 (w0 := w) w.heap.size (by rfl) (.tmp 80) (.tmp 91) 69 113 (.agg #[(.int .i64 0), (.slice none 0 0)]) 32 rfl Try.underlying69 info113 rfl (by decide) (by omega) u242001 x242001_2 (⟨((rd_T113 l1_1 x7_2).f0), y250⟩ : S113) [.int .i64 ((rd_T113 l1_1 x7_2).f0), .slice Ao99 y250.length co99] (fun k_ => some k_ ≠ (.slice Ao37 y238.length co37 : Value).ownBlock) (fun k_ => some k_ = (.slice Ao99 y250.length co99 : Value).ownBlock) rfl rfl ?aP (fun k_ hk_ => ((Kd.R_mono (ok' := fun k_ => ((fun k_ => some k_ ≠ (.slice Ao37 y238.length co37 : Value).ownBlock)) k_ ∧ some k_ ≠ (u242001 : Value).ownBlock) (Kd.R_apart' (HO252.out) (Kd.S_typed HO_242001.out) (by decide)) (fun k_ hk => ⟨hk.1, hk.2⟩))).1 k_ hk_.symm) ?aF ?aO ?aB ?aS ?aL ?_
 (case aP => exact k113_mkM _ _ _ (⟨((rd_T113 l1_1 x7_2).f0), y250⟩ : S113) (Kd.R_mono (Kd.R_tight rfl (Kd.R_mono (ok' := fun k_ => ((fun k_ => some k_ ≠ (.slice Ao37 y238.length co37 : Value).ownBlock)) k_ ∧ some k_ ≠ (u242001 : Value).ownBlock) (Kd.R_apart' (HO252.out) (Kd.S_typed HO_242001.out) (by decide)) (fun k_ hk => ⟨hk.1, hk.2⟩))) (fun _ h_ => h_)))
 (case aB => exact (pb4_ HB.out GE229.out GE230.out GE231.out GE241.out))
 (case aF => exact (fun k_ hk => Kd.fresh' (Kd.R_lt (pr_ HO_242000.out)) k_ hk))
 (case aO => exact (by (with_reducible repeat (first | apply Kd.S_alloc | apply Kd.S_drewN | apply Kd.S_drew)); exact Kd.S_mono HO_242001.out (fun k_ hk => ⟨hk.1, fun e_ => hk.2 e_⟩)))
 (case aS => exact (below_size (pb4_ HB.out GE229.out GE230.out GE231.out GE241.out)))
 (case aL => have := LMc94.out; omega)
 intro v254 w100 ho hb hg hat
 rw [← Ny253.out] at ho
 have _ := Q_ (Kd.R_over' (pr_ HO_242000.out) (Kd.S_typed (ps_ HO_242001.out)) (by decide) hg)
 have _ := Q_ (blk_grown (g := gb229) (o := .cells #[.int .i64 a0_0, .slice A0_1 l0_1.length c0_1, .slice A0_2 l0_2.length c0_2, .bool a0_3] 89 (0, 0)) (pk_ BK229.out) hg (Kd.S_ne HO_242001.out BK229.out (by decide)))
 have _ := Q_ (blk_grown (g := gb230) (o := .cells #[.slice A1_0 l1_0.length c1_0, .slice (some ad242) l1_1.length c1_1] 71 (0, 0)) (pk_ BK230.out) hg (Kd.S_ne HO_242001.out BK230.out (by decide)))
 have _ := Q_ (blk_grown (g := gb231) (o := .cells #[.slice none 0 0, .slice none 0 0] 71 (0, 0)) (pk_ BK231.out) hg (Kd.S_ne HO_242001.out BK231.out (by decide)))
 have _ := Q_ (blk_grown (g := gb241) (o := .cells #[.slice Ao37 y238.length co37, u242001] 71 (0, 0)) (pk_ BK241.out) hg (Kd.S_ne HO_242001.out BK241.out (by decide)))
 have _ := Q_ (hb)
 have _ := Q_ (ho)
 clear HO_242000 BK229 BK230 BK231 BK241 HB HO_242001 HO252
 rename_i HO_242000 BK229 BK230 BK231 BK241 HB HO255
 clear ho hb hg hat
 obtain ⟨Ao101, co101, eo101⟩ := Kd.S_slice HO255.out
 (first | subst eo101 | (injection eo101 with f1_ f2_ f3_; have f4_ := f1_.symm; have f5_ := f3_.symm; clear f1_ f2_ f3_; subst f4_; subst f5_))
 refine hK.out _ _ ⟨(blk_cell BK241.out 0).trans rfl, (blk_cell BK241.out 1).trans rfl, (blk_cell BK230.out 0).trans rfl, (blk_cell BK230.out 1).trans rfl, (bt_ HB hw249_0), (bt_ HB hw249_1)⟩ (fun hHeld => ?_)
 clear hK K
 refine no_ (some 92) ?_
 refine pu_ 14 (some 93) (tf_ 15 16) HT_ ?_
 refine last_ (i := 15) (N := none) #[true, true, true, true, true, true, true, true, true, true, true, true, true, true, true, true] rfl rfl (one_of HT_.out (by kernel_rfl)) (by decide) (fun K hK => ?_)
 have hs102 : w100.cell? ⟨gb241, 1, none⟩ = some (u242001) := (blk_cell BK241.out 1).trans rfl
 have hfs102 := blk_frozen BK241.out 1
 have hns102_0 := NB229_241.out
 have hns102_1 := NB230_241.out
 have hns102_2 := NB231_241.out
 have hms102_0 := NB241_229.out
 have hms102_1 := NB241_230.out
 have hms102_2 := NB241_231.out
 refine skip_ (w1 := ?_) (by rfl) rfl ?_ ?_
 rotate_left
 ·go_simp
  rfl
 refine hK.out _ _ ?_
 clear hK K
 refine done_ (done_of HT_.out (by kernel_rfl)) ?_
 try go_wp2
 go_roundg kj55
 case measure => have := HJ2.out; have := HK2.out; have := HJ55.out; omega
 case rel => exact ⟨(wrap64 (x7_2 + 1)), (y253), (.slice Ao101 y253.length co101), el_, H', ⟨by have := HJ2.out; have := HK2.out; have := HJ55.out; omega⟩, ⟨pr_ (Kd.R_mono (Kd.R_far (p := ⟨gb241, 1, none⟩) (Kd.R_types HO_242000.out BK241.out (by decide)) (fun _ hk => hk.2) (.slice Ao101 y253.length co101)) (fun _ hk => trivial))⟩, ⟨ps_ (Kd.S_mono (Kd.S_far (p := ⟨gb241, 1, none⟩) (Kd.S_types HO255.out BK241.out (by decide)) (fun _ hk => hk.2) (.slice Ao101 y253.length co101)) (fun _ hk => hk.1))⟩, ⟨pp_ BK229.out⟩, ⟨pp_ BK230.out⟩, ⟨pp_ BK231.out⟩, ⟨pp_ BK241.out⟩, ⟨pb4_ HB.out GE229.out GE230.out GE231.out GE241.out⟩⟩

end Go.Proofs.Ytlcpaebidnaolaa.Print
