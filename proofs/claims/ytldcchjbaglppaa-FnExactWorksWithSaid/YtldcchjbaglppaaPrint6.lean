-- Written by a program of this session (printx.py) out of the translation; Lean checks it.
import Derived.Test.YtldcchjbaglppaaPrint0
import Derived.Test.YtldcchjbaglppaaPrint3
import Derived.Test.YtldcchjbaglppaaPrint4
namespace Go.Proofs.Ytldcchjbaglppaa.Print
open Go.RowKit Go.Proofs.YtldcchjbaglppaaW.PrintWords Go.Proofs.YtldcchjbaglppaaW.PrintLast Go.Proofs.YtldcchjbaglppaaW.PrintMore Go.Proofs.Ytldcchjbaglppaa.Short
attribute [local go_sem] max2_int min2_int max_two min_two max_three min_three max_four min_four   -- for this text's walks alone
set_option linter.unusedVariables false
set_option linter.unusedSimpArgs false

/-! ### spec_NextPairs: function 85 -/
mutual
def spec_NextPairs.l0 : Nat → Int → Int → List (List Int) → List Int → Int → Int → List Bool → List (S78) → Int → List Bool → List (S78) → Option ((List (List Int)))
  | 0, _, _, _, _, _, _, _, _, _, _, _ => none
  | k + 1, x2, x3, x9, x10, x11, x229000, x229001, x229002, x230000, x230001, x230002 => if x11 < (x10.length : Int) then (if 0 ≤ x11 then ((spec_MoveOf.f k x230000 x230001 x230002 x3 false (rd x10 x11)).bind fun t237 => (if t237 ≥ 0 then ((spec_MoveOf.f k x229000 x229001 x229002 x2 true (rd x10 x11)).bind fun t239 => (if 0 ≤ t239 then (if t239 < (x229002.length : Int) then (if 0 ≤ t237 then (if t237 < (x230002.length : Int) then (if x9.length < 5864062014805 then (spec_NextPairs.l0 k x2 x3 (x9 ++ [(([(rd_T78 x229002 t239).f3, (rd_T78 x230002 t237).f3] : List Int))]) x10 (wrap64 (x11 + 1)) x229000 x229001 x229002 x230000 x230001 x230002) else (none)) else (none)) else (none)) else (none)) else (none))) else (spec_NextPairs.l0 k x2 x3 x9 x10 (wrap64 (x11 + 1)) x229000 x229001 x229002 x230000 x230001 x230002))) else (none)) else ((spec_MovesFrom.f k x230000 x230001 x230002 x3 true).bind fun t248 => (spec_NextPairs.l1 k x2 x3 x9 t248 0 x229000 x229001 x229002 x230000 x230001 x230002))
def spec_NextPairs.l1 : Nat → Int → Int → List (List Int) → List Int → Int → Int → List Bool → List (S78) → Int → List Bool → List (S78) → Option ((List (List Int)))
  | 0, _, _, _, _, _, _, _, _, _, _, _ => none
  | k + 1, x2, x3, x9, x10, x13, x229000, x229001, x229002, x230000, x230001, x230002 => if x13 < (x10.length : Int) then (if 0 ≤ x13 then ((spec_MoveOf.f k x229000 x229001 x229002 x2 false (rd x10 x13)).bind fun t252 => (if t252 ≥ 0 then (if 0 ≤ t252 then (if t252 < (x229002.length : Int) then ((spec_MoveOf.f k x230000 x230001 x230002 x3 true (rd x10 x13)).bind fun t255 => (if 0 ≤ t255 then (if t255 < (x230002.length : Int) then (if x9.length < 5864062014805 then (spec_NextPairs.l1 k x2 x3 (x9 ++ [(([(rd_T78 x229002 t252).f3, (rd_T78 x230002 t255).f3] : List Int))]) x10 (wrap64 (x13 + 1)) x229000 x229001 x229002 x230000 x230001 x230002) else (none)) else (none)) else (none))) else (none)) else (none)) else (spec_NextPairs.l1 k x2 x3 x9 x10 (wrap64 (x13 + 1)) x229000 x229001 x229002 x230000 x230001 x230002))) else (none)) else (some x9)
end
def spec_NextPairs.f (k : Nat) (a0_0 : Int) (l0_1 : List Bool) (l0_2 : List (S78)) (a1_0 : Int) (l1_1 : List Bool) (l1_2 : List (S78)) (a2 : Int) (a3 : Int) : Option ((List (List Int))) := (spec_MovesFrom.f k a0_0 l0_1 l0_2 a2 true).bind fun t233 => (spec_NextPairs.l0 k a2 a3 (([] : List (List Int))) t233 0 a0_0 l0_1 l0_2 a1_0 l1_1 l1_2)
theorem spec_NextPairs.mono_l : ∀ k, (∀ y0 y1 y2 y3 y4 y5 y6 y7 y8 y9 y10, LeO (spec_NextPairs.l0 k y0 y1 y2 y3 y4 y5 y6 y7 y8 y9 y10) (spec_NextPairs.l0 (k + 1) y0 y1 y2 y3 y4 y5 y6 y7 y8 y9 y10)) ∧ (∀ y0 y1 y2 y3 y4 y5 y6 y7 y8 y9 y10, LeO (spec_NextPairs.l1 k y0 y1 y2 y3 y4 y5 y6 y7 y8 y9 y10) (spec_NextPairs.l1 (k + 1) y0 y1 y2 y3 y4 y5 y6 y7 y8 y9 y10))
  | 0 => ⟨fun _ _ _ _ _ _ _ _ _ _ _ r h => by simp [spec_NextPairs.l0] at h, fun _ _ _ _ _ _ _ _ _ _ _ r h => by simp [spec_NextPairs.l1] at h⟩
  | k + 1 => by
    obtain ⟨ih0, ih1⟩ := spec_NextPairs.mono_l k
    refine ⟨?_, ?_⟩
    · intro y0 y1 y2 y3 y4 y5 y6 y7 y8 y9 y10
      unfold spec_NextPairs.l0
      exact mo4_ ih0 ih1 spec_MoveOf.mono spec_MovesFrom.mono
    · intro y0 y1 y2 y3 y4 y5 y6 y7 y8 y9 y10
      unfold spec_NextPairs.l1
      exact mo4_ ih0 ih1 spec_MoveOf.mono spec_MovesFrom.mono
theorem spec_NextPairs.mono : ∀ a0 a1 a2 a3 a4 a5 a6 a7 k, LeO (spec_NextPairs.f k a0 a1 a2 a3 a4 a5 a6 a7) (spec_NextPairs.f (k + 1) a0 a1 a2 a3 a4 a5 a6 a7) := by
  intro a0 a1 a2 a3 a4 a5 a6 a7 k
  obtain ⟨ih0, ih1⟩ := spec_NextPairs.mono_l k
  unfold spec_NextPairs.f
  exact mo4_ ih0 ih1 spec_MoveOf.mono spec_MovesFrom.mono
def spec_NextPairs.T6 : Bool × List (List Nat × List Nat) := (true, [([], []), ([], []), ([], []), ([], []), ([2, 3], [2, 3]), ([4], [4]), ([0, 1, 5], [0, 1, 5]), ([6, 6, 0, 1, 2, 3, 4, 5, 6], [6])])
def spec_NextPairs.B6 : List Nat := [0, 0, 0, 0, 12, 28, 63, 127]
theorem spec_NextPairs.tab6 : rtab .any (opsOf Try.f85 6) = spec_NextPairs.T6 := by kernel_rfl
theorem spec_NextPairs.bits6 : waitsOk spec_NextPairs.T6.2 spec_NextPairs.B6 = true := by kernel_rfl
def spec_NextPairs.T8 : Bool × List (List Nat × List Nat) := (true, [([], []), ([], []), ([1], [1]), ([], []), ([], []), ([], []), ([], []), ([5, 6], [5, 6]), ([7], [7]), ([3, 4, 8], [3, 4, 8]), ([2, 9], [2, 9]), ([10], [10]), ([11], [11]), ([], []), ([13], [13]), ([], []), ([14, 15], [14, 15]), ([16], [16]), ([17], [17]), ([12, 18], [12, 18]), ([19], [19]), ([0, 20, 9], [0, 20]), ([21, 21, 0, 1, 2, 3, 4, 5, 6, 7, 8, 9, 10, 11, 12, 13, 14, 15, 16, 17, 18, 19, 20, 21], [0, 21])])
def spec_NextPairs.B8 : List Nat := [0, 0, 2, 0, 0, 0, 0, 96, 224, 504, 1022, 2046, 4094, 0, 8192, 0, 57344, 122880, 253952, 524286, 1048574, 2097151, 4194303]
theorem spec_NextPairs.tab8 : rtab .any (opsOf Try.f85 8) = spec_NextPairs.T8 := by kernel_rfl
theorem spec_NextPairs.bits8 : waitsOk spec_NextPairs.T8.2 spec_NextPairs.B8 = true := by kernel_rfl
def spec_NextPairs.T13 : Bool × List (List Nat × List Nat) := (true, [([], []), ([], []), ([], []), ([], []), ([2, 3], [2, 3]), ([4], [4]), ([0, 1, 5], [0, 1, 5]), ([6, 6, 0, 1, 2, 3, 4, 5, 6], [6])])
def spec_NextPairs.B13 : List Nat := [0, 0, 0, 0, 12, 28, 63, 127]
theorem spec_NextPairs.tab13 : rtab .any (opsOf Try.f85 13) = spec_NextPairs.T13 := by kernel_rfl
theorem spec_NextPairs.bits13 : waitsOk spec_NextPairs.T13.2 spec_NextPairs.B13 = true := by kernel_rfl
def spec_NextPairs.T15 : Bool × List (List Nat × List Nat) := (true, [([], []), ([], []), ([1], [1]), ([], []), ([2, 3], [2, 3]), ([4], [4]), ([5], [5]), ([], []), ([7], [7]), ([], []), ([], []), ([], []), ([], []), ([11, 12], [11, 12]), ([13], [13]), ([9, 10, 14], [9, 10, 14]), ([8, 15], [8, 15]), ([16], [16]), ([17], [17]), ([6, 18], [6, 18]), ([19], [19]), ([0, 20, 15], [0, 20]), ([21, 21, 0, 1, 2, 3, 4, 5, 6, 7, 8, 9, 10, 11, 12, 13, 14, 15, 16, 17, 18, 19, 20, 21], [0, 21])])
def spec_NextPairs.B15 : List Nat := [0, 0, 2, 0, 14, 30, 62, 0, 128, 0, 0, 0, 0, 6144, 14336, 32256, 65408, 130944, 262016, 524286, 1048574, 2097151, 4194303]
theorem spec_NextPairs.tab15 : rtab .any (opsOf Try.f85 15) = spec_NextPairs.T15 := by kernel_rfl
theorem spec_NextPairs.bits15 : waitsOk spec_NextPairs.T15.2 spec_NextPairs.B15 = true := by kernel_rfl
set_option maxHeartbeats 8000000 in
set_option maxRecDepth 100000 in
theorem spec_NextPairs.calls (k : Nat) (a0_0 : Int) (A0_1 : Option Addr) (c0_1 : Nat) (l0_1 : List Bool) (A0_2 : Option Addr) (c0_2 : Nat) (l0_2 : List (S78)) (a1_0 : Int) (A1_1 : Option Addr) (c1_1 : Nat) (l1_1 : List Bool) (A1_2 : Option Addr) (c1_2 : Nat) (l1_2 : List (S78)) (a2 : Int) (a3 : Int) (r : List (List Int)) (w : World) (hr0_1 : Kd.C Kd.bool w A0_1 l0_1.length l0_1) (hc0_1 : l0_1.length ≤ c0_1) (hr0_2 : Kd.C k78 w A0_2 l0_2.length l0_2) (hc0_2 : l0_2.length ≤ c0_2) (hr1_1 : Kd.C Kd.bool w A1_1 l1_1.length l1_1) (hc1_1 : l1_1.length ≤ c1_1) (hr1_2 : Kd.C k78 w A1_2 l1_2.length l1_2) (hc1_2 : l1_2.length ≤ c1_2) (h : spec_NextPairs.f k a0_0 l0_1 l0_2 a1_0 l1_1 l1_2 a2 a3 = some r) :
    Calls Try.prog 85 #[.agg #[.int .i64 a0_0, .slice A0_1 l0_1.length c0_1, .slice A0_2 l0_2.length c0_2], .agg #[.int .i64 a1_0, .slice A1_1 l1_1.length c1_1, .slice A1_2 l1_2.length c1_2], .int .i64 a2, .int .i64 a3] w fun e w' => ∃ v0_ : Value, e = .returned (v0_) ∧ Kd.S (Kd.slice 3 (Kd.int .i64)) 39 w' w.heap.size (fun _ => True) v0_ r ∧ Below w.heap.size w w' := by
  have hu34 := Try.underlying34
  have HR0_1 := Q_ hr0_1
  have HC0_1 := Q_ hc0_1
  clear hr0_1 hc0_1
  have HR0_2 := Q_ hr0_2
  have HC0_2 := Q_ hc0_2
  clear hr0_2 hc0_2
  have HR1_1 := Q_ hr1_1
  have HC1_1 := Q_ hc1_1
  clear hr1_1 hc1_1
  have HR1_2 := Q_ hr1_2
  have HC1_2 := Q_ hc1_2
  clear hr1_2 hc1_2
  have HB := Q_ (Below.refl w.heap.size w)
  have H : ((spec_MovesFrom.f k a0_0 l0_1 l0_2 a2 true).bind fun t233 => (spec_NextPairs.l0 k a2 a3 (([] : List (List Int))) t233 0 a0_0 l0_1 l0_2 a1_0 l1_1 l1_2)) = some r := h
  clear h
  obtain ⟨y230, hy230⟩ : ∃ y_ : List (List Int), y_ = (([] : List (List Int))) := ⟨_, rfl⟩
  replace H : ((spec_MovesFrom.f k a0_0 l0_1 l0_2 a2 true).bind fun t233 => (spec_NextPairs.l0 k a2 a3 y230 t233 0 a0_0 l0_1 l0_2 a1_0 l1_1 l1_2)) = some r := by first | (rw [hy230]; with_reducible exact H) | (have H2_ := (Option.bind_some _ _).symm.trans H; rw [hy230]; with_reducible exact H2_) | (have H2_ := (Option.bind_some _ _).symm.trans H; with_reducible exact H2_) | with_reducible exact H | (rw [hy230]; exact H) | exact H
  have Ny230 := Q_ hy230
  clear hy230
  replace H := Option.bind_eq_some_iff.mp H
  obtain ⟨t233, A50, H⟩ := H
  (try dsimp only at H)
  have A5 := Q_ A50
  clear A50
  have H' := Q_ H
  clear H
  go_enter Try.func85, Try.ntmps85
  go_wp2_with (first | ((with_reducible refine gate_dst (N := 4) rfl ?_); refine box_event ?hg (N := 4) ?hd (cs := #[.int .i64 a0_0, .slice A0_1 l0_1.length c0_1, .slice A0_2 l0_2.length c0_2]) (t := 34) ?hr ?_; (case hd => rfl); (case hg => rfl); (case hr => first | (go_simp; done) | (go_simp; rfl)); intro gb228 hg w6 hbox hb; have n0_ := Q_ (below_step (pb_ HB.out) hb); have n1_ := Q_ (hbox); have n2_ := Q_ ((by rw [hg]; exact (below_size (pb_ HB.out)) : w.heap.size ≤ gb228)); have n3_ := n2_; clear HB; have HB := n0_; have BK228 := n1_; have GW228 := n2_; have GE228 := n3_; clear n0_ n1_ n2_ n3_; clear hb hbox hg) | ((with_reducible refine gate_dst (N := 5) rfl ?_); refine box_event ?hg (N := 5) ?hd (cs := #[.int .i64 a1_0, .slice A1_1 l1_1.length c1_1, .slice A1_2 l1_2.length c1_2]) (t := 34) ?hr ?_; (case hd => rfl); (case hg => rfl); (case hr => first | (go_simp; done) | (go_simp; rfl)); intro gb229 hg w7 hbox hb; have n0_ := Q_ (bb_ BK228.out hb); have n1_ := Q_ (below_step (pb1_ HB.out GE228.out) hb); have n2_ := Q_ (hbox); have n3_ := Q_ ((by rw [hg]; exact (below_size (pb1_ HB.out GE228.out)) : w.heap.size ≤ gb229)); have n4_ := n3_; have n5_ := Q_ ((by rw [hg]; exact Nat.ne_of_lt (blk_lt (pk_ BK228.out)) : gb228 ≠ gb229)); have n6_ := Q_ ((by rw [hg]; exact Nat.ne_of_gt (blk_lt (pk_ BK228.out)) : gb229 ≠ gb228)); clear BK228; clear HB; have BK228 := n0_; have HB := n1_; have BK229 := n2_; have GW229 := n3_; have GE229 := n4_; have NB228_229 := n5_; have NB229_228 := n6_; clear n0_ n1_ n2_ n3_ n4_ n5_ n6_; clear hb hbox hg) | ((with_reducible refine gate_dst (N := 15) rfl ?_); refine Kd.S_lit (Kd.slice 3 (Kd.int .i64)) _ 39 ?hg (N := 15) ?hd (xs := ([] : List (List Int))) (inner := []) (ok := fun _ => True) (okp := fun _ => True) ?hr ?hp (fun _ hk => hk) trivial (Below.refl _ _) (Nat.le_refl _) (by simp) ?_; (case hd => rfl); (case hg => rfl); (case hr => first | (go_simp; done) | (go_simp; rfl)); (case hp => exact (Reps.none _ _)); intro v231 w8 ho9 hb hg_ hnew_; clear hg_ hnew_; (first | rw [← Ny230.out] at ho9 | (simp only [Int.reduceToNat] at ho9; rw [← Ny230.out] at ho9)); have _ := Q_ (Kd.S_lower ho9 (below_size (pb2_ HB.out GE228.out GE229.out))); have _ := Q_ (bb_ BK228.out hb); have _ := Q_ (bb_ BK229.out hb); have _ := Q_ (below_step (pb2_ HB.out GE228.out GE229.out) hb); clear BK228 BK229 HB; rename_i HO232 BK228 BK229 HB; clear hb ho9; have hnb10 := NB228_229.out; have hnc10 := NB229_228.out; have hcz11 := bc3_ BK228.out) | ((with_reducible refine gate_callee (f := 70) rfl ?_); refine gl_ (some 18) Try.func70 #[.agg #[.int .i64 a0_0, .slice A0_1 l0_1.length c0_1, .slice A0_2 l0_2.length c0_2], .int .i64 a2, .bool true] ?_; (with_reducible refine (spec_MovesFrom.calls k a0_0 _ _ l0_1 _ _ l0_2 a2 true t233 _ ?side1 ?side2 ?side3 ?side4 A5.out).mono ?_); (case side1 => exact cb_ HR0_1 HB); (case side2 => exact HC0_1.out); (case side3 => exact cb_ HR0_2 HB); (case side4 => exact HC0_2.out); rintro e w12 ⟨v234, rfl, ho0, hb⟩; refine ⟨_, rfl, ?_⟩; have _ := Q_ (Kd.S_elder' (ps_ HO232.out) (Kd.R_base ho0) hb); have _ := Q_ (Kd.R_lower ho0 (below_size (pb2_ HB.out GE228.out GE229.out))); have _ := Q_ (bb_ BK228.out hb); have _ := Q_ (bb_ BK229.out hb); have _ := Q_ (below_step (pb2_ HB.out GE228.out GE229.out) hb); clear HO232 BK228 BK229 HB; rename_i HO232 HO235 BK228 BK229 HB; (try clear hb); (try clear hb2); (try clear hk); (try clear hi); (try clear ho0)))
  (try simp only [Act.put, List.setIfInBounds_toArray, List.set_cons_zero, List.set_cons_succ])
  go_loopg [9, 11] k (fun kq v9 v11 w' => ∃ (x9_1 : List (List Int)) (x11_1 : Int), v11 = .int .i64 x11_1 ∧ Aside0 (spec_NextPairs.l0 kq a2 a3 x9_1 t233 x11_1 a0_0 l0_1 l0_2 a1_0 l1_1 l1_2 = some r) ∧ Aside0 (kq ≤ k) ∧ Aside0 (Kd.S (Kd.slice 3 (Kd.int .i64)) 39 w' w.heap.size (fun k_ => some k_ ≠ (v234 : Value).ownBlock) v9 x9_1) ∧ Aside0 (Kd.R (Kd.int .i64) 3 w' w.heap.size (fun _ => True) v234 t233) ∧ Aside0 (w'.heap[gb228]? = some (.cells #[.int .i64 a0_0, (.slice A0_1 l0_1.length c0_1), (.slice A0_2 l0_2.length c0_2)] 34 (0, 0))) ∧ Aside0 (w'.heap[gb229]? = some (.cells #[.int .i64 a1_0, (.slice A1_1 l1_1.length c1_1), (.slice A1_2 l1_2.length c1_2)] 34 (0, 0))) ∧ Aside0 (Below w.heap.size w w'))
  case atStart => exact ⟨(y230), (0), el_, H', ⟨Nat.le_refl _⟩, ⟨ps_ (Kd.S_mono HO232.out (fun _ hk => hk.2))⟩, ⟨pr_ HO235.out⟩, ⟨pk_ BK228.out⟩, ⟨pk_ BK229.out⟩, ⟨pb2_ HB.out GE228.out GE229.out⟩⟩
  clear H'
  try clear c1
  try clear p2
  try clear c7
  try clear c8
  try clear c10
  try clear hcz11
  obtain ⟨x9_1, x11_1, rfl, HA, HK1, HO_9, HO_10, BK228, BK229, HB⟩ := hrel
  rcases gk with _ | k1
  · exact absurd HA.out (by simp [spec_NextPairs.l0])
  have H := HA.out
  clear HA
  simp only [spec_NextPairs.l0] at H
  by_cases c13 : x11_1 < (t233.length : Int)
  rotate_left
  · rw [if_neg c13] at H
    have c13b0 : decide (x11_1 < (t233.length : Int)) = false := decide_eq_false c13
    clear c13
    replace H := Option.bind_eq_some_iff.mp H
    obtain ⟨t248, A140, H⟩ := H
    (try dsimp only at H)
    have A14 := Q_ A140
    clear A140
    have H' := Q_ H
    clear H
    obtain ⟨Ao15, co15, eo15⟩ := Kd.R_slice HO_10.out
    subst eo15
    have hnb16 := NB229_228.out
    have hnc16 := NB228_229.out
    have hcz17 := bc3_ BK229.out
    go_wp2_with (first | ((with_reducible refine gate_callee (f := 70) rfl ?_); refine gl_ (some 58) Try.func70 #[.agg #[.int .i64 a1_0, .slice A1_1 l1_1.length c1_1, .slice A1_2 l1_2.length c1_2], .int .i64 a3, .bool true] ?_; (with_reducible refine (spec_MovesFrom.calls k1 a1_0 _ _ l1_1 _ _ l1_2 a3 true t248 _ ?side1 ?side2 ?side3 ?side4 A14.out).mono ?_); (case side1 => exact cb_ HR1_1 HB); (case side2 => exact HC1_1.out); (case side3 => exact cb_ HR1_2 HB); (case side4 => exact HC1_2.out); rintro e w18 ⟨v249, rfl, ho0, hb⟩; refine ⟨_, rfl, ?_⟩; have _ := Q_ (Kd.S_elder' (ps_ HO_9.out) (Kd.R_base ho0) hb); have _ := Q_ (Kd.R_elder' (pr_ HO_10.out) (Kd.R_base ho0) hb); have _ := Q_ (Kd.R_lower (Kd.R_new' ho0 (Kd.R_lt (pr_ HO_10.out))) (below_size (pb2_ HB.out GE228.out GE229.out))); have _ := Q_ (bb_ BK228.out hb); have _ := Q_ (bb_ BK229.out hb); have _ := Q_ (below_step (pb2_ HB.out GE228.out GE229.out) hb); clear HO_9 HO_10 BK228 BK229 HB; rename_i HO_9 HO_10 HO250 BK228 BK229 HB; (try clear hb); (try clear hb2); (try clear hk); (try clear hi); (try clear ho0)))
    (try simp only [Act.put, List.setIfInBounds_toArray, List.set_cons_zero, List.set_cons_succ])
    go_loopg [9, 13] k1 (fun kq v9 v13 w' => ∃ (x9_2 : List (List Int)) (x13_2 : Int), v13 = .int .i64 x13_2 ∧ Aside0 (spec_NextPairs.l1 kq a2 a3 x9_2 t248 x13_2 a0_0 l0_1 l0_2 a1_0 l1_1 l1_2 = some r) ∧ Aside0 (kq ≤ k1) ∧ Aside0 (Kd.S (Kd.slice 3 (Kd.int .i64)) 39 w' w.heap.size (fun k_ => some k_ ≠ (v249 : Value).ownBlock) v9 x9_2) ∧ Aside0 (Kd.R (Kd.int .i64) 3 w' w.heap.size (fun _ => True) v249 t248) ∧ Aside0 (w'.heap[gb228]? = some (.cells #[.int .i64 a0_0, (.slice A0_1 l0_1.length c0_1), (.slice A0_2 l0_2.length c0_2)] 34 (0, 0))) ∧ Aside0 (w'.heap[gb229]? = some (.cells #[.int .i64 a1_0, (.slice A1_1 l1_1.length c1_1), (.slice A1_2 l1_2.length c1_2)] 34 (0, 0))) ∧ Aside0 (Below w.heap.size w w'))
    case atStart => exact ⟨(x9_1), (0), el_, H', ⟨Nat.le_refl _⟩, ⟨ps_ (Kd.S_mono HO_9.out (fun _ hk => hk.2))⟩, ⟨pr_ (Kd.R_mono HO250.out (fun _ hk => trivial))⟩, ⟨pk_ BK228.out⟩, ⟨pk_ BK229.out⟩, ⟨pb2_ HB.out GE228.out GE229.out⟩⟩
    clear H'
    try clear c1
    try clear p2
    try clear c7
    try clear c8
    try clear c10
    try clear c13
    try clear c13b0
    try clear c16
    try clear hcz17
    try clear p2
    obtain ⟨x9_2, x13_2, rfl, HA, HK2, HO_9, HO_10, BK228, BK229, HB⟩ := hrel
    rcases gk with _ | k2
    · exact absurd HA.out (by simp [spec_NextPairs.l1])
    have H := HA.out
    clear HA
    simp only [spec_NextPairs.l1] at H
    by_cases c19 : x13_2 < (t248.length : Int)
    rotate_left
    · rw [if_neg c19] at H
      have c19b0 : decide (x13_2 < (t248.length : Int)) = false := decide_eq_false c19
      clear c19
      obtain rfl := Option.some.inj H
      obtain ⟨Ao20, co20, eo20⟩ := Kd.R_slice HO_10.out
      subst eo20
      go_wp2
      go_ret
      exact ⟨_, er_, ps_ (Kd.S_mono HO_9.out (fun _ hk => trivial)), pb2_ HB.out GE228.out GE229.out⟩
    rw [if_pos c19] at H
    have c19b0 : decide (x13_2 < (t248.length : Int)) = true := decide_eq_true c19
    clear c19
    by_cases c21 : 0 ≤ x13_2
    rotate_left
    · rw [if_neg c21] at H
      exact absurd H (by simp)
    rw [if_pos c21] at H
    have c21b0 : decide (0 ≤ x13_2) = true := decide_eq_true c21
    clear c21
    replace H := Option.bind_eq_some_iff.mp H
    obtain ⟨t252, A220, H⟩ := H
    (try dsimp only at H)
    have A22 := Q_ A220
    clear A220
    have HS_ := Q_ H
    clear H
    obtain ⟨Ao23, co23, eo23⟩ := Kd.R_slice HO_10.out
    subst eo23
    try go_wp2
    have _ := Q_ (Kd.S_drew HO_9.out)
    have _ := Q_ (Kd.R_drew HO_10.out)
    have _ := Q_ (blk_drew BK228.out)
    have _ := Q_ (blk_drew BK229.out)
    have _ := Q_ (below_drew1 HB.out)
    clear HO_9 HO_10 BK228 BK229 HB
    rename_i HO_9 HO_10 BK228 BK229 HB
    have p251 : 0 ≤ (x13_2 : Int) := dt_
    have q251 : x13_2 < (t248.length : Int) := dt_
    obtain ⟨ad251, e251, hx251_0⟩ := Kd.at_int (Kd.R_reads' HO_10.out).2.2 x13_2 p251 q251
    cases e251
    replace p251 := eq_true p251
    replace q251 := eq_true q251
    refine start_ (n := 8) (S := fun w' => w'.cell? ⟨gb228, 0, none⟩ = some (.int .i64 a0_0) ∧ w'.cell? ⟨gb228, 1, none⟩ = some (.slice A0_1 l0_1.length c0_1) ∧ w'.cell? ⟨gb228, 2, none⟩ = some (.slice A0_2 l0_2.length c0_2) ∧ w'.cell? (ad251.add (x13_2).toNat) = some (.int .i64 (rd t248 x13_2))) (ds := []) (tf_ 0 8) (by kernel_rfl) rfl rfl ⟨(blk_cell BK228.out 0).trans rfl, (blk_cell BK228.out 1).trans rfl, (blk_cell BK228.out 2).trans rfl, hx251_0⟩ (fun hHeld => ?_); refine with_tabW spec_NextPairs.tab13 spec_NextPairs.bits13 (fun HT_ HW_ => ?_)
    generalize wr.drew = w24 at HO_9 HO_10 BK228 BK229 HB hx251_0 hHeld ⊢
    refine pu_ 1 (some 66) (tm_ 8 2) HT_ ?_
    refine pu_ 2 (some 67) (tm_ 8 6) HT_ ?_
    refine pu_ 3 (some 68) (tm_ 8 14) HT_ ?_
    refine pu_ 4 (some 69) (tm_ 8 30) HT_ ?_
    refine ta_ 0 (some 65) (tf_ 5 8) HT_ HW_ hHeld ?_
    refine ta_ 5 (some 70) (tf_ 6 8) HT_ HW_ hHeld ?_
    refine on_ 6 (some 71) (tf_ 7 8) HT_ (fun K hK => ?_)
    refine goes_ Try.func68 (by kernel_rfl) rfl #[.agg #[.int .i64 a0_0, .slice A0_1 l0_1.length c0_1, .slice A0_2 l0_2.length c0_2], .int .i64 a2, .bool false, .int .i64 (rd t248 x13_2)] (by rfl) rfl rfl mp_ ?_
    with_reducible refine (spec_MoveOf.calls k2 a0_0 _ _ l0_1 _ _ l0_2 a2 false (rd t248 x13_2) t252 _ ?side1 ?side2 ?side3 ?side4 A22.out).mono ?_
    (case side1 => exact cb_ HR0_1 HB)
    (case side2 => exact HC0_1.out)
    (case side3 => exact cb_ HR0_2 HB)
    (case side4 => exact HC0_2.out)
    rintro e w25 ⟨rfl, hb⟩
    have HS3_ := (hb.cell (World.block_lt_of_cell? _ _ (hHeld.2.2.2))).trans (hHeld.2.2.2)
    refine ⟨_, rfl, ?_⟩
    have _ := Q_ (Kd.S_below (ps_ HO_9.out) hb)
    have _ := Q_ (Kd.R_below (pr_ HO_10.out) hb)
    have _ := Q_ (bb_ BK228.out hb)
    have _ := Q_ (bb_ BK229.out hb)
    have _ := Q_ (below_step (pb2_ HB.out GE228.out GE229.out) hb)
    clear HO_9 HO_10 BK228 BK229 HB
    rename_i HO_9 HO_10 BK228 BK229 HB
    (try clear hb)
    (try clear hb2)
    (try clear hk)
    (try clear hi)
    refine hK.out _ _ ⟨(blk_cell BK228.out 0).trans rfl, (blk_cell BK228.out 1).trans rfl, (blk_cell BK228.out 2).trans rfl, HS3_⟩ (fun hHeld => ?_)
    clear hK K
    refine no_ (some 71) ?_
    refine pu_ 7 (some 14) (tf_ 8 8) HT_ ?_
    refine done_ (done_of HT_.out (by kernel_rfl)) ?_
    go_upto_if 73 with (fail)
    have H := HS_.out
    clear HS_
    by_cases c26 : t252 ≥ 0
    rotate_left
    · rw [if_neg c26] at H
      have c26b0 : decide (0 ≤ t252) = false := decide_eq_false c26
      clear c26
      (first | rw [c26b0] | (simp only [i64_w, i32_w]; rw [c26b0]) | skip)
      have H' := Q_ H
      clear H
      go_wp2
      go_roundg k2
      case measure => have := HK1.out; have := HK2.out; omega
      case rel => exact ⟨(x9_2), (wrap64 (x13_2 + 1)), el_, H', ⟨by have := HK1.out; have := HK2.out; omega⟩, ⟨ps_ HO_9.out⟩, ⟨pr_ HO_10.out⟩, ⟨pk_ BK228.out⟩, ⟨pk_ BK229.out⟩, ⟨pb2_ HB.out GE228.out GE229.out⟩⟩
    rw [if_pos c26] at H
    have c26b0 : decide (0 ≤ t252) = true := decide_eq_true c26
    clear c26
    (first | rw [c26b0] | (simp only [i64_w, i32_w]; rw [c26b0]) | skip)
    by_cases c27 : 0 ≤ t252
    rotate_left
    · rw [if_neg c27] at H
      exact absurd H (by simp)
    rw [if_pos c27] at H
    have c27b0 : decide (0 ≤ t252) = true := decide_eq_true c27
    clear c27
    by_cases c28 : t252 < (l0_2.length : Int)
    rotate_left
    · rw [if_neg c28] at H
      exact absurd H (by simp)
    rw [if_pos c28] at H
    have c28b0 : decide (t252 < (l0_2.length : Int)) = true := decide_eq_true c28
    clear c28
    replace H := Option.bind_eq_some_iff.mp H
    obtain ⟨t255, A290, H⟩ := H
    (try dsimp only at H)
    have A29 := Q_ A290
    clear A290
    by_cases c30 : 0 ≤ t255
    rotate_left
    · rw [if_neg c30] at H
      exact absurd H (by simp)
    rw [if_pos c30] at H
    have c30b0 : decide (0 ≤ t255) = true := decide_eq_true c30
    clear c30
    by_cases c31 : t255 < (l1_2.length : Int)
    rotate_left
    · rw [if_neg c31] at H
      exact absurd H (by simp)
    rw [if_pos c31] at H
    have c31b0 : decide (t255 < (l1_2.length : Int)) = true := decide_eq_true c31
    clear c31
    obtain ⟨y257, hy257⟩ : ∃ y_ : List Int, y_ = (([(rd_T78 l0_2 t252).f3, (rd_T78 l1_2 t255).f3] : List Int)) := ⟨_, rfl⟩
    replace H : (if x9_2.length < 5864062014805 then (spec_NextPairs.l1 k2 a2 a3 (x9_2 ++ [y257]) t248 (wrap64 (x13_2 + 1)) a0_0 l0_1 l0_2 a1_0 l1_1 l1_2) else (none)) = some r := by first | (rw [hy257]; with_reducible exact H) | (have H2_ := (Option.bind_some _ _).symm.trans H; rw [hy257]; with_reducible exact H2_) | (have H2_ := (Option.bind_some _ _).symm.trans H; with_reducible exact H2_) | with_reducible exact H | (rw [hy257]; exact H) | exact H
    have Ny257 := Q_ hy257
    clear hy257
    by_cases c32 : x9_2.length < 5864062014805
    rotate_left
    · rw [if_neg c32] at H
      exact absurd H (by simp)
    rw [if_pos c32] at H
    have LMc32 := Q_ c32
    clear c32
    obtain ⟨y260, hy260⟩ : ∃ y_ : List (List Int), y_ = (x9_2 ++ [y257]) := ⟨_, rfl⟩
    replace H : (spec_NextPairs.l1 k2 a2 a3 y260 t248 (wrap64 (x13_2 + 1)) a0_0 l0_1 l0_2 a1_0 l1_1 l1_2) = some r := by first | (rw [hy260]; with_reducible exact H) | (have H2_ := (Option.bind_some _ _).symm.trans H; rw [hy260]; with_reducible exact H2_) | (have H2_ := (Option.bind_some _ _).symm.trans H; with_reducible exact H2_) | with_reducible exact H | (rw [hy260]; exact H) | exact H
    have Ny260 := Q_ hy260
    clear hy260
    have H' := Q_ H
    clear H
    try go_wp2
    have _ := Q_ (Kd.S_drew HO_9.out)
    have _ := Q_ (Kd.R_drew HO_10.out)
    have _ := Q_ (blk_drew BK228.out)
    have _ := Q_ (blk_drew BK229.out)
    have _ := Q_ (below_drew1 HB.out)
    clear HO_9 HO_10 BK228 BK229 HB
    rename_i HO_9 HO_10 BK228 BK229 HB
    have p253 : 0 ≤ (t252 : Int) := dt_
    have q253 : t252 < (l0_2.length : Int) := dt_
    obtain ⟨ad253, e253, hx253_0, hx253_1, hx253_2, hx253_3⟩ := at_T78 HR0_2.out t252 p253 q253
    have hw253_3 := hx253_3
    have hw253_2 := hx253_2
    have hw253_1 := hx253_1
    have hw253_0 := hx253_0
    cases e253
    replace hx253_0 := bt_ HB hx253_0
    replace hx253_1 := bt_ HB hx253_1
    replace hx253_2 := bt_ HB hx253_2
    replace hx253_3 := bt_ HB hx253_3
    replace p253 := eq_true p253
    replace q253 := eq_true q253
    have p254 : 0 ≤ (x13_2 : Int) := dt_
    have q254 : x13_2 < (t248.length : Int) := dt_
    obtain ⟨ad254, e254, hx254_0⟩ := Kd.at_int (Kd.R_reads' HO_10.out).2.2 x13_2 p254 q254
    obtain rfl : ad251 = ad254 := (by injection e254)
    replace p254 := eq_true p254
    replace q254 := eq_true q254
    have p256 : 0 ≤ (t255 : Int) := dt_
    have q256 : t255 < (l1_2.length : Int) := dt_
    obtain ⟨ad256, e256, hx256_0, hx256_1, hx256_2, hx256_3⟩ := at_T78 HR1_2.out t255 p256 q256
    have hw256_3 := hx256_3
    have hw256_2 := hx256_2
    have hw256_1 := hx256_1
    have hw256_0 := hx256_0
    cases e256
    replace hx256_0 := bt_ HB hx256_0
    replace hx256_1 := bt_ HB hx256_1
    replace hx256_2 := bt_ HB hx256_2
    replace hx256_3 := bt_ HB hx256_3
    replace p256 := eq_true p256
    replace q256 := eq_true q256
    refine start_ (n := 23) (S := fun w' => w'.cell? ⟨gb228, 0, none⟩ = some (.int .i64 a0_0) ∧ w'.cell? ⟨gb228, 1, none⟩ = some (.slice A0_1 l0_1.length c0_1) ∧ w'.cell? ⟨gb228, 2, none⟩ = some (.slice (some ad253) l0_2.length c0_2) ∧ w'.cell? ⟨gb229, 0, none⟩ = some (.int .i64 a1_0) ∧ w'.cell? ⟨gb229, 1, none⟩ = some (.slice A1_1 l1_1.length c1_1) ∧ w'.cell? ⟨gb229, 2, none⟩ = some (.slice (some ad256) l1_2.length c1_2) ∧ w'.cell? (ad253.add ((t252).toNat * 4)) = some (.int .i64 ((rd_T78 l0_2 t252).f0)) ∧ w'.cell? ⟨(ad253.add ((t252).toNat * 4)).block, (ad253.add ((t252).toNat * 4)).off + 1, none⟩ = some (.bool ((rd_T78 l0_2 t252).f1)) ∧ w'.cell? ⟨(ad253.add ((t252).toNat * 4)).block, (ad253.add ((t252).toNat * 4)).off + 2, none⟩ = some (.int .i64 ((rd_T78 l0_2 t252).f2)) ∧ w'.cell? ⟨(ad253.add ((t252).toNat * 4)).block, (ad253.add ((t252).toNat * 4)).off + 3, none⟩ = some (.int .i64 ((rd_T78 l0_2 t252).f3)) ∧ w'.cell? (ad251.add (x13_2).toNat) = some (.int .i64 (rd t248 x13_2)) ∧ w'.cell? (ad256.add ((t255).toNat * 4)) = some (.int .i64 ((rd_T78 l1_2 t255).f0)) ∧ w'.cell? ⟨(ad256.add ((t255).toNat * 4)).block, (ad256.add ((t255).toNat * 4)).off + 1, none⟩ = some (.bool ((rd_T78 l1_2 t255).f1)) ∧ w'.cell? ⟨(ad256.add ((t255).toNat * 4)).block, (ad256.add ((t255).toNat * 4)).off + 2, none⟩ = some (.int .i64 ((rd_T78 l1_2 t255).f2)) ∧ w'.cell? ⟨(ad256.add ((t255).toNat * 4)).block, (ad256.add ((t255).toNat * 4)).off + 3, none⟩ = some (.int .i64 ((rd_T78 l1_2 t255).f3))) (ds := [20, 21]) #[false, false, false, false, false, false, false, false, false, false, false, false, false, false, false, false, false, false, false, false, false, false, false] (by kernel_rfl) rfl rfl ⟨(blk_cell BK228.out 0).trans rfl, (blk_cell BK228.out 1).trans rfl, (blk_cell BK228.out 2).trans rfl, (blk_cell BK229.out 0).trans rfl, (blk_cell BK229.out 1).trans rfl, (blk_cell BK229.out 2).trans rfl, (bt_ HB hw253_0), (bt_ HB hw253_1), (bt_ HB hw253_2), (bt_ HB hw253_3), hx254_0, (bt_ HB hw256_0), (bt_ HB hw256_1), (bt_ HB hw256_2), (bt_ HB hw256_3)⟩ (fun hHeld => ?_); refine with_tabW spec_NextPairs.tab15 spec_NextPairs.bits15 (fun HT_ HW_ => ?_)
    generalize w25.drew = w33 at HO_9 HO_10 BK228 BK229 HB hx253_0 hx253_1 hx253_2 hx253_3 hx254_0 hx256_0 hx256_1 hx256_2 hx256_3 hHeld ⊢
    refine pu_ 0 (some 74) (tf_ 1 23) HT_ ?_
    refine pu_ 1 (some 75) (tf_ 2 23) HT_ ?_
    refine pu_ 3 (some 77) (tm_ 23 11) HT_ ?_
    refine pu_ 7 (some 81) (tm_ 23 139) HT_ ?_
    refine pu_ 10 (some 84) (tm_ 23 1163) HT_ ?_
    refine pu_ 11 (some 85) (tm_ 23 3211) HT_ ?_
    refine pu_ 12 (some 86) (tm_ 23 7307) HT_ ?_
    refine pu_ 13 (some 87) (tm_ 23 15499) HT_ ?_
    refine ta_ 2 (some 76) (tm_ 23 15503) HT_ HW_ hHeld ?_
    refine pu_ 4 (some 78) (tm_ 23 15519) HT_ ?_
    refine pu_ 5 (some 79) (tm_ 23 15551) HT_ ?_
    refine ta_ 6 (some 80) (tm_ 23 15615) HT_ HW_ hHeld ?_
    refine ta_ 8 (some 82) (tm_ 23 15871) HT_ HW_ hHeld ?_
    refine ta_ 9 (some 83) (tf_ 14 23) HT_ HW_ hHeld ?_
    refine ta_ 14 (some 88) (tf_ 15 23) HT_ HW_ hHeld ?_
    refine on_ 15 (some 89) (tf_ 16 23) HT_ (fun K hK => ?_)
    refine goes_ Try.func68 (by kernel_rfl) rfl #[.agg #[.int .i64 a1_0, .slice A1_1 l1_1.length c1_1, .slice (some ad256) l1_2.length c1_2], .int .i64 a3, .bool true, .int .i64 (rd t248 x13_2)] (by rfl) rfl rfl mp_ ?_
    with_reducible refine (spec_MoveOf.calls k2 a1_0 _ _ l1_1 _ _ l1_2 a3 true (rd t248 x13_2) t255 _ ?side1 ?side2 ?side3 ?side4 A29.out).mono ?_
    (case side1 => exact cb_ HR1_1 HB)
    (case side2 => exact HC1_1.out)
    (case side3 => exact cb_ HR1_2 HB)
    (case side4 => exact HC1_2.out)
    rintro e w34 ⟨rfl, hb⟩
    have HS10_ := (hb.cell (World.block_lt_of_cell? _ _ (hHeld.2.2.2.2.2.2.2.2.2.2.1))).trans (hHeld.2.2.2.2.2.2.2.2.2.2.1)
    refine ⟨_, rfl, ?_⟩
    have _ := Q_ (Kd.S_below (ps_ HO_9.out) hb)
    have _ := Q_ (Kd.R_below (pr_ HO_10.out) hb)
    have _ := Q_ (bb_ BK228.out hb)
    have _ := Q_ (bb_ BK229.out hb)
    have _ := Q_ (below_step (pb2_ HB.out GE228.out GE229.out) hb)
    clear HO_9 HO_10 BK228 BK229 HB
    rename_i HO_9 HO_10 BK228 BK229 HB
    (try clear hb)
    (try clear hb2)
    (try clear hk)
    (try clear hi)
    refine hK.out _ _ ⟨(blk_cell BK228.out 0).trans rfl, (blk_cell BK228.out 1).trans rfl, (blk_cell BK228.out 2).trans rfl, (blk_cell BK229.out 0).trans rfl, (blk_cell BK229.out 1).trans rfl, (blk_cell BK229.out 2).trans rfl, (bt_ HB hw253_0), (bt_ HB hw253_1), (bt_ HB hw253_2), (bt_ HB hw253_3), HS10_, (bt_ HB hw256_0), (bt_ HB hw256_1), (bt_ HB hw256_2), (bt_ HB hw256_3)⟩ (fun hHeld => ?_)
    clear hK K
    refine no_ (some 89) ?_
    refine pu_ 16 (some 90) (tf_ 17 23) HT_ ?_
    refine pu_ 17 (some 91) (tf_ 18 23) HT_ ?_
    refine ta_ 18 (some 92) (tf_ 19 23) HT_ HW_ hHeld ?_
    refine on_ 19 (some 93) (tf_ 20 23) HT_ (fun K hK => ?_)
    refine Kd.R_lit_step (Kd.int .i64) _ 3 ?hg (N := 93) ?hd (xs := ([(rd_T78 l0_2 t252).f3, (rd_T78 l1_2 t255).f3] : List Int)) (inner := [.int .i64 ((rd_T78 l0_2 t252).f3), .int .i64 ((rd_T78 l1_2 t255).f3)]) (ok := fun _ => True) (okp := fun _ => True) ?hr ?hp (fun _ hk => hk) trivial (Below.refl _ _) (Nat.le_refl _) (by simp) ?_; (case hd => rfl); (case hg => rfl); (case hr => first | (go_simp; done) | (go_simp; rfl)); (case hp => exact (Reps.one (show Kd.M (Kd.int .i64) _ _ _ ((rd_T78 l0_2 t252).f3) [.int .i64 ((rd_T78 l0_2 t252).f3)] from rfl) (Reps.one (show Kd.M (Kd.int .i64) _ _ _ ((rd_T78 l1_2 t255).f3) [.int .i64 ((rd_T78 l1_2 t255).f3)] from rfl) (Reps.none _ _))))
    intro v258 w35 ho36 hb hg_ hnew_
    have HS10_ := (hb.cell (World.block_lt_of_cell? _ _ (hHeld.2.2.2.2.2.2.2.2.2.2.1))).trans (hHeld.2.2.2.2.2.2.2.2.2.2.1)
    clear hg_ hnew_
    (first | rw [← Ny257.out] at ho36 | (simp only [Int.reduceToNat] at ho36; rw [← Ny257.out] at ho36))
    have _ := Q_ (Kd.S_elder' (ps_ HO_9.out) (Kd.R_base ho36) hb)
    have _ := Q_ (Kd.R_elder' (pr_ HO_10.out) (Kd.R_base ho36) hb)
    have _ := Q_ (Kd.R_lower (Kd.R_new' ho36 (Kd.R_lt (pr_ HO_10.out))) (below_size (pb2_ HB.out GE228.out GE229.out)))
    have _ := Q_ (bb_ BK228.out hb)
    have _ := Q_ (bb_ BK229.out hb)
    have _ := Q_ (below_step (pb2_ HB.out GE228.out GE229.out) hb)
    clear HO_9 HO_10 BK228 BK229 HB
    rename_i HO_9 HO_10 HO259 BK228 BK229 HB
    clear hb ho36
    obtain ⟨Ao38, co38, eo38⟩ := Kd.R_slice HO259.out
    (first | subst eo38 | (injection eo38 with f1_ f2_ f3_; have f4_ := f1_.symm; have f5_ := f3_.symm; clear f1_ f2_ f3_; subst f4_; subst f5_))
    refine hK.out _ _ ⟨(blk_cell BK228.out 0).trans rfl, (blk_cell BK228.out 1).trans rfl, (blk_cell BK228.out 2).trans rfl, (blk_cell BK229.out 0).trans rfl, (blk_cell BK229.out 1).trans rfl, (blk_cell BK229.out 2).trans rfl, (bt_ HB hw253_0), (bt_ HB hw253_1), (bt_ HB hw253_2), (bt_ HB hw253_3), HS10_, (bt_ HB hw256_0), (bt_ HB hw256_1), (bt_ HB hw256_2), (bt_ HB hw256_3)⟩ (fun hHeld => ?_)
    clear hK K
    refine no_ (some 93) ?_
    refine last_ (i := 20) (N := some 94) #[true, true, true, true, true, true, true, true, true, true, true, true, true, true, true, true, true, true, true, true, true, false, false] rfl rfl (one_of HT_.out (by kernel_rfl)) (by decide) (fun K hK => ?_)
    refine value_ (w1 := ?_) (v := ?_) (by rfl) rfl ?_ ?_
    rotate_left 2
    · go_simp
      constructor
      · rfl
      · rfl
    refine hK.out _ _ ?_
    clear hK K
    refine no_ (some 94) ?_
    refine last_ (i := 21) (N := some 95) #[true, true, true, true, true, true, true, true, true, true, true, true, true, true, true, true, true, true, true, true, true, true, false] rfl rfl (one_of HT_.out (by kernel_rfl)) (by decide) (fun K hK => ?_)
    refine Kd.S_append_step (Kd.slice 3 (Kd.int .i64)) (w0 := w) w.heap.size (by rfl) (.tmp 74) (.tmp 94) 83 39 (.slice none 0 0) 24 rfl Try.underlying83 info39 rfl (by decide) (by omega) u9 x9_2 y257 [.slice Ao38 y257.length co38] (fun k_ => some k_ ≠ (.slice (some ad251) t248.length co23 : Value).ownBlock) (fun k_ => some k_ = (.slice Ao38 y257.length co38 : Value).ownBlock) rfl rfl ?aP (fun k_ hk_ => ((Kd.R_mono (ok' := fun k_ => ((fun k_ => some k_ ≠ (.slice (some ad251) t248.length co23 : Value).ownBlock)) k_ ∧ some k_ ≠ (u9 : Value).ownBlock) (Kd.R_apart' (HO259.out) (Kd.S_typed HO_9.out) (by decide)) (fun k_ hk => ⟨hk.1.2, hk.2⟩))).1 k_ hk_.symm) ?aF ?aO ?aB ?aS ?aL ?_
    (case aP => exact Kd.M_row (Kd.R_mono (Kd.R_tight rfl (Kd.R_mono (ok' := fun k_ => ((fun k_ => some k_ ≠ (.slice (some ad251) t248.length co23 : Value).ownBlock)) k_ ∧ some k_ ≠ (u9 : Value).ownBlock) (Kd.R_apart' (HO259.out) (Kd.S_typed HO_9.out) (by decide)) (fun k_ hk => ⟨hk.1.2, hk.2⟩))) (fun _ h_ => h_)))
    (case aB => exact (pb2_ HB.out GE228.out GE229.out))
    (case aF => exact (fun k_ hk => Kd.fresh' (Kd.R_lt (pr_ HO_10.out)) k_ hk))
    (case aO => exact (by (with_reducible repeat (first | apply Kd.S_alloc | apply Kd.S_drewN | apply Kd.S_drew)); exact Kd.S_mono HO_9.out (fun k_ hk => ⟨hk.1, fun e_ => hk.2 e_⟩)))
    (case aS => exact (below_size (pb2_ HB.out GE228.out GE229.out)))
    (case aL => have := LMc32.out; omega)
    intro v261 w37 ho hb hg hat
    rw [← Ny260.out] at ho
    have _ := Q_ (Kd.R_over' (pr_ HO_10.out) (Kd.S_typed (ps_ HO_9.out)) (by decide) hg)
    have _ := Q_ (blk_grown (g := gb228) (o := .cells #[.int .i64 a0_0, .slice A0_1 l0_1.length c0_1, .slice (some ad253) l0_2.length c0_2] 34 (0, 0)) (pk_ BK228.out) hg (Kd.S_ne HO_9.out BK228.out (by decide)))
    have _ := Q_ (blk_grown (g := gb229) (o := .cells #[.int .i64 a1_0, .slice A1_1 l1_1.length c1_1, .slice (some ad256) l1_2.length c1_2] 34 (0, 0)) (pk_ BK229.out) hg (Kd.S_ne HO_9.out BK229.out (by decide)))
    have _ := Q_ (hb)
    have _ := Q_ (ho)
    clear HO_10 BK228 BK229 HB HO_9 HO259
    rename_i HO_10 BK228 BK229 HB HO262
    clear ho hb hg hat
    refine hK.out _ _ ?_
    clear hK K
    refine no_ (some 95) ?_
    refine pu_ 22 (some 9) (tf_ 23 23) HT_ ?_
    refine done_ (done_of HT_.out (by kernel_rfl)) ?_
    try go_wp2
    go_roundg k2
    case measure => have := HK1.out; have := HK2.out; omega
    case rel => exact ⟨(y260), (wrap64 (x13_2 + 1)), el_, H', ⟨by have := HK1.out; have := HK2.out; omega⟩, ⟨ps_ HO262.out⟩, ⟨pr_ (Kd.R_mono HO_10.out (fun _ hk => trivial))⟩, ⟨pk_ BK228.out⟩, ⟨pk_ BK229.out⟩, ⟨pb2_ HB.out GE228.out GE229.out⟩⟩
  rw [if_pos c13] at H
  have c13b0 : decide (x11_1 < (t233.length : Int)) = true := decide_eq_true c13
  clear c13
  by_cases c39 : 0 ≤ x11_1
  rotate_left
  · rw [if_neg c39] at H
    exact absurd H (by simp)
  rw [if_pos c39] at H
  have c39b0 : decide (0 ≤ x11_1) = true := decide_eq_true c39
  clear c39
  replace H := Option.bind_eq_some_iff.mp H
  obtain ⟨t237, A400, H⟩ := H
  (try dsimp only at H)
  have A40 := Q_ A400
  clear A400
  have HS_ := Q_ H
  clear H
  obtain ⟨Ao41, co41, eo41⟩ := Kd.R_slice HO_10.out
  subst eo41
  try go_wp2
  have _ := Q_ (Kd.S_drew HO_9.out)
  have _ := Q_ (Kd.R_drew HO_10.out)
  have _ := Q_ (blk_drew BK228.out)
  have _ := Q_ (blk_drew BK229.out)
  have _ := Q_ (below_drew1 HB.out)
  clear HO_9 HO_10 BK228 BK229 HB
  rename_i HO_9 HO_10 BK228 BK229 HB
  have p236 : 0 ≤ (x11_1 : Int) := dt_
  have q236 : x11_1 < (t233.length : Int) := dt_
  obtain ⟨ad236, e236, hx236_0⟩ := Kd.at_int (Kd.R_reads' HO_10.out).2.2 x11_1 p236 q236
  cases e236
  replace p236 := eq_true p236
  replace q236 := eq_true q236
  refine start_ (n := 8) (S := fun w' => w'.cell? ⟨gb229, 0, none⟩ = some (.int .i64 a1_0) ∧ w'.cell? ⟨gb229, 1, none⟩ = some (.slice A1_1 l1_1.length c1_1) ∧ w'.cell? ⟨gb229, 2, none⟩ = some (.slice A1_2 l1_2.length c1_2) ∧ w'.cell? (ad236.add (x11_1).toNat) = some (.int .i64 (rd t233 x11_1))) (ds := []) (tf_ 0 8) (by kernel_rfl) rfl rfl ⟨(blk_cell BK229.out 0).trans rfl, (blk_cell BK229.out 1).trans rfl, (blk_cell BK229.out 2).trans rfl, hx236_0⟩ (fun hHeld => ?_); refine with_tabW spec_NextPairs.tab6 spec_NextPairs.bits6 (fun HT_ HW_ => ?_)
  generalize wr.drew = w42 at HO_9 HO_10 BK228 BK229 HB hx236_0 hHeld ⊢
  refine pu_ 1 (some 26) (tm_ 8 2) HT_ ?_
  refine pu_ 2 (some 27) (tm_ 8 6) HT_ ?_
  refine pu_ 3 (some 28) (tm_ 8 14) HT_ ?_
  refine pu_ 4 (some 29) (tm_ 8 30) HT_ ?_
  refine ta_ 0 (some 25) (tf_ 5 8) HT_ HW_ hHeld ?_
  refine ta_ 5 (some 30) (tf_ 6 8) HT_ HW_ hHeld ?_
  refine on_ 6 (some 31) (tf_ 7 8) HT_ (fun K hK => ?_)
  refine goes_ Try.func68 (by kernel_rfl) rfl #[.agg #[.int .i64 a1_0, .slice A1_1 l1_1.length c1_1, .slice A1_2 l1_2.length c1_2], .int .i64 a3, .bool false, .int .i64 (rd t233 x11_1)] (by rfl) rfl rfl mp_ ?_
  with_reducible refine (spec_MoveOf.calls k1 a1_0 _ _ l1_1 _ _ l1_2 a3 false (rd t233 x11_1) t237 _ ?side1 ?side2 ?side3 ?side4 A40.out).mono ?_
  (case side1 => exact cb_ HR1_1 HB)
  (case side2 => exact HC1_1.out)
  (case side3 => exact cb_ HR1_2 HB)
  (case side4 => exact HC1_2.out)
  rintro e w43 ⟨rfl, hb⟩
  have HS3_ := (hb.cell (World.block_lt_of_cell? _ _ (hHeld.2.2.2))).trans (hHeld.2.2.2)
  refine ⟨_, rfl, ?_⟩
  have _ := Q_ (Kd.S_below (ps_ HO_9.out) hb)
  have _ := Q_ (Kd.R_below (pr_ HO_10.out) hb)
  have _ := Q_ (bb_ BK228.out hb)
  have _ := Q_ (bb_ BK229.out hb)
  have _ := Q_ (below_step (pb2_ HB.out GE228.out GE229.out) hb)
  clear HO_9 HO_10 BK228 BK229 HB
  rename_i HO_9 HO_10 BK228 BK229 HB
  (try clear hb)
  (try clear hb2)
  (try clear hk)
  (try clear hi)
  refine hK.out _ _ ⟨(blk_cell BK229.out 0).trans rfl, (blk_cell BK229.out 1).trans rfl, (blk_cell BK229.out 2).trans rfl, HS3_⟩ (fun hHeld => ?_)
  clear hK K
  refine no_ (some 31) ?_
  refine pu_ 7 (some 12) (tf_ 8 8) HT_ ?_
  refine done_ (done_of HT_.out (by kernel_rfl)) ?_
  go_upto_if 33 with (fail)
  have H := HS_.out
  clear HS_
  by_cases c44 : t237 ≥ 0
  rotate_left
  · rw [if_neg c44] at H
    have c44b0 : decide (0 ≤ t237) = false := decide_eq_false c44
    clear c44
    (first | rw [c44b0] | (simp only [i64_w, i32_w]; rw [c44b0]) | skip)
    have H' := Q_ H
    clear H
    go_wp2
    go_roundg k1
    case measure => have := HK1.out; omega
    case rel => exact ⟨(x9_1), (wrap64 (x11_1 + 1)), el_, H', ⟨by have := HK1.out; omega⟩, ⟨ps_ HO_9.out⟩, ⟨pr_ HO_10.out⟩, ⟨pk_ BK228.out⟩, ⟨pk_ BK229.out⟩, ⟨pb2_ HB.out GE228.out GE229.out⟩⟩
  rw [if_pos c44] at H
  have c44b0 : decide (0 ≤ t237) = true := decide_eq_true c44
  clear c44
  (first | rw [c44b0] | (simp only [i64_w, i32_w]; rw [c44b0]) | skip)
  replace H := Option.bind_eq_some_iff.mp H
  obtain ⟨t239, A450, H⟩ := H
  (try dsimp only at H)
  have A45 := Q_ A450
  clear A450
  by_cases c46 : 0 ≤ t239
  rotate_left
  · rw [if_neg c46] at H
    exact absurd H (by simp)
  rw [if_pos c46] at H
  have c46b0 : decide (0 ≤ t239) = true := decide_eq_true c46
  clear c46
  by_cases c47 : t239 < (l0_2.length : Int)
  rotate_left
  · rw [if_neg c47] at H
    exact absurd H (by simp)
  rw [if_pos c47] at H
  have c47b0 : decide (t239 < (l0_2.length : Int)) = true := decide_eq_true c47
  clear c47
  by_cases c48 : 0 ≤ t237
  rotate_left
  · rw [if_neg c48] at H
    exact absurd H (by simp)
  rw [if_pos c48] at H
  have c48b0 : decide (0 ≤ t237) = true := decide_eq_true c48
  clear c48
  by_cases c49 : t237 < (l1_2.length : Int)
  rotate_left
  · rw [if_neg c49] at H
    exact absurd H (by simp)
  rw [if_pos c49] at H
  have c49b0 : decide (t237 < (l1_2.length : Int)) = true := decide_eq_true c49
  clear c49
  obtain ⟨y242, hy242⟩ : ∃ y_ : List Int, y_ = (([(rd_T78 l0_2 t239).f3, (rd_T78 l1_2 t237).f3] : List Int)) := ⟨_, rfl⟩
  replace H : (if x9_1.length < 5864062014805 then (spec_NextPairs.l0 k1 a2 a3 (x9_1 ++ [y242]) t233 (wrap64 (x11_1 + 1)) a0_0 l0_1 l0_2 a1_0 l1_1 l1_2) else (none)) = some r := by first | (rw [hy242]; with_reducible exact H) | (have H2_ := (Option.bind_some _ _).symm.trans H; rw [hy242]; with_reducible exact H2_) | (have H2_ := (Option.bind_some _ _).symm.trans H; with_reducible exact H2_) | with_reducible exact H | (rw [hy242]; exact H) | exact H
  have Ny242 := Q_ hy242
  clear hy242
  by_cases c50 : x9_1.length < 5864062014805
  rotate_left
  · rw [if_neg c50] at H
    exact absurd H (by simp)
  rw [if_pos c50] at H
  have LMc50 := Q_ c50
  clear c50
  obtain ⟨y245, hy245⟩ : ∃ y_ : List (List Int), y_ = (x9_1 ++ [y242]) := ⟨_, rfl⟩
  replace H : (spec_NextPairs.l0 k1 a2 a3 y245 t233 (wrap64 (x11_1 + 1)) a0_0 l0_1 l0_2 a1_0 l1_1 l1_2) = some r := by first | (rw [hy245]; with_reducible exact H) | (have H2_ := (Option.bind_some _ _).symm.trans H; rw [hy245]; with_reducible exact H2_) | (have H2_ := (Option.bind_some _ _).symm.trans H; with_reducible exact H2_) | with_reducible exact H | (rw [hy245]; exact H) | exact H
  have Ny245 := Q_ hy245
  clear hy245
  have H' := Q_ H
  clear H
  try go_wp2
  have _ := Q_ (Kd.S_drew HO_9.out)
  have _ := Q_ (Kd.R_drew HO_10.out)
  have _ := Q_ (blk_drew BK228.out)
  have _ := Q_ (blk_drew BK229.out)
  have _ := Q_ (below_drew1 HB.out)
  clear HO_9 HO_10 BK228 BK229 HB
  rename_i HO_9 HO_10 BK228 BK229 HB
  have p238 : 0 ≤ (x11_1 : Int) := dt_
  have q238 : x11_1 < (t233.length : Int) := dt_
  obtain ⟨ad238, e238, hx238_0⟩ := Kd.at_int (Kd.R_reads' HO_10.out).2.2 x11_1 p238 q238
  obtain rfl : ad236 = ad238 := (by injection e238)
  replace p238 := eq_true p238
  replace q238 := eq_true q238
  have p241 : 0 ≤ (t237 : Int) := dt_
  have q241 : t237 < (l1_2.length : Int) := dt_
  obtain ⟨ad241, e241, hx241_0, hx241_1, hx241_2, hx241_3⟩ := at_T78 HR1_2.out t237 p241 q241
  have hw241_3 := hx241_3
  have hw241_2 := hx241_2
  have hw241_1 := hx241_1
  have hw241_0 := hx241_0
  cases e241
  replace hx241_0 := bt_ HB hx241_0
  replace hx241_1 := bt_ HB hx241_1
  replace hx241_2 := bt_ HB hx241_2
  replace hx241_3 := bt_ HB hx241_3
  replace p241 := eq_true p241
  replace q241 := eq_true q241
  have p240 : 0 ≤ (t239 : Int) := dt_
  have q240 : t239 < (l0_2.length : Int) := dt_
  obtain ⟨ad240, e240, hx240_0, hx240_1, hx240_2, hx240_3⟩ := at_T78 HR0_2.out t239 p240 q240
  have hw240_3 := hx240_3
  have hw240_2 := hx240_2
  have hw240_1 := hx240_1
  have hw240_0 := hx240_0
  cases e240
  replace hx240_0 := bt_ HB hx240_0
  replace hx240_1 := bt_ HB hx240_1
  replace hx240_2 := bt_ HB hx240_2
  replace hx240_3 := bt_ HB hx240_3
  replace p240 := eq_true p240
  replace q240 := eq_true q240
  refine start_ (n := 23) (S := fun w' => w'.cell? ⟨gb228, 0, none⟩ = some (.int .i64 a0_0) ∧ w'.cell? ⟨gb228, 1, none⟩ = some (.slice A0_1 l0_1.length c0_1) ∧ w'.cell? ⟨gb228, 2, none⟩ = some (.slice (some ad240) l0_2.length c0_2) ∧ w'.cell? ⟨gb229, 0, none⟩ = some (.int .i64 a1_0) ∧ w'.cell? ⟨gb229, 1, none⟩ = some (.slice A1_1 l1_1.length c1_1) ∧ w'.cell? ⟨gb229, 2, none⟩ = some (.slice (some ad241) l1_2.length c1_2) ∧ w'.cell? (ad236.add (x11_1).toNat) = some (.int .i64 (rd t233 x11_1)) ∧ w'.cell? (ad241.add ((t237).toNat * 4)) = some (.int .i64 ((rd_T78 l1_2 t237).f0)) ∧ w'.cell? ⟨(ad241.add ((t237).toNat * 4)).block, (ad241.add ((t237).toNat * 4)).off + 1, none⟩ = some (.bool ((rd_T78 l1_2 t237).f1)) ∧ w'.cell? ⟨(ad241.add ((t237).toNat * 4)).block, (ad241.add ((t237).toNat * 4)).off + 2, none⟩ = some (.int .i64 ((rd_T78 l1_2 t237).f2)) ∧ w'.cell? ⟨(ad241.add ((t237).toNat * 4)).block, (ad241.add ((t237).toNat * 4)).off + 3, none⟩ = some (.int .i64 ((rd_T78 l1_2 t237).f3)) ∧ w'.cell? (ad240.add ((t239).toNat * 4)) = some (.int .i64 ((rd_T78 l0_2 t239).f0)) ∧ w'.cell? ⟨(ad240.add ((t239).toNat * 4)).block, (ad240.add ((t239).toNat * 4)).off + 1, none⟩ = some (.bool ((rd_T78 l0_2 t239).f1)) ∧ w'.cell? ⟨(ad240.add ((t239).toNat * 4)).block, (ad240.add ((t239).toNat * 4)).off + 2, none⟩ = some (.int .i64 ((rd_T78 l0_2 t239).f2)) ∧ w'.cell? ⟨(ad240.add ((t239).toNat * 4)).block, (ad240.add ((t239).toNat * 4)).off + 3, none⟩ = some (.int .i64 ((rd_T78 l0_2 t239).f3))) (ds := [20, 21]) #[false, false, false, false, false, false, false, false, false, false, false, false, false, false, false, false, false, false, false, false, false, false, false] (by kernel_rfl) rfl rfl ⟨(blk_cell BK228.out 0).trans rfl, (blk_cell BK228.out 1).trans rfl, (blk_cell BK228.out 2).trans rfl, (blk_cell BK229.out 0).trans rfl, (blk_cell BK229.out 1).trans rfl, (blk_cell BK229.out 2).trans rfl, hx238_0, (bt_ HB hw241_0), (bt_ HB hw241_1), (bt_ HB hw241_2), (bt_ HB hw241_3), (bt_ HB hw240_0), (bt_ HB hw240_1), (bt_ HB hw240_2), (bt_ HB hw240_3)⟩ (fun hHeld => ?_); refine with_tabW spec_NextPairs.tab8 spec_NextPairs.bits8 (fun HT_ HW_ => ?_)
  generalize w43.drew = w51 at HO_9 HO_10 BK228 BK229 HB hx238_0 hx240_0 hx240_1 hx240_2 hx240_3 hx241_0 hx241_1 hx241_2 hx241_3 hHeld ⊢
  refine pu_ 0 (some 34) (tf_ 1 23) HT_ ?_
  refine pu_ 1 (some 35) (tf_ 2 23) HT_ ?_
  refine pu_ 4 (some 38) (tm_ 23 19) HT_ ?_
  refine pu_ 5 (some 39) (tm_ 23 51) HT_ ?_
  refine pu_ 6 (some 40) (tm_ 23 115) HT_ ?_
  refine pu_ 7 (some 41) (tm_ 23 243) HT_ ?_
  refine pu_ 13 (some 47) (tm_ 23 8435) HT_ ?_
  refine pu_ 15 (some 49) (tm_ 23 41203) HT_ ?_
  refine ta_ 2 (some 36) (tm_ 23 41207) HT_ HW_ hHeld ?_
  refine ta_ 3 (some 37) (tm_ 23 41215) HT_ HW_ hHeld ?_
  refine ta_ 8 (some 42) (tm_ 23 41471) HT_ HW_ hHeld ?_
  refine ta_ 14 (some 48) (tm_ 23 57855) HT_ HW_ hHeld ?_
  refine pu_ 16 (some 50) (tm_ 23 123391) HT_ ?_
  refine pu_ 17 (some 51) (tm_ 23 254463) HT_ ?_
  refine ta_ 18 (some 52) (tm_ 23 516607) HT_ HW_ hHeld ?_
  refine on_ 9 (some 43) (tm_ 23 517119) HT_ (fun K hK => ?_)
  refine goes_ Try.func68 (by kernel_rfl) rfl #[.agg #[.int .i64 a0_0, .slice A0_1 l0_1.length c0_1, .slice (some ad240) l0_2.length c0_2], .int .i64 a2, .bool true, .int .i64 (rd t233 x11_1)] (by rfl) rfl rfl mp_ ?_
  with_reducible refine (spec_MoveOf.calls k1 a0_0 _ _ l0_1 _ _ l0_2 a2 true (rd t233 x11_1) t239 _ ?side1 ?side2 ?side3 ?side4 A45.out).mono ?_
  (case side1 => exact cb_ HR0_1 HB)
  (case side2 => exact HC0_1.out)
  (case side3 => exact cb_ HR0_2 HB)
  (case side4 => exact HC0_2.out)
  rintro e w52 ⟨rfl, hb⟩
  have HS6_ := (hb.cell (World.block_lt_of_cell? _ _ (hHeld.2.2.2.2.2.2.1))).trans (hHeld.2.2.2.2.2.2.1)
  refine ⟨_, rfl, ?_⟩
  have _ := Q_ (Kd.S_below (ps_ HO_9.out) hb)
  have _ := Q_ (Kd.R_below (pr_ HO_10.out) hb)
  have _ := Q_ (bb_ BK228.out hb)
  have _ := Q_ (bb_ BK229.out hb)
  have _ := Q_ (below_step (pb2_ HB.out GE228.out GE229.out) hb)
  clear HO_9 HO_10 BK228 BK229 HB
  rename_i HO_9 HO_10 BK228 BK229 HB
  (try clear hb)
  (try clear hb2)
  (try clear hk)
  (try clear hi)
  refine hK.out _ _ ⟨(blk_cell BK228.out 0).trans rfl, (blk_cell BK228.out 1).trans rfl, (blk_cell BK228.out 2).trans rfl, (blk_cell BK229.out 0).trans rfl, (blk_cell BK229.out 1).trans rfl, (blk_cell BK229.out 2).trans rfl, HS6_, (bt_ HB hw241_0), (bt_ HB hw241_1), (bt_ HB hw241_2), (bt_ HB hw241_3), (bt_ HB hw240_0), (bt_ HB hw240_1), (bt_ HB hw240_2), (bt_ HB hw240_3)⟩ (fun hHeld => ?_)
  clear hK K
  refine no_ (some 43) ?_
  refine pu_ 10 (some 44) (tm_ 23 518143) HT_ ?_
  refine pu_ 11 (some 45) (tm_ 23 520191) HT_ ?_
  refine ta_ 12 (some 46) (tf_ 19 23) HT_ HW_ hHeld ?_
  refine on_ 19 (some 53) (tf_ 20 23) HT_ (fun K hK => ?_)
  refine Kd.R_lit_step (Kd.int .i64) _ 3 ?hg (N := 53) ?hd (xs := ([(rd_T78 l0_2 t239).f3, (rd_T78 l1_2 t237).f3] : List Int)) (inner := [.int .i64 ((rd_T78 l0_2 t239).f3), .int .i64 ((rd_T78 l1_2 t237).f3)]) (ok := fun _ => True) (okp := fun _ => True) ?hr ?hp (fun _ hk => hk) trivial (Below.refl _ _) (Nat.le_refl _) (by simp) ?_; (case hd => rfl); (case hg => rfl); (case hr => first | (go_simp; done) | (go_simp; rfl)); (case hp => exact (Reps.one (show Kd.M (Kd.int .i64) _ _ _ ((rd_T78 l0_2 t239).f3) [.int .i64 ((rd_T78 l0_2 t239).f3)] from rfl) (Reps.one (show Kd.M (Kd.int .i64) _ _ _ ((rd_T78 l1_2 t237).f3) [.int .i64 ((rd_T78 l1_2 t237).f3)] from rfl) (Reps.none _ _))))
  intro v243 w53 ho54 hb hg_ hnew_
  have HS6_ := (hb.cell (World.block_lt_of_cell? _ _ (hHeld.2.2.2.2.2.2.1))).trans (hHeld.2.2.2.2.2.2.1)
  clear hg_ hnew_
  (first | rw [← Ny242.out] at ho54 | (simp only [Int.reduceToNat] at ho54; rw [← Ny242.out] at ho54))
  have _ := Q_ (Kd.S_elder' (ps_ HO_9.out) (Kd.R_base ho54) hb)
  have _ := Q_ (Kd.R_elder' (pr_ HO_10.out) (Kd.R_base ho54) hb)
  have _ := Q_ (Kd.R_lower (Kd.R_new' ho54 (Kd.R_lt (pr_ HO_10.out))) (below_size (pb2_ HB.out GE228.out GE229.out)))
  have _ := Q_ (bb_ BK228.out hb)
  have _ := Q_ (bb_ BK229.out hb)
  have _ := Q_ (below_step (pb2_ HB.out GE228.out GE229.out) hb)
  clear HO_9 HO_10 BK228 BK229 HB
  rename_i HO_9 HO_10 HO244 BK228 BK229 HB
  clear hb ho54
  obtain ⟨Ao56, co56, eo56⟩ := Kd.R_slice HO244.out
  (first | subst eo56 | (injection eo56 with f1_ f2_ f3_; have f4_ := f1_.symm; have f5_ := f3_.symm; clear f1_ f2_ f3_; subst f4_; subst f5_))
  refine hK.out _ _ ⟨(blk_cell BK228.out 0).trans rfl, (blk_cell BK228.out 1).trans rfl, (blk_cell BK228.out 2).trans rfl, (blk_cell BK229.out 0).trans rfl, (blk_cell BK229.out 1).trans rfl, (blk_cell BK229.out 2).trans rfl, HS6_, (bt_ HB hw241_0), (bt_ HB hw241_1), (bt_ HB hw241_2), (bt_ HB hw241_3), (bt_ HB hw240_0), (bt_ HB hw240_1), (bt_ HB hw240_2), (bt_ HB hw240_3)⟩ (fun hHeld => ?_)
  clear hK K
  refine no_ (some 53) ?_
  refine last_ (i := 20) (N := some 54) #[true, true, true, true, true, true, true, true, true, true, true, true, true, true, true, true, true, true, true, true, true, false, false] rfl rfl (one_of HT_.out (by kernel_rfl)) (by decide) (fun K hK => ?_)
  refine value_ (w1 := ?_) (v := ?_) (by rfl) rfl ?_ ?_
  rotate_left 2
  · go_simp
    constructor
    · rfl
    · rfl
  refine hK.out _ _ ?_
  clear hK K
  refine no_ (some 54) ?_
  refine last_ (i := 21) (N := some 55) #[true, true, true, true, true, true, true, true, true, true, true, true, true, true, true, true, true, true, true, true, true, true, false] rfl rfl (one_of HT_.out (by kernel_rfl)) (by decide) (fun K hK => ?_)
  refine Kd.S_append_step (Kd.slice 3 (Kd.int .i64)) (w0 := w) w.heap.size (by rfl) (.tmp 34) (.tmp 54) 83 39 (.slice none 0 0) 24 rfl Try.underlying83 info39 rfl (by decide) (by omega) u9 x9_1 y242 [.slice Ao56 y242.length co56] (fun k_ => some k_ ≠ (.slice (some ad236) t233.length co41 : Value).ownBlock) (fun k_ => some k_ = (.slice Ao56 y242.length co56 : Value).ownBlock) rfl rfl ?aP (fun k_ hk_ => ((Kd.R_mono (ok' := fun k_ => ((fun k_ => some k_ ≠ (.slice (some ad236) t233.length co41 : Value).ownBlock)) k_ ∧ some k_ ≠ (u9 : Value).ownBlock) (Kd.R_apart' (HO244.out) (Kd.S_typed HO_9.out) (by decide)) (fun k_ hk => ⟨hk.1.2, hk.2⟩))).1 k_ hk_.symm) ?aF ?aO ?aB ?aS ?aL ?_
  (case aP => exact Kd.M_row (Kd.R_mono (Kd.R_tight rfl (Kd.R_mono (ok' := fun k_ => ((fun k_ => some k_ ≠ (.slice (some ad236) t233.length co41 : Value).ownBlock)) k_ ∧ some k_ ≠ (u9 : Value).ownBlock) (Kd.R_apart' (HO244.out) (Kd.S_typed HO_9.out) (by decide)) (fun k_ hk => ⟨hk.1.2, hk.2⟩))) (fun _ h_ => h_)))
  (case aB => exact (pb2_ HB.out GE228.out GE229.out))
  (case aF => exact (fun k_ hk => Kd.fresh' (Kd.R_lt (pr_ HO_10.out)) k_ hk))
  (case aO => exact (by (with_reducible repeat (first | apply Kd.S_alloc | apply Kd.S_drewN | apply Kd.S_drew)); exact Kd.S_mono HO_9.out (fun k_ hk => ⟨hk.1, fun e_ => hk.2 e_⟩)))
  (case aS => exact (below_size (pb2_ HB.out GE228.out GE229.out)))
  (case aL => have := LMc50.out; omega)
  intro v246 w55 ho hb hg hat
  rw [← Ny245.out] at ho
  have _ := Q_ (Kd.R_over' (pr_ HO_10.out) (Kd.S_typed (ps_ HO_9.out)) (by decide) hg)
  have _ := Q_ (blk_grown (g := gb228) (o := .cells #[.int .i64 a0_0, .slice A0_1 l0_1.length c0_1, .slice (some ad240) l0_2.length c0_2] 34 (0, 0)) (pk_ BK228.out) hg (Kd.S_ne HO_9.out BK228.out (by decide)))
  have _ := Q_ (blk_grown (g := gb229) (o := .cells #[.int .i64 a1_0, .slice A1_1 l1_1.length c1_1, .slice (some ad241) l1_2.length c1_2] 34 (0, 0)) (pk_ BK229.out) hg (Kd.S_ne HO_9.out BK229.out (by decide)))
  have _ := Q_ (hb)
  have _ := Q_ (ho)
  clear HO_10 BK228 BK229 HB HO_9 HO244
  rename_i HO_10 BK228 BK229 HB HO247
  clear ho hb hg hat
  refine hK.out _ _ ?_
  clear hK K
  refine no_ (some 55) ?_
  refine pu_ 22 (some 9) (tf_ 23 23) HT_ ?_
  refine done_ (done_of HT_.out (by kernel_rfl)) ?_
  try go_wp2
  go_roundg k1
  case measure => have := HK1.out; omega
  case rel => exact ⟨(y245), (wrap64 (x11_1 + 1)), el_, H', ⟨by have := HK1.out; omega⟩, ⟨ps_ HO247.out⟩, ⟨pr_ (Kd.R_mono HO_10.out (fun _ hk => trivial))⟩, ⟨pk_ BK228.out⟩, ⟨pk_ BK229.out⟩, ⟨pb2_ HB.out GE228.out GE229.out⟩⟩

end Go.Proofs.Ytldcchjbaglppaa.Print
