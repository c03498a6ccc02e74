-- Written by a program of this session (printx.py) out of the translation; Lean checks it.
import Derived.Test.YtldcchjbaglppaaPrint0
import Derived.Test.YtldcchjbaglppaaPrint1
import Derived.Test.YtldcchjbaglppaaPrint2
namespace Go.Proofs.Ytldcchjbaglppaa.Print
open Go.RowKit Go.Proofs.YtldcchjbaglppaaW.PrintWords Go.Proofs.YtldcchjbaglppaaW.PrintLast Go.Proofs.YtldcchjbaglppaaW.PrintMore Go.Proofs.Ytldcchjbaglppaa.Short
attribute [local go_sem] max2_int min2_int max_two min_two max_three min_three max_four min_four   -- for this text's walks alone
set_option linter.unusedVariables false
set_option linter.unusedSimpArgs false

/-! ### spec_NextPairs: function 85 -/
mutual
def spec_NextPairs.l0 : Nat → Int → Int → List (List Int) → List Int → Int → Int → List Bool → List (S78) → Int → List Bool → List (S78) → Option ((List (List Int)))
  | 0, _, _, _, _, _, _, _, _, _, _, _ => none
  | k + 1, x2, x3, x9, x10, x11, x177000, x177001, x177002, x178000, x178001, x178002 => if x11 < (x10.length : Int) then (if 0 ≤ x11 then ((spec_MoveOf.f k x178000 x178001 x178002 x3 false (rd x10 x11)).bind fun t185 => (if t185 ≥ 0 then ((spec_MoveOf.f k x177000 x177001 x177002 x2 true (rd x10 x11)).bind fun t187 => (if 0 ≤ t187 then (if t187 < (x177002.length : Int) then (if 0 ≤ t185 then (if t185 < (x178002.length : Int) then (if x9.length < 5864062014805 then (spec_NextPairs.l0 k x2 x3 (x9 ++ [(([(rd_T78 x177002 t187).f3, (rd_T78 x178002 t185).f3] : List Int))]) x10 (wrap64 (x11 + 1)) x177000 x177001 x177002 x178000 x178001 x178002) else (none)) else (none)) else (none)) else (none)) else (none))) else (spec_NextPairs.l0 k x2 x3 x9 x10 (wrap64 (x11 + 1)) x177000 x177001 x177002 x178000 x178001 x178002))) else (none)) else ((spec_MovesFrom.f k x178000 x178001 x178002 x3 true).bind fun t196 => (spec_NextPairs.l1 k x2 x3 x9 t196 0 x177000 x177001 x177002 x178000 x178001 x178002))
def spec_NextPairs.l1 : Nat → Int → Int → List (List Int) → List Int → Int → Int → List Bool → List (S78) → Int → List Bool → List (S78) → Option ((List (List Int)))
  | 0, _, _, _, _, _, _, _, _, _, _, _ => none
  | k + 1, x2, x3, x9, x10, x13, x177000, x177001, x177002, x178000, x178001, x178002 => if x13 < (x10.length : Int) then (if 0 ≤ x13 then ((spec_MoveOf.f k x177000 x177001 x177002 x2 false (rd x10 x13)).bind fun t200 => (if t200 ≥ 0 then (if 0 ≤ t200 then (if t200 < (x177002.length : Int) then ((spec_MoveOf.f k x178000 x178001 x178002 x3 true (rd x10 x13)).bind fun t203 => (if 0 ≤ t203 then (if t203 < (x178002.length : Int) then (if x9.length < 5864062014805 then (spec_NextPairs.l1 k x2 x3 (x9 ++ [(([(rd_T78 x177002 t200).f3, (rd_T78 x178002 t203).f3] : List Int))]) x10 (wrap64 (x13 + 1)) x177000 x177001 x177002 x178000 x178001 x178002) else (none)) else (none)) else (none))) else (none)) else (none)) else (spec_NextPairs.l1 k x2 x3 x9 x10 (wrap64 (x13 + 1)) x177000 x177001 x177002 x178000 x178001 x178002))) else (none)) else (some x9)
end
def spec_NextPairs.f (k : Nat) (a0_0 : Int) (l0_1 : List Bool) (l0_2 : List (S78)) (a1_0 : Int) (l1_1 : List Bool) (l1_2 : List (S78)) (a2 : Int) (a3 : Int) : Option ((List (List Int))) := (spec_MovesFrom.f k a0_0 l0_1 l0_2 a2 true).bind fun t181 => (spec_NextPairs.l0 k a2 a3 (([] : List (List Int))) t181 0 a0_0 l0_1 l0_2 a1_0 l1_1 l1_2)
theorem spec_NextPairs.mono_l : ∀ k, (∀ y0 y1 y2 y3 y4 y5 y6 y7 y8 y9 y10, LeO (spec_NextPairs.l0 k y0 y1 y2 y3 y4 y5 y6 y7 y8 y9 y10) (spec_NextPairs.l0 (k + 1) y0 y1 y2 y3 y4 y5 y6 y7 y8 y9 y10)) ∧ (∀ y0 y1 y2 y3 y4 y5 y6 y7 y8 y9 y10, LeO (spec_NextPairs.l1 k y0 y1 y2 y3 y4 y5 y6 y7 y8 y9 y10) (spec_NextPairs.l1 (k + 1) y0 y1 y2 y3 y4 y5 y6 y7 y8 y9 y10))
  | 0 => ⟨fun _ _ _ _ _ _ _ _ _ _ _ r h => by simp [spec_NextPairs.l0] at h, fun _ _ _ _ _ _ _ _ _ _ _ r h => by simp [spec_NextPairs.l1] at h⟩
  | k + 1 => by
    obtain ⟨ih0, ih1⟩ := spec_NextPairs.mono_l k
    refine ⟨?_, ?_⟩
    · intro y0 y1 y2 y3 y4 y5 y6 y7 y8 y9 y10
      unfold spec_NextPairs.l0
      exact mo4_ ih0 ih1 spec_MoveOf.mono spec_MovesFrom.mono
    · intro y0 y1 y2 y3 y4 y5 y6 y7 y8 y9 y10
      unfold spec_NextPairs.l1
      exact mo4_ ih0 ih1 spec_MoveOf.mono spec_MovesFrom.mono
theorem spec_NextPairs.mono : ∀ a0 a1 a2 a3 a4 a5 a6 a7 k, LeO (spec_NextPairs.f k a0 a1 a2 a3 a4 a5 a6 a7) (spec_NextPairs.f (k + 1) a0 a1 a2 a3 a4 a5 a6 a7) := by
  intro a0 a1 a2 a3 a4 a5 a6 a7 k
  obtain ⟨ih0, ih1⟩ := spec_NextPairs.mono_l k
  unfold spec_NextPairs.f
  exact mo4_ ih0 ih1 spec_MoveOf.mono spec_MovesFrom.mono
def spec_NextPairs.T6 : Bool × List (List Nat × List Nat) := (true, [([], []), ([], []), ([], []), ([], []), ([2, 3], [2, 3]), ([4], [4]), ([0, 1, 5], [0, 1, 5]), ([6, 6, 0, 1, 2, 3, 4, 5, 6], [6])])
def spec_NextPairs.B6 : List Nat := [0, 0, 0, 0, 12, 28, 63, 127]
theorem spec_NextPairs.tab6 : rtab .any (opsOf Try.f85 6) = spec_NextPairs.T6 := by kernel_rfl
theorem spec_NextPairs.bits6 : waitsOk spec_NextPairs.T6.2 spec_NextPairs.B6 = true := by kernel_rfl
def spec_NextPairs.T8 : Bool × List (List Nat × List Nat) := (true, [([], []), ([], []), ([1], [1]), ([], []), ([], []), ([], []), ([], []), ([5, 6], [5, 6]), ([7], [7]), ([3, 4, 8], [3, 4, 8]), ([2, 9], [2, 9]), ([10], [10]), ([11], [11]), ([], []), ([13], [13]), ([], []), ([14, 15], [14, 15]), ([16], [16]), ([17], [17]), ([12, 18], [12, 18]), ([19], [19]), ([0, 20, 9], [0, 20]), ([21, 21, 0, 1, 2, 3, 4, 5, 6, 7, 8, 9, 10, 11, 12, 13, 14, 15, 16, 17, 18, 19, 20, 21], [0, 21])])
def spec_NextPairs.B8 : List Nat := [0, 0, 2, 0, 0, 0, 0, 96, 224, 504, 1022, 2046, 4094, 0, 8192, 0, 57344, 122880, 253952, 524286, 1048574, 2097151, 4194303]
theorem spec_NextPairs.tab8 : rtab .any (opsOf Try.f85 8) = spec_NextPairs.T8 := by kernel_rfl
theorem spec_NextPairs.bits8 : waitsOk spec_NextPairs.T8.2 spec_NextPairs.B8 = true := by kernel_rfl
def spec_NextPairs.T13 : Bool × List (List Nat × List Nat) := (true, [([], []), ([], []), ([], []), ([], []), ([2, 3], [2, 3]), ([4], [4]), ([0, 1, 5], [0, 1, 5]), ([6, 6, 0, 1, 2, 3, 4, 5, 6], [6])])
def spec_NextPairs.B13 : List Nat := [0, 0, 0, 0, 12, 28, 63, 127]
theorem spec_NextPairs.tab13 : rtab .any (opsOf Try.f85 13) = spec_NextPairs.T13 := by kernel_rfl
theorem spec_NextPairs.bits13 : waitsOk spec_NextPairs.T13.2 spec_NextPairs.B13 = true := by kernel_rfl
def spec_NextPairs.T15 : Bool × List (List Nat × List Nat) := (true, [([], []), ([], []), ([1], [1]), ([], []), ([2, 3], [2, 3]), ([4], [4]), ([5], [5]), ([], []), ([7], [7]), ([], []), ([], []), ([], []), ([], []), ([11, 12], [11, 12]), ([13], [13]), ([9, 10, 14], [9, 10, 14]), ([8, 15], [8, 15]), ([16], [16]), ([17], [17]), ([6, 18], [6, 18]), ([19], [19]), ([0, 20, 15], [0, 20]), ([21, 21, 0, 1, 2, 3, 4, 5, 6, 7, 8, 9, 10, 11, 12, 13, 14, 15, 16, 17, 18, 19, 20, 21], [0, 21])])
def spec_NextPairs.B15 : List Nat := [0, 0, 2, 0, 14, 30, 62, 0, 128, 0, 0, 0, 0, 6144, 14336, 32256, 65408, 130944, 262016, 524286, 1048574, 2097151, 4194303]
theorem spec_NextPairs.tab15 : rtab .any (opsOf Try.f85 15) = spec_NextPairs.T15 := by kernel_rfl
theorem spec_NextPairs.bits15 : waitsOk spec_NextPairs.T15.2 spec_NextPairs.B15 = true := by kernel_rfl
set_option maxHeartbeats 8000000 in
set_option maxRecDepth 100000 in
theorem spec_NextPairs.calls (k : Nat) (a0_0 : Int) (A0_1 : Option Addr) (c0_1 : Nat) (l0_1 : List Bool) (A0_2 : Option Addr) (c0_2 : Nat) (l0_2 : List (S78)) (a1_0 : Int) (A1_1 : Option Addr) (c1_1 : Nat) (l1_1 : List Bool) (A1_2 : Option Addr) (c1_2 : Nat) (l1_2 : List (S78)) (a2 : Int) (a3 : Int) (r : List (List Int)) (w : World) (hr0_1 : Kd.C Kd.bool w A0_1 l0_1.length l0_1) (hc0_1 : l0_1.length ≤ c0_1) (hr0_2 : Kd.C k78 w A0_2 l0_2.length l0_2) (hc0_2 : l0_2.length ≤ c0_2) (hr1_1 : Kd.C Kd.bool w A1_1 l1_1.length l1_1) (hc1_1 : l1_1.length ≤ c1_1) (hr1_2 : Kd.C k78 w A1_2 l1_2.length l1_2) (hc1_2 : l1_2.length ≤ c1_2) (h : spec_NextPairs.f k a0_0 l0_1 l0_2 a1_0 l1_1 l1_2 a2 a3 = some r) :
    Calls Try.prog 85 #[.agg #[.int .i64 a0_0, .slice A0_1 l0_1.length c0_1, .slice A0_2 l0_2.length c0_2], .agg #[.int .i64 a1_0, .slice A1_1 l1_1.length c1_1, .slice A1_2 l1_2.length c1_2], .int .i64 a2, .int .i64 a3] w fun e w' => ∃ v0_ : Value, e = .returned (v0_) ∧ Kd.S (Kd.slice 3 (Kd.int .i64)) 39 w' w.heap.size (fun _ => True) v0_ r ∧ Below w.heap.size w w' := by
  have hu34 := Try.underlying34
  have HR0_1 := Q_ hr0_1
  have HC0_1 := Q_ hc0_1
  clear hr0_1 hc0_1
  have HR0_2 := Q_ hr0_2
  have HC0_2 := Q_ hc0_2
  clear hr0_2 hc0_2
  have HR1_1 := Q_ hr1_1
  have HC1_1 := Q_ hc1_1
  clear hr1_1 hc1_1
  have HR1_2 := Q_ hr1_2
  have HC1_2 := Q_ hc1_2
  clear hr1_2 hc1_2
  have HB := Q_ (Below.refl w.heap.size w)
  have H : ((spec_MovesFrom.f k a0_0 l0_1 l0_2 a2 true).bind fun t181 => (spec_NextPairs.l0 k a2 a3 (([] : List (List Int))) t181 0 a0_0 l0_1 l0_2 a1_0 l1_1 l1_2)) = some r := h
  clear h
  obtain ⟨y178, hy178⟩ : ∃ y_ : List (List Int), y_ = (([] : List (List Int))) := ⟨_, rfl⟩
  replace H : ((spec_MovesFrom.f k a0_0 l0_1 l0_2 a2 true).bind fun t181 => (spec_NextPairs.l0 k a2 a3 y178 t181 0 a0_0 l0_1 l0_2 a1_0 l1_1 l1_2)) = some r := by first | (rw [hy178]; with_reducible exact H) | (have H2_ := (Option.bind_some _ _).symm.trans H; rw [hy178]; with_reducible exact H2_) | (have H2_ := (Option.bind_some _ _).symm.trans H; with_reducible exact H2_) | with_reducible exact H | (rw [hy178]; exact H) | exact H
  have Ny178 := Q_ hy178
  clear hy178
  replace H := Option.bind_eq_some_iff.mp H
  obtain ⟨t181, A50, H⟩ := H
  (try dsimp only at H)
  have A5 := Q_ A50
  clear A50
  have H' := Q_ H
  clear H
  go_enter Try.func85, Try.ntmps85
  go_wp2_with (first | ((with_reducible refine gate_dst (N := 4) rfl ?_); refine box_event ?hg (N := 4) ?hd (cs := #[.int .i64 a0_0, .slice A0_1 l0_1.length c0_1, .slice A0_2 l0_2.length c0_2]) (t := 34) ?hr ?_; (case hd => rfl); (case hg => rfl); (case hr => first | (go_simp; done) | (go_simp; rfl)); intro gb176 hg w6 hbox hb; have n0_ := Q_ (below_step (pb_ HB.out) hb); have n1_ := Q_ (hbox); have n2_ := Q_ ((by rw [hg]; exact (below_size (pb_ HB.out)) : w.heap.size ≤ gb176)); have n3_ := n2_; clear HB; have HB := n0_; have BK176 := n1_; have GW176 := n2_; have GE176 := n3_; clear n0_ n1_ n2_ n3_; clear hb hbox hg) | ((with_reducible refine gate_dst (N := 5) rfl ?_); refine box_event ?hg (N := 5) ?hd (cs := #[.int .i64 a1_0, .slice A1_1 l1_1.length c1_1, .slice A1_2 l1_2.length c1_2]) (t := 34) ?hr ?_; (case hd => rfl); (case hg => rfl); (case hr => first | (go_simp; done) | (go_simp; rfl)); intro gb177 hg w7 hbox hb; have n0_ := Q_ (bb_ BK176.out hb); have n1_ := Q_ (below_step (pb1_ HB.out GE176.out) hb); have n2_ := Q_ (hbox); have n3_ := Q_ ((by rw [hg]; exact (below_size (pb1_ HB.out GE176.out)) : w.heap.size ≤ gb177)); have n4_ := n3_; have n5_ := Q_ ((by rw [hg]; exact Nat.ne_of_lt (blk_lt (pk_ BK176.out)) : gb176 ≠ gb177)); have n6_ := Q_ ((by rw [hg]; exact Nat.ne_of_gt (blk_lt (pk_ BK176.out)) : gb177 ≠ gb176)); clear BK176; clear HB; have BK176 := n0_; have HB := n1_; have BK177 := n2_; have GW177 := n3_; have GE177 := n4_; have NB176_177 := n5_; have NB177_176 := n6_; clear n0_ n1_ n2_ n3_ n4_ n5_ n6_; clear hb hbox hg) | ((with_reducible refine gate_dst (N := 15) rfl ?_); refine Kd.S_lit (Kd.slice 3 (Kd.int .i64)) _ 39 ?hg (N := 15) ?hd (xs := ([] : List (List Int))) (inner := []) (ok := fun _ => True) (okp := fun _ => True) ?hr ?hp (fun _ hk => hk) trivial (Below.refl _ _) (Nat.le_refl _) (by simp) ?_; (case hd => rfl); (case hg => rfl); (case hr => first | (go_simp; done) | (go_simp; rfl)); (case hp => exact (Reps.none _ _)); intro v179 w8 ho9 hb hg_ hnew_; clear hg_ hnew_; (first | rw [← Ny178.out] at ho9 | (simp only [Int.reduceToNat] at ho9; rw [← Ny178.out] at ho9)); have _ := Q_ (Kd.S_lower ho9 (below_size (pb2_ HB.out GE176.out GE177.out))); have _ := Q_ (bb_ BK176.out hb); have _ := Q_ (bb_ BK177.out hb); have _ := Q_ (below_step (pb2_ HB.out GE176.out GE177.out) hb); clear BK176 BK177 HB; rename_i HO180 BK176 BK177 HB; clear hb ho9; have hnb10 := NB176_177.out; have hnc10 := NB177_176.out; have hcz11 := bc3_ BK176.out) | ((with_reducible refine gate_callee (f := 70) rfl ?_); refine gl_ (some 18) Try.func70 #[.agg #[.int .i64 a0_0, .slice A0_1 l0_1.length c0_1, .slice A0_2 l0_2.length c0_2], .int .i64 a2, .bool true] ?_; (with_reducible refine (spec_MovesFrom.calls k a0_0 _ _ l0_1 _ _ l0_2 a2 true t181 _ ?side1 ?side2 ?side3 ?side4 A5.out).mono ?_); (case side1 => exact cb_ HR0_1 HB); (case side2 => exact HC0_1.out); (case side3 => exact cb_ HR0_2 HB); (case side4 => exact HC0_2.out); rintro e w12 ⟨v182, rfl, ho0, hb⟩; refine ⟨_, rfl, ?_⟩; have _ := Q_ (Kd.S_elder' (ps_ HO180.out) (Kd.R_base ho0) hb); have _ := Q_ (Kd.R_lower ho0 (below_size (pb2_ HB.out GE176.out GE177.out))); have _ := Q_ (bb_ BK176.out hb); have _ := Q_ (bb_ BK177.out hb); have _ := Q_ (below_step (pb2_ HB.out GE176.out GE177.out) hb); clear HO180 BK176 BK177 HB; rename_i HO180 HO183 BK176 BK177 HB; (try clear hb); (try clear hb2); (try clear hk); (try clear hi); (try clear ho0)))
  (try simp only [Act.put, List.setIfInBounds_toArray, List.set_cons_zero, List.set_cons_succ])
  go_loopg [9, 11] k (fun kq v9 v11 w' => ∃ (x9_1 : List (List Int)) (x11_1 : Int), v11 = .int .i64 x11_1 ∧ Aside0 (spec_NextPairs.l0 kq a2 a3 x9_1 t181 x11_1 a0_0 l0_1 l0_2 a1_0 l1_1 l1_2 = some r) ∧ Aside0 (kq ≤ k) ∧ Aside0 (Kd.S (Kd.slice 3 (Kd.int .i64)) 39 w' w.heap.size (fun k_ => some k_ ≠ (v182 : Value).ownBlock) v9 x9_1) ∧ Aside0 (Kd.R (Kd.int .i64) 3 w' w.heap.size (fun _ => True) v182 t181) ∧ Aside0 (w'.heap[gb176]? = some (.cells #[.int .i64 a0_0, (.slice A0_1 l0_1.length c0_1), (.slice A0_2 l0_2.length c0_2)] 34 (0, 0))) ∧ Aside0 (w'.heap[gb177]? = some (.cells #[.int .i64 a1_0, (.slice A1_1 l1_1.length c1_1), (.slice A1_2 l1_2.length c1_2)] 34 (0, 0))) ∧ Aside0 (Below w.heap.size w w'))
  case atStart => exact ⟨(y178), (0), el_, H', ⟨Nat.le_refl _⟩, ⟨ps_ (Kd.S_mono HO180.out (fun _ hk => hk.2))⟩, ⟨pr_ HO183.out⟩, ⟨pk_ BK176.out⟩, ⟨pk_ BK177.out⟩, ⟨pb2_ HB.out GE176.out GE177.out⟩⟩
  clear H'
  try clear c1
  try clear p2
  try clear c7
  try clear c8
  try clear c10
  try clear hcz11
  obtain ⟨x9_1, x11_1, rfl, HA, HK1, HO_9, HO_10, BK176, BK177, HB⟩ := hrel
  rcases gk with _ | k1
  · exact absurd HA.out (by simp [spec_NextPairs.l0])
  have H := HA.out
  clear HA
  simp only [spec_NextPairs.l0] at H
  by_cases c13 : x11_1 < (t181.length : Int)
  rotate_left
  · rw [if_neg c13] at H
    have c13b0 : decide (x11_1 < (t181.length : Int)) = false := decide_eq_false c13
    clear c13
    replace H := Option.bind_eq_some_iff.mp H
    obtain ⟨t196, A140, H⟩ := H
    (try dsimp only at H)
    have A14 := Q_ A140
    clear A140
    have H' := Q_ H
    clear H
    obtain ⟨Ao15, co15, eo15⟩ := Kd.R_slice HO_10.out
    subst eo15
    have hnb16 := NB177_176.out
    have hnc16 := NB176_177.out
    have hcz17 := bc3_ BK177.out
    go_wp2_with (first | ((with_reducible refine gate_callee (f := 70) rfl ?_); refine gl_ (some 58) Try.func70 #[.agg #[.int .i64 a1_0, .slice A1_1 l1_1.length c1_1, .slice A1_2 l1_2.length c1_2], .int .i64 a3, .bool true] ?_; (with_reducible refine (spec_MovesFrom.calls k1 a1_0 _ _ l1_1 _ _ l1_2 a3 true t196 _ ?side1 ?side2 ?side3 ?side4 A14.out).mono ?_); (case side1 => exact cb_ HR1_1 HB); (case side2 => exact HC1_1.out); (case side3 => exact cb_ HR1_2 HB); (case side4 => exact HC1_2.out); rintro e w18 ⟨v197, rfl, ho0, hb⟩; refine ⟨_, rfl, ?_⟩; have _ := Q_ (Kd.S_elder' (ps_ HO_9.out) (Kd.R_base ho0) hb); have _ := Q_ (Kd.R_elder' (pr_ HO_10.out) (Kd.R_base ho0) hb); have _ := Q_ (Kd.R_lower (Kd.R_new' ho0 (Kd.R_lt (pr_ HO_10.out))) (below_size (pb2_ HB.out GE176.out GE177.out))); have _ := Q_ (bb_ BK176.out hb); have _ := Q_ (bb_ BK177.out hb); have _ := Q_ (below_step (pb2_ HB.out GE176.out GE177.out) hb); clear HO_9 HO_10 BK176 BK177 HB; rename_i HO_9 HO_10 HO198 BK176 BK177 HB; (try clear hb); (try clear hb2); (try clear hk); (try clear hi); (try clear ho0)))
    (try simp only [Act.put, List.setIfInBounds_toArray, List.set_cons_zero, List.set_cons_succ])
    go_loopg [9, 13] k1 (fun kq v9 v13 w' => ∃ (x9_2 : List (List Int)) (x13_2 : Int), v13 = .int .i64 x13_2 ∧ Aside0 (spec_NextPairs.l1 kq a2 a3 x9_2 t196 x13_2 a0_0 l0_1 l0_2 a1_0 l1_1 l1_2 = some r) ∧ Aside0 (kq ≤ k1) ∧ Aside0 (Kd.S (Kd.slice 3 (Kd.int .i64)) 39 w' w.heap.size (fun k_ => some k_ ≠ (v197 : Value).ownBlock) v9 x9_2) ∧ Aside0 (Kd.R (Kd.int .i64) 3 w' w.heap.size (fun _ => True) v197 t196) ∧ Aside0 (w'.heap[gb176]? = some (.cells #[.int .i64 a0_0, (.slice A0_1 l0_1.length c0_1), (.slice A0_2 l0_2.length c0_2)] 34 (0, 0))) ∧ Aside0 (w'.heap[gb177]? = some (.cells #[.int .i64 a1_0, (.slice A1_1 l1_1.length c1_1), (.slice A1_2 l1_2.length c1_2)] 34 (0, 0))) ∧ Aside0 (Below w.heap.size w w'))
    case atStart => exact ⟨(x9_1), (0), el_, H', ⟨Nat.le_refl _⟩, ⟨ps_ (Kd.S_mono HO_9.out (fun _ hk => hk.2))⟩, ⟨pr_ (Kd.R_mono HO198.out (fun _ hk => trivial))⟩, ⟨pk_ BK176.out⟩, ⟨pk_ BK177.out⟩, ⟨pb2_ HB.out GE176.out GE177.out⟩⟩
    clear H'
    try clear c1
    try clear p2
    try clear c7
    try clear c8
    try clear c10
    try clear c13
    try clear c13b0
    try clear c16
    try clear hcz17
    try clear p2
    obtain ⟨x9_2, x13_2, rfl, HA, HK2, HO_9, HO_10, BK176, BK177, HB⟩ := hrel
    rcases gk with _ | k2
    · exact absurd HA.out (by simp [spec_NextPairs.l1])
    have H := HA.out
    clear HA
    simp only [spec_NextPairs.l1] at H
    by_cases c19 : x13_2 < (t196.length : Int)
    rotate_left
    · rw [if_neg c19] at H
      have c19b0 : decide (x13_2 < (t196.length : Int)) = false := decide_eq_false c19
      clear c19
      obtain rfl := Option.some.inj H
      obtain ⟨Ao20, co20, eo20⟩ := Kd.R_slice HO_10.out
      subst eo20
      go_wp2
      go_ret
      exact ⟨_, er_, ps_ (Kd.S_mono HO_9.out (fun _ hk => trivial)), pb2_ HB.out GE176.out GE177.out⟩
    rw [if_pos c19] at H
    have c19b0 : decide (x13_2 < (t196.length : Int)) = true := decide_eq_true c19
    clear c19
    by_cases c21 : 0 ≤ x13_2
    rotate_left
    · rw [if_neg c21] at H
      exact absurd H (by simp)
    rw [if_pos c21] at H
    have c21b0 : decide (0 ≤ x13_2) = true := decide_eq_true c21
    clear c21
    replace H := Option.bind_eq_some_iff.mp H
    obtain ⟨t200, A220, H⟩ := H
    (try dsimp only at H)
    have A22 := Q_ A220
    clear A220
    have HS_ := Q_ H
    clear H
    obtain ⟨Ao23, co23, eo23⟩ := Kd.R_slice HO_10.out
    subst eo23
    try go_wp2
    have _ := Q_ (Kd.S_drew HO_9.out)
    have _ := Q_ (Kd.R_drew HO_10.out)
    have _ := Q_ (blk_drew BK176.out)
    have _ := Q_ (blk_drew BK177.out)
    have _ := Q_ (below_drew1 HB.out)
    clear HO_9 HO_10 BK176 BK177 HB
    rename_i HO_9 HO_10 BK176 BK177 HB
    have p199 : 0 ≤ (x13_2 : Int) := dt_
    have q199 : x13_2 < (t196.length : Int) := dt_
    obtain ⟨ad199, e199, hx199_0⟩ := Kd.at_int (Kd.R_reads' HO_10.out).2.2 x13_2 p199 q199
    cases e199
    replace p199 := eq_true p199
    replace q199 := eq_true q199
    refine start_ (n := 8) (S := fun w' => w'.cell? ⟨gb176, 0, none⟩ = some (.int .i64 a0_0) ∧ w'.cell? ⟨gb176, 1, none⟩ = some (.slice A0_1 l0_1.length c0_1) ∧ w'.cell? ⟨gb176, 2, none⟩ = some (.slice A0_2 l0_2.length c0_2) ∧ w'.cell? (ad199.add (x13_2).toNat) = some (.int .i64 (rd t196 x13_2))) (ds := []) (tf_ 0 8) (by kernel_rfl) rfl rfl ⟨(blk_cell BK176.out 0).trans rfl, (blk_cell BK176.out 1).trans rfl, (blk_cell BK176.out 2).trans rfl, hx199_0⟩ (fun hHeld => ?_); refine with_tabW spec_NextPairs.tab13 spec_NextPairs.bits13 (fun HT_ HW_ => ?_)
    generalize wr.drew = w24 at HO_9 HO_10 BK176 BK177 HB hx199_0 hHeld ⊢
    refine pu_ 1 (some 66) (tm_ 8 2) HT_ ?_
    refine pu_ 2 (some 67) (tm_ 8 6) HT_ ?_
    refine pu_ 3 (some 68) (tm_ 8 14) HT_ ?_
    refine pu_ 4 (some 69) (tm_ 8 30) HT_ ?_
    refine ta_ 0 (some 65) (tf_ 5 8) HT_ HW_ hHeld ?_
    refine ta_ 5 (some 70) (tf_ 6 8) HT_ HW_ hHeld ?_
    refine on_ 6 (some 71) (tf_ 7 8) HT_ (fun K hK => ?_)
    refine goes_ Try.func68 (by kernel_rfl) rfl #[.agg #[.int .i64 a0_0, .slice A0_1 l0_1.length c0_1, .slice A0_2 l0_2.length c0_2], .int .i64 a2, .bool false, .int .i64 (rd t196 x13_2)] (by rfl) rfl rfl mp_ ?_
    with_reducible refine (spec_MoveOf.calls k2 a0_0 _ _ l0_1 _ _ l0_2 a2 false (rd t196 x13_2) t200 _ ?side1 ?side2 ?side3 ?side4 A22.out).mono ?_
    (case side1 => exact cb_ HR0_1 HB)
    (case side2 => exact HC0_1.out)
    (case side3 => exact cb_ HR0_2 HB)
    (case side4 => exact HC0_2.out)
    rintro e w25 ⟨rfl, hb⟩
    have HS3_ := (hb.cell (World.block_lt_of_cell? _ _ (hHeld.2.2.2))).trans (hHeld.2.2.2)
    refine ⟨_, rfl, ?_⟩
    have _ := Q_ (Kd.S_below (ps_ HO_9.out) hb)
    have _ := Q_ (Kd.R_below (pr_ HO_10.out) hb)
    have _ := Q_ (bb_ BK176.out hb)
    have _ := Q_ (bb_ BK177.out hb)
    have _ := Q_ (below_step (pb2_ HB.out GE176.out GE177.out) hb)
    clear HO_9 HO_10 BK176 BK177 HB
    rename_i HO_9 HO_10 BK176 BK177 HB
    (try clear hb)
    (try clear hb2)
    (try clear hk)
    (try clear hi)
    refine hK.out _ _ ⟨(blk_cell BK176.out 0).trans rfl, (blk_cell BK176.out 1).trans rfl, (blk_cell BK176.out 2).trans rfl, HS3_⟩ (fun hHeld => ?_)
    clear hK K
    refine no_ (some 71) ?_
    refine pu_ 7 (some 14) (tf_ 8 8) HT_ ?_
    refine done_ (done_of HT_.out (by kernel_rfl)) ?_
    go_upto_if 73 with (fail)
    have H := HS_.out
    clear HS_
    by_cases c26 : t200 ≥ 0
    rotate_left
    · rw [if_neg c26] at H
      have c26b0 : decide (0 ≤ t200) = false := decide_eq_false c26
      clear c26
      (first | rw [c26b0] | (simp only [i64_w, i32_w]; rw [c26b0]) | skip)
      have H' := Q_ H
      clear H
      go_wp2
      go_roundg k2
      case measure => have := HK1.out; have := HK2.out; omega
      case rel => exact ⟨(x9_2), (wrap64 (x13_2 + 1)), el_, H', ⟨by have := HK1.out; have := HK2.out; omega⟩, ⟨ps_ HO_9.out⟩, ⟨pr_ HO_10.out⟩, ⟨pk_ BK176.out⟩, ⟨pk_ BK177.out⟩, ⟨pb2_ HB.out GE176.out GE177.out⟩⟩
    rw [if_pos c26] at H
    have c26b0 : decide (0 ≤ t200) = true := decide_eq_true c26
    clear c26
    (first | rw [c26b0] | (simp only [i64_w, i32_w]; rw [c26b0]) | skip)
    by_cases c27 : 0 ≤ t200
    rotate_left
    · rw [if_neg c27] at H
      exact absurd H (by simp)
    rw [if_pos c27] at H
    have c27b0 : decide (0 ≤ t200) = true := decide_eq_true c27
    clear c27
    by_cases c28 : t200 < (l0_2.length : Int)
    rotate_left
    · rw [if_neg c28] at H
      exact absurd H (by simp)
    rw [if_pos c28] at H
    have c28b0 : decide (t200 < (l0_2.length : Int)) = true := decide_eq_true c28
    clear c28
    replace H := Option.bind_eq_some_iff.mp H
    obtain ⟨t203, A290, H⟩ := H
    (try dsimp only at H)
    have A29 := Q_ A290
    clear A290
    by_cases c30 : 0 ≤ t203
    rotate_left
    · rw [if_neg c30] at H
      exact absurd H (by simp)
    rw [if_pos c30] at H
    have c30b0 : decide (0 ≤ t203) = true := decide_eq_true c30
    clear c30
    by_cases c31 : t203 < (l1_2.length : Int)
    rotate_left
    · rw [if_neg c31] at H
      exact absurd H (by simp)
    rw [if_pos c31] at H
    have c31b0 : decide (t203 < (l1_2.length : Int)) = true := decide_eq_true c31
    clear c31
    obtain ⟨y205, hy205⟩ : ∃ y_ : List Int, y_ = (([(rd_T78 l0_2 t200).f3, (rd_T78 l1_2 t203).f3] : List Int)) := ⟨_, rfl⟩
    replace H : (if x9_2.length < 5864062014805 then (spec_NextPairs.l1 k2 a2 a3 (x9_2 ++ [y205]) t196 (wrap64 (x13_2 + 1)) a0_0 l0_1 l0_2 a1_0 l1_1 l1_2) else (none)) = some r := by first | (rw [hy205]; with_reducible exact H) | (have H2_ := (Option.bind_some _ _).symm.trans H; rw [hy205]; with_reducible exact H2_) | (have H2_ := (Option.bind_some _ _).symm.trans H; with_reducible exact H2_) | with_reducible exact H | (rw [hy205]; exact H) | exact H
    have Ny205 := Q_ hy205
    clear hy205
    by_cases c32 : x9_2.length < 5864062014805
    rotate_left
    · rw [if_neg c32] at H
      exact absurd H (by simp)
    rw [if_pos c32] at H
    have LMc32 := Q_ c32
    clear c32
    obtain ⟨y208, hy208⟩ : ∃ y_ : List (List Int), y_ = (x9_2 ++ [y205]) := ⟨_, rfl⟩
    replace H : (spec_NextPairs.l1 k2 a2 a3 y208 t196 (wrap64 (x13_2 + 1)) a0_0 l0_1 l0_2 a1_0 l1_1 l1_2) = some r := by first | (rw [hy208]; with_reducible exact H) | (have H2_ := (Option.bind_some _ _).symm.trans H; rw [hy208]; with_reducible exact H2_) | (have H2_ := (Option.bind_some _ _).symm.trans H; with_reducible exact H2_) | with_reducible exact H | (rw [hy208]; exact H) | exact H
    have Ny208 := Q_ hy208
    clear hy208
    have H' := Q_ H
    clear H
    try go_wp2
    have _ := Q_ (Kd.S_drew HO_9.out)
    have _ := Q_ (Kd.R_drew HO_10.out)
    have _ := Q_ (blk_drew BK176.out)
    have _ := Q_ (blk_drew BK177.out)
    have _ := Q_ (below_drew1 HB.out)
    clear HO_9 HO_10 BK176 BK177 HB
    rename_i HO_9 HO_10 BK176 BK177 HB
    have p201 : 0 ≤ (t200 : Int) := dt_
    have q201 : t200 < (l0_2.length : Int) := dt_
    obtain ⟨ad201, e201, hx201_0, hx201_1, hx201_2, hx201_3⟩ := at_T78 HR0_2.out t200 p201 q201
    have hw201_3 := hx201_3
    have hw201_2 := hx201_2
    have hw201_1 := hx201_1
    have hw201_0 := hx201_0
    cases e201
    replace hx201_0 := bt_ HB hx201_0
    replace hx201_1 := bt_ HB hx201_1
    replace hx201_2 := bt_ HB hx201_2
    replace hx201_3 := bt_ HB hx201_3
    replace p201 := eq_true p201
    replace q201 := eq_true q201
    have p202 : 0 ≤ (x13_2 : Int) := dt_
    have q202 : x13_2 < (t196.length : Int) := dt_
    obtain ⟨ad202, e202, hx202_0⟩ := Kd.at_int (Kd.R_reads' HO_10.out).2.2 x13_2 p202 q202
    obtain rfl : ad199 = ad202 := (by injection e202)
    replace p202 := eq_true p202
    replace q202 := eq_true q202
    have p204 : 0 ≤ (t203 : Int) := dt_
    have q204 : t203 < (l1_2.length : Int) := dt_
    obtain ⟨ad204, e204, hx204_0, hx204_1, hx204_2, hx204_3⟩ := at_T78 HR1_2.out t203 p204 q204
    have hw204_3 := hx204_3
    have hw204_2 := hx204_2
    have hw204_1 := hx204_1
    have hw204_0 := hx204_0
    cases e204
    replace hx204_0 := bt_ HB hx204_0
    replace hx204_1 := bt_ HB hx204_1
    replace hx204_2 := bt_ HB hx204_2
    replace hx204_3 := bt_ HB hx204_3
    replace p204 := eq_true p204
    replace q204 := eq_true q204
    refine start_ (n := 23) (S := fun w' => w'.cell? ⟨gb176, 0, none⟩ = some (.int .i64 a0_0) ∧ w'.cell? ⟨gb176, 1, none⟩ = some (.slice A0_1 l0_1.length c0_1) ∧ w'.cell? ⟨gb176, 2, none⟩ = some (.slice (some ad201) l0_2.length c0_2) ∧ w'.cell? ⟨gb177, 0, none⟩ = some (.int .i64 a1_0) ∧ w'.cell? ⟨gb177, 1, none⟩ = some (.slice A1_1 l1_1.length c1_1) ∧ w'.cell? ⟨gb177, 2, none⟩ = some (.slice (some ad204) l1_2.length c1_2) ∧ w'.cell? (ad201.add ((t200).toNat * 4)) = some (.int .i64 ((rd_T78 l0_2 t200).f0)) ∧ w'.cell? ⟨(ad201.add ((t200).toNat * 4)).block, (ad201.add ((t200).toNat * 4)).off + 1, none⟩ = some (.bool ((rd_T78 l0_2 t200).f1)) ∧ w'.cell? ⟨(ad201.add ((t200).toNat * 4)).block, (ad201.add ((t200).toNat * 4)).off + 2, none⟩ = some (.int .i64 ((rd_T78 l0_2 t200).f2)) ∧ w'.cell? ⟨(ad201.add ((t200).toNat * 4)).block, (ad201.add ((t200).toNat * 4)).off + 3, none⟩ = some (.int .i64 ((rd_T78 l0_2 t200).f3)) ∧ w'.cell? (ad199.add (x13_2).toNat) = some (.int .i64 (rd t196 x13_2)) ∧ w'.cell? (ad204.add ((t203).toNat * 4)) = some (.int .i64 ((rd_T78 l1_2 t203).f0)) ∧ w'.cell? ⟨(ad204.add ((t203).toNat * 4)).block, (ad204.add ((t203).toNat * 4)).off + 1, none⟩ = some (.bool ((rd_T78 l1_2 t203).f1)) ∧ w'.cell? ⟨(ad204.add ((t203).toNat * 4)).block, (ad204.add ((t203).toNat * 4)).off + 2, none⟩ = some (.int .i64 ((rd_T78 l1_2 t203).f2)) ∧ w'.cell? ⟨(ad204.add ((t203).toNat * 4)).block, (ad204.add ((t203).toNat * 4)).off + 3, none⟩ = some (.int .i64 ((rd_T78 l1_2 t203).f3))) (ds := [20, 21]) #[false, false, false, false, false, false, false, false, false, false, false, false, false, false, false, false, false, false, false, false, false, false, false] (by kernel_rfl) rfl rfl ⟨(blk_cell BK176.out 0).trans rfl, (blk_cell BK176.out 1).trans rfl, (blk_cell BK176.out 2).trans rfl, (blk_cell BK177.out 0).trans rfl, (blk_cell BK177.out 1).trans rfl, (blk_cell BK177.out 2).trans rfl, (bt_ HB hw201_0), (bt_ HB hw201_1), (bt_ HB hw201_2), (bt_ HB hw201_3), hx202_0, (bt_ HB hw204_0), (bt_ HB hw204_1), (bt_ HB hw204_2), (bt_ HB hw204_3)⟩ (fun hHeld => ?_); refine with_tabW spec_NextPairs.tab15 spec_NextPairs.bits15 (fun HT_ HW_ => ?_)
    generalize w25.drew = w33 at HO_9 HO_10 BK176 BK177 HB hx201_0 hx201_1 hx201_2 hx201_3 hx202_0 hx204_0 hx204_1 hx204_2 hx204_3 hHeld ⊢
    refine pu_ 0 (some 74) (tf_ 1 23) HT_ ?_
    refine pu_ 1 (some 75) (tf_ 2 23) HT_ ?_
    refine pu_ 3 (some 77) (tm_ 23 11) HT_ ?_
    refine pu_ 7 (some 81) (tm_ 23 139) HT_ ?_
    refine pu_ 10 (some 84) (tm_ 23 1163) HT_ ?_
    refine pu_ 11 (some 85) (tm_ 23 3211) HT_ ?_
    refine pu_ 12 (some 86) (tm_ 23 7307) HT_ ?_
    refine pu_ 13 (some 87) (tm_ 23 15499) HT_ ?_
    refine ta_ 2 (some 76) (tm_ 23 15503) HT_ HW_ hHeld ?_
    refine pu_ 4 (some 78) (tm_ 23 15519) HT_ ?_
    refine pu_ 5 (some 79) (tm_ 23 15551) HT_ ?_
    refine ta_ 6 (some 80) (tm_ 23 15615) HT_ HW_ hHeld ?_
    refine ta_ 8 (some 82) (tm_ 23 15871) HT_ HW_ hHeld ?_
    refine ta_ 9 (some 83) (tf_ 14 23) HT_ HW_ hHeld ?_
    refine ta_ 14 (some 88) (tf_ 15 23) HT_ HW_ hHeld ?_
    refine on_ 15 (some 89) (tf_ 16 23) HT_ (fun K hK => ?_)
    refine goes_ Try.func68 (by kernel_rfl) rfl #[.agg #[.int .i64 a1_0, .slice A1_1 l1_1.length c1_1, .slice (some ad204) l1_2.length c1_2], .int .i64 a3, .bool true, .int .i64 (rd t196 x13_2)] (by rfl) rfl rfl mp_ ?_
    with_reducible refine (spec_MoveOf.calls k2 a1_0 _ _ l1_1 _ _ l1_2 a3 true (rd t196 x13_2) t203 _ ?side1 ?side2 ?side3 ?side4 A29.out).mono ?_
    (case side1 => exact cb_ HR1_1 HB)
    (case side2 => exact HC1_1.out)
    (case side3 => exact cb_ HR1_2 HB)
    (case side4 => exact HC1_2.out)
    rintro e w34 ⟨rfl, hb⟩
    have HS10_ := (hb.cell (World.block_lt_of_cell? _ _ (hHeld.2.2.2.2.2.2.2.2.2.2.1))).trans (hHeld.2.2.2.2.2.2.2.2.2.2.1)
    refine ⟨_, rfl, ?_⟩
    have _ := Q_ (Kd.S_below (ps_ HO_9.out) hb)
    have _ := Q_ (Kd.R_below (pr_ HO_10.out) hb)
    have _ := Q_ (bb_ BK176.out hb)
    have _ := Q_ (bb_ BK177.out hb)
    have _ := Q_ (below_step (pb2_ HB.out GE176.out GE177.out) hb)
    clear HO_9 HO_10 BK176 BK177 HB
    rename_i HO_9 HO_10 BK176 BK177 HB
    (try clear hb)
    (try clear hb2)
    (try clear hk)
    (try clear hi)
    refine hK.out _ _ ⟨(blk_cell BK176.out 0).trans rfl, (blk_cell BK176.out 1).trans rfl, (blk_cell BK176.out 2).trans rfl, (blk_cell BK177.out 0).trans rfl, (blk_cell BK177.out 1).trans rfl, (blk_cell BK177.out 2).trans rfl, (bt_ HB hw201_0), (bt_ HB hw201_1), (bt_ HB hw201_2), (bt_ HB hw201_3), HS10_, (bt_ HB hw204_0), (bt_ HB hw204_1), (bt_ HB hw204_2), (bt_ HB hw204_3)⟩ (fun hHeld => ?_)
    clear hK K
    refine no_ (some 89) ?_
    refine pu_ 16 (some 90) (tf_ 17 23) HT_ ?_
    refine pu_ 17 (some 91) (tf_ 18 23) HT_ ?_
    refine ta_ 18 (some 92) (tf_ 19 23) HT_ HW_ hHeld ?_
    refine on_ 19 (some 93) (tf_ 20 23) HT_ (fun K hK => ?_)
    refine Kd.R_lit_step (Kd.int .i64) _ 3 ?hg (N := 93) ?hd (xs := ([(rd_T78 l0_2 t200).f3, (rd_T78 l1_2 t203).f3] : List Int)) (inner := [.int .i64 ((rd_T78 l0_2 t200).f3), .int .i64 ((rd_T78 l1_2 t203).f3)]) (ok := fun _ => True) (okp := fun _ => True) ?hr ?hp (fun _ hk => hk) trivial (Below.refl _ _) (Nat.le_refl _) (by simp) ?_; (case hd => rfl); (case hg => rfl); (case hr => first | (go_simp; done) | (go_simp; rfl)); (case hp => exact (Reps.one (show Kd.M (Kd.int .i64) _ _ _ ((rd_T78 l0_2 t200).f3) [.int .i64 ((rd_T78 l0_2 t200).f3)] from rfl) (Reps.one (show Kd.M (Kd.int .i64) _ _ _ ((rd_T78 l1_2 t203).f3) [.int .i64 ((rd_T78 l1_2 t203).f3)] from rfl) (Reps.none _ _))))
    intro v206 w35 ho36 hb hg_ hnew_
    have HS10_ := (hb.cell (World.block_lt_of_cell? _ _ (hHeld.2.2.2.2.2.2.2.2.2.2.1))).trans (hHeld.2.2.2.2.2.2.2.2.2.2.1)
    clear hg_ hnew_
    (first | rw [← Ny205.out] at ho36 | (simp only [Int.reduceToNat] at ho36; rw [← Ny205.out] at ho36))
    have _ := Q_ (Kd.S_elder' (ps_ HO_9.out) (Kd.R_base ho36) hb)
    have _ := Q_ (Kd.R_elder' (pr_ HO_10.out) (Kd.R_base ho36) hb)
    have _ := Q_ (Kd.R_lower (Kd.R_new' ho36 (Kd.R_lt (pr_ HO_10.out))) (below_size (pb2_ HB.out GE176.out GE177.out)))
    have _ := Q_ (bb_ BK176.out hb)
    have _ := Q_ (bb_ BK177.out hb)
    have _ := Q_ (below_step (pb2_ HB.out GE176.out GE177.out) hb)
    clear HO_9 HO_10 BK176 BK177 HB
    rename_i HO_9 HO_10 HO207 BK176 BK177 HB
    clear hb ho36
    obtain ⟨Ao38, co38, eo38⟩ := Kd.R_slice HO207.out
    (first | subst eo38 | (injection eo38 with f1_ f2_ f3_; have f4_ := f1_.symm; have f5_ := f3_.symm; clear f1_ f2_ f3_; subst f4_; subst f5_))
    refine hK.out _ _ ⟨(blk_cell BK176.out 0).trans rfl, (blk_cell BK176.out 1).trans rfl, (blk_cell BK176.out 2).trans rfl, (blk_cell BK177.out 0).trans rfl, (blk_cell BK177.out 1).trans rfl, (blk_cell BK177.out 2).trans rfl, (bt_ HB hw201_0), (bt_ HB hw201_1), (bt_ HB hw201_2), (bt_ HB hw201_3), HS10_, (bt_ HB hw204_0), (bt_ HB hw204_1), (bt_ HB hw204_2), (bt_ HB hw204_3)⟩ (fun hHeld => ?_)
    clear hK K
    refine no_ (some 93) ?_
    refine last_ (i := 20) (N := some 94) #[true, true, true, true, true, true, true, true, true, true, true, true, true, true, true, true, true, true, true, true, true, false, false] rfl rfl (one_of HT_.out (by kernel_rfl)) (by decide) (fun K hK => ?_)
    refine value_ (w1 := ?_) (v := ?_) (by rfl) rfl ?_ ?_
    rotate_left 2
    · go_simp
      constructor
      · rfl
      · rfl
    refine hK.out _ _ ?_
    clear hK K
    refine no_ (some 94) ?_
    refine last_ (i := 21) (N := some 95) #[true, true, true, true, true, true, true, true, true, true, true, true, true, true, true, true, true, true, true, true, true, true, false] rfl rfl (one_of HT_.out (by kernel_rfl)) (by decide) (fun K hK => ?_)
    refine Kd.S_append_step (Kd.slice 3 (Kd.int .i64)) (w0 := w) w.heap.size (by rfl) (.tmp 74) (.tmp 94) 83 39 (.slice none 0 0) 24 rfl Try.underlying83 info39 rfl (by decide) (by omega) u9 x9_2 y205 [.slice Ao38 y205.length co38] (fun k_ => some k_ ≠ (.slice (some ad199) t196.length co23 : Value).ownBlock) (fun k_ => some k_ = (.slice Ao38 y205.length co38 : Value).ownBlock) rfl rfl ?aP (fun k_ hk_ => ((Kd.R_mono (ok' := fun k_ => ((fun k_ => some k_ ≠ (.slice (some ad199) t196.length co23 : Value).ownBlock)) k_ ∧ some k_ ≠ (u9 : Value).ownBlock) (Kd.R_apart' (HO207.out) (Kd.S_typed HO_9.out) (by decide)) (fun k_ hk => ⟨hk.1.2, hk.2⟩))).1 k_ hk_.symm) ?aF ?aO ?aB ?aS ?aL ?_
    (case aP => exact Kd.M_row (Kd.R_mono (Kd.R_tight rfl (Kd.R_mono (ok' := fun k_ => ((fun k_ => some k_ ≠ (.slice (some ad199) t196.length co23 : Value).ownBlock)) k_ ∧ some k_ ≠ (u9 : Value).ownBlock) (Kd.R_apart' (HO207.out) (Kd.S_typed HO_9.out) (by decide)) (fun k_ hk => ⟨hk.1.2, hk.2⟩))) (fun _ h_ => h_)))
    (case aB => exact (pb2_ HB.out GE176.out GE177.out))
    (case aF => exact (fun k_ hk => Kd.fresh' (Kd.R_lt (pr_ HO_10.out)) k_ hk))
    (case aO => exact (by (with_reducible repeat (first | apply Kd.S_alloc | apply Kd.S_drewN | apply Kd.S_drew)); exact Kd.S_mono HO_9.out (fun k_ hk => ⟨hk.1, fun e_ => hk.2 e_⟩)))
    (case aS => exact (below_size (pb2_ HB.out GE176.out GE177.out)))
    (case aL => have := LMc32.out; omega)
    intro v209 w37 ho hb hg hat
    rw [← Ny208.out] at ho
    have _ := Q_ (Kd.R_over' (pr_ HO_10.out) (Kd.S_typed (ps_ HO_9.out)) (by decide) hg)
    have _ := Q_ (blk_grown (g := gb176) (o := .cells #[.int .i64 a0_0, .slice A0_1 l0_1.length c0_1, .slice (some ad201) l0_2.length c0_2] 34 (0, 0)) (pk_ BK176.out) hg (Kd.S_ne HO_9.out BK176.out (by decide)))
    have _ := Q_ (blk_grown (g := gb177) (o := .cells #[.int .i64 a1_0, .slice A1_1 l1_1.length c1_1, .slice (some ad204) l1_2.length c1_2] 34 (0, 0)) (pk_ BK177.out) hg (Kd.S_ne HO_9.out BK177.out (by decide)))
    have _ := Q_ (hb)
    have _ := Q_ (ho)
    clear HO_10 BK176 BK177 HB HO_9 HO207
    rename_i HO_10 BK176 BK177 HB HO210
    clear ho hb hg hat
    refine hK.out _ _ ?_
    clear hK K
    refine no_ (some 95) ?_
    refine pu_ 22 (some 9) (tf_ 23 23) HT_ ?_
    refine done_ (done_of HT_.out (by kernel_rfl)) ?_
    try go_wp2
    go_roundg k2
    case measure => have := HK1.out; have := HK2.out; omega
    case rel => exact ⟨(y208), (wrap64 (x13_2 + 1)), el_, H', ⟨by have := HK1.out; have := HK2.out; omega⟩, ⟨ps_ HO210.out⟩, ⟨pr_ (Kd.R_mono HO_10.out (fun _ hk => trivial))⟩, ⟨pk_ BK176.out⟩, ⟨pk_ BK177.out⟩, ⟨pb2_ HB.out GE176.out GE177.out⟩⟩
  rw [if_pos c13] at H
  have c13b0 : decide (x11_1 < (t181.length : Int)) = true := decide_eq_true c13
  clear c13
  by_cases c39 : 0 ≤ x11_1
  rotate_left
  · rw [if_neg c39] at H
    exact absurd H (by simp)
  rw [if_pos c39] at H
  have c39b0 : decide (0 ≤ x11_1) = true := decide_eq_true c39
  clear c39
  replace H := Option.bind_eq_some_iff.mp H
  obtain ⟨t185, A400, H⟩ := H
  (try dsimp only at H)
  have A40 := Q_ A400
  clear A400
  have HS_ := Q_ H
  clear H
  obtain ⟨Ao41, co41, eo41⟩ := Kd.R_slice HO_10.out
  subst eo41
  try go_wp2
  have _ := Q_ (Kd.S_drew HO_9.out)
  have _ := Q_ (Kd.R_drew HO_10.out)
  have _ := Q_ (blk_drew BK176.out)
  have _ := Q_ (blk_drew BK177.out)
  have _ := Q_ (below_drew1 HB.out)
  clear HO_9 HO_10 BK176 BK177 HB
  rename_i HO_9 HO_10 BK176 BK177 HB
  have p184 : 0 ≤ (x11_1 : Int) := dt_
  have q184 : x11_1 < (t181.length : Int) := dt_
  obtain ⟨ad184, e184, hx184_0⟩ := Kd.at_int (Kd.R_reads' HO_10.out).2.2 x11_1 p184 q184
  cases e184
  replace p184 := eq_true p184
  replace q184 := eq_true q184
  refine start_ (n := 8) (S := fun w' => w'.cell? ⟨gb177, 0, none⟩ = some (.int .i64 a1_0) ∧ w'.cell? ⟨gb177, 1, none⟩ = some (.slice A1_1 l1_1.length c1_1) ∧ w'.cell? ⟨gb177, 2, none⟩ = some (.slice A1_2 l1_2.length c1_2) ∧ w'.cell? (ad184.add (x11_1).toNat) = some (.int .i64 (rd t181 x11_1))) (ds := []) (tf_ 0 8) (by kernel_rfl) rfl rfl ⟨(blk_cell BK177.out 0).trans rfl, (blk_cell BK177.out 1).trans rfl, (blk_cell BK177.out 2).trans rfl, hx184_0⟩ (fun hHeld => ?_); refine with_tabW spec_NextPairs.tab6 spec_NextPairs.bits6 (fun HT_ HW_ => ?_)
  generalize wr.drew = w42 at HO_9 HO_10 BK176 BK177 HB hx184_0 hHeld ⊢
  refine pu_ 1 (some 26) (tm_ 8 2) HT_ ?_
  refine pu_ 2 (some 27) (tm_ 8 6) HT_ ?_
  refine pu_ 3 (some 28) (tm_ 8 14) HT_ ?_
  refine pu_ 4 (some 29) (tm_ 8 30) HT_ ?_
  refine ta_ 0 (some 25) (tf_ 5 8) HT_ HW_ hHeld ?_
  refine ta_ 5 (some 30) (tf_ 6 8) HT_ HW_ hHeld ?_
  refine on_ 6 (some 31) (tf_ 7 8) HT_ (fun K hK => ?_)
  refine goes_ Try.func68 (by kernel_rfl) rfl #[.agg #[.int .i64 a1_0, .slice A1_1 l1_1.length c1_1, .slice A1_2 l1_2.length c1_2], .int .i64 a3, .bool false, .int .i64 (rd t181 x11_1)] (by rfl) rfl rfl mp_ ?_
  with_reducible refine (spec_MoveOf.calls k1 a1_0 _ _ l1_1 _ _ l1_2 a3 false (rd t181 x11_1) t185 _ ?side1 ?side2 ?side3 ?side4 A40.out).mono ?_
  (case side1 => exact cb_ HR1_1 HB)
  (case side2 => exact HC1_1.out)
  (case side3 => exact cb_ HR1_2 HB)
  (case side4 => exact HC1_2.out)
  rintro e w43 ⟨rfl, hb⟩
  have HS3_ := (hb.cell (World.block_lt_of_cell? _ _ (hHeld.2.2.2))).trans (hHeld.2.2.2)
  refine ⟨_, rfl, ?_⟩
  have _ := Q_ (Kd.S_below (ps_ HO_9.out) hb)
  have _ := Q_ (Kd.R_below (pr_ HO_10.out) hb)
  have _ := Q_ (bb_ BK176.out hb)
  have _ := Q_ (bb_ BK177.out hb)
  have _ := Q_ (below_step (pb2_ HB.out GE176.out GE177.out) hb)
  clear HO_9 HO_10 BK176 BK177 HB
  rename_i HO_9 HO_10 BK176 BK177 HB
  (try clear hb)
  (try clear hb2)
  (try clear hk)
  (try clear hi)
  refine hK.out _ _ ⟨(blk_cell BK177.out 0).trans rfl, (blk_cell BK177.out 1).trans rfl, (blk_cell BK177.out 2).trans rfl, HS3_⟩ (fun hHeld => ?_)
  clear hK K
  refine no_ (some 31) ?_
  refine pu_ 7 (some 12) (tf_ 8 8) HT_ ?_
  refine done_ (done_of HT_.out (by kernel_rfl)) ?_
  go_upto_if 33 with (fail)
  have H := HS_.out
  clear HS_
  by_cases c44 : t185 ≥ 0
  rotate_left
  · rw [if_neg c44] at H
    have c44b0 : decide (0 ≤ t185) = false := decide_eq_false c44
    clear c44
    (first | rw [c44b0] | (simp only [i64_w, i32_w]; rw [c44b0]) | skip)
    have H' := Q_ H
    clear H
    go_wp2
    go_roundg k1
    case measure => have := HK1.out; omega
    case rel => exact ⟨(x9_1), (wrap64 (x11_1 + 1)), el_, H', ⟨by have := HK1.out; omega⟩, ⟨ps_ HO_9.out⟩, ⟨pr_ HO_10.out⟩, ⟨pk_ BK176.out⟩, ⟨pk_ BK177.out⟩, ⟨pb2_ HB.out GE176.out GE177.out⟩⟩
  rw [if_pos c44] at H
  have c44b0 : decide (0 ≤ t185) = true := decide_eq_true c44
  clear c44
  (first | rw [c44b0] | (simp only [i64_w, i32_w]; rw [c44b0]) | skip)
  replace H := Option.bind_eq_some_iff.mp H
  obtain ⟨t187, A450, H⟩ := H
  (try dsimp only at H)
  have A45 := Q_ A450
  clear A450
  by_cases c46 : 0 ≤ t187
  rotate_left
  · rw [if_neg c46] at H
    exact absurd H (by simp)
  rw [if_pos c46] at H
  have c46b0 : decide (0 ≤ t187) = true := decide_eq_true c46
  clear c46
  by_cases c47 : t187 < (l0_2.length : Int)
  rotate_left
  · rw [if_neg c47] at H
    exact absurd H (by simp)
  rw [if_pos c47] at H
  have c47b0 : decide (t187 < (l0_2.length : Int)) = true := decide_eq_true c47
  clear c47
  by_cases c48 : 0 ≤ t185
  rotate_left
  · rw [if_neg c48] at H
    exact absurd H (by simp)
  rw [if_pos c48] at H
  have c48b0 : decide (0 ≤ t185) = true := decide_eq_true c48
  clear c48
  by_cases c49 : t185 < (l1_2.length : Int)
  rotate_left
  · rw [if_neg c49] at H
    exact absurd H (by simp)
  rw [if_pos c49] at H
  have c49b0 : decide (t185 < (l1_2.length : Int)) = true := decide_eq_true c49
  clear c49
  obtain ⟨y190, hy190⟩ : ∃ y_ : List Int, y_ = (([(rd_T78 l0_2 t187).f3, (rd_T78 l1_2 t185).f3] : List Int)) := ⟨_, rfl⟩
  replace H : (if x9_1.length < 5864062014805 then (spec_NextPairs.l0 k1 a2 a3 (x9_1 ++ [y190]) t181 (wrap64 (x11_1 + 1)) a0_0 l0_1 l0_2 a1_0 l1_1 l1_2) else (none)) = some r := by first | (rw [hy190]; with_reducible exact H) | (have H2_ := (Option.bind_some _ _).symm.trans H; rw [hy190]; with_reducible exact H2_) | (have H2_ := (Option.bind_some _ _).symm.trans H; with_reducible exact H2_) | with_reducible exact H | (rw [hy190]; exact H) | exact H
  have Ny190 := Q_ hy190
  clear hy190
  by_cases c50 : x9_1.length < 5864062014805
  rotate_left
  · rw [if_neg c50] at H
    exact absurd H (by simp)
  rw [if_pos c50] at H
  have LMc50 := Q_ c50
  clear c50
  obtain ⟨y193, hy193⟩ : ∃ y_ : List (List Int), y_ = (x9_1 ++ [y190]) := ⟨_, rfl⟩
  replace H : (spec_NextPairs.l0 k1 a2 a3 y193 t181 (wrap64 (x11_1 + 1)) a0_0 l0_1 l0_2 a1_0 l1_1 l1_2) = some r := by first | (rw [hy193]; with_reducible exact H) | (have H2_ := (Option.bind_some _ _).symm.trans H; rw [hy193]; with_reducible exact H2_) | (have H2_ := (Option.bind_some _ _).symm.trans H; with_reducible exact H2_) | with_reducible exact H | (rw [hy193]; exact H) | exact H
  have Ny193 := Q_ hy193
  clear hy193
  have H' := Q_ H
  clear H
  try go_wp2
  have _ := Q_ (Kd.S_drew HO_9.out)
  have _ := Q_ (Kd.R_drew HO_10.out)
  have _ := Q_ (blk_drew BK176.out)
  have _ := Q_ (blk_drew BK177.out)
  have _ := Q_ (below_drew1 HB.out)
  clear HO_9 HO_10 BK176 BK177 HB
  rename_i HO_9 HO_10 BK176 BK177 HB
  have p186 : 0 ≤ (x11_1 : Int) := dt_
  have q186 : x11_1 < (t181.length : Int) := dt_
  obtain ⟨ad186, e186, hx186_0⟩ := Kd.at_int (Kd.R_reads' HO_10.out).2.2 x11_1 p186 q186
  obtain rfl : ad184 = ad186 := (by injection e186)
  replace p186 := eq_true p186
  replace q186 := eq_true q186
  have p189 : 0 ≤ (t185 : Int) := dt_
  have q189 : t185 < (l1_2.length : Int) := dt_
  obtain ⟨ad189, e189, hx189_0, hx189_1, hx189_2, hx189_3⟩ := at_T78 HR1_2.out t185 p189 q189
  have hw189_3 := hx189_3
  have hw189_2 := hx189_2
  have hw189_1 := hx189_1
  have hw189_0 := hx189_0
  cases e189
  replace hx189_0 := bt_ HB hx189_0
  replace hx189_1 := bt_ HB hx189_1
  replace hx189_2 := bt_ HB hx189_2
  replace hx189_3 := bt_ HB hx189_3
  replace p189 := eq_true p189
  replace q189 := eq_true q189
  have p188 : 0 ≤ (t187 : Int) := dt_
  have q188 : t187 < (l0_2.length : Int) := dt_
  obtain ⟨ad188, e188, hx188_0, hx188_1, hx188_2, hx188_3⟩ := at_T78 HR0_2.out t187 p188 q188
  have hw188_3 := hx188_3
  have hw188_2 := hx188_2
  have hw188_1 := hx188_1
  have hw188_0 := hx188_0
  cases e188
  replace hx188_0 := bt_ HB hx188_0
  replace hx188_1 := bt_ HB hx188_1
  replace hx188_2 := bt_ HB hx188_2
  replace hx188_3 := bt_ HB hx188_3
  replace p188 := eq_true p188
  replace q188 := eq_true q188
  refine start_ (n := 23) (S := fun w' => w'.cell? ⟨gb176, 0, none⟩ = some (.int .i64 a0_0) ∧ w'.cell? ⟨gb176, 1, none⟩ = some (.slice A0_1 l0_1.length c0_1) ∧ w'.cell? ⟨gb176, 2, none⟩ = some (.slice (some ad188) l0_2.length c0_2) ∧ w'.cell? ⟨gb177, 0, none⟩ = some (.int .i64 a1_0) ∧ w'.cell? ⟨gb177, 1, none⟩ = some (.slice A1_1 l1_1.length c1_1) ∧ w'.cell? ⟨gb177, 2, none⟩ = some (.slice (some ad189) l1_2.length c1_2) ∧ w'.cell? (ad184.add (x11_1).toNat) = some (.int .i64 (rd t181 x11_1)) ∧ w'.cell? (ad189.add ((t185).toNat * 4)) = some (.int .i64 ((rd_T78 l1_2 t185).f0)) ∧ w'.cell? ⟨(ad189.add ((t185).toNat * 4)).block, (ad189.add ((t185).toNat * 4)).off + 1, none⟩ = some (.bool ((rd_T78 l1_2 t185).f1)) ∧ w'.cell? ⟨(ad189.add ((t185).toNat * 4)).block, (ad189.add ((t185).toNat * 4)).off + 2, none⟩ = some (.int .i64 ((rd_T78 l1_2 t185).f2)) ∧ w'.cell? ⟨(ad189.add ((t185).toNat * 4)).block, (ad189.add ((t185).toNat * 4)).off + 3, none⟩ = some (.int .i64 ((rd_T78 l1_2 t185).f3)) ∧ w'.cell? (ad188.add ((t187).toNat * 4)) = some (.int .i64 ((rd_T78 l0_2 t187).f0)) ∧ w'.cell? ⟨(ad188.add ((t187).toNat * 4)).block, (ad188.add ((t187).toNat * 4)).off + 1, none⟩ = some (.bool ((rd_T78 l0_2 t187).f1)) ∧ w'.cell? ⟨(ad188.add ((t187).toNat * 4)).block, (ad188.add ((t187).toNat * 4)).off + 2, none⟩ = some (.int .i64 ((rd_T78 l0_2 t187).f2)) ∧ w'.cell? ⟨(ad188.add ((t187).toNat * 4)).block, (ad188.add ((t187).toNat * 4)).off + 3, none⟩ = some (.int .i64 ((rd_T78 l0_2 t187).f3))) (ds := [20, 21]) #[false, false, false, false, false, false, false, false, false, false, false, false, false, false, false, false, false, false, false, false, false, false, false] (by kernel_rfl) rfl rfl ⟨(blk_cell BK176.out 0).trans rfl, (blk_cell BK176.out 1).trans rfl, (blk_cell BK176.out 2).trans rfl, (blk_cell BK177.out 0).trans rfl, (blk_cell BK177.out 1).trans rfl, (blk_cell BK177.out 2).trans rfl, hx186_0, (bt_ HB hw189_0), (bt_ HB hw189_1), (bt_ HB hw189_2), (bt_ HB hw189_3), (bt_ HB hw188_0), (bt_ HB hw188_1), (bt_ HB hw188_2), (bt_ HB hw188_3)⟩ (fun hHeld => ?_); refine with_tabW spec_NextPairs.tab8 spec_NextPairs.bits8 (fun HT_ HW_ => ?_)
  generalize w43.drew = w51 at HO_9 HO_10 BK176 BK177 HB hx186_0 hx188_0 hx188_1 hx188_2 hx188_3 hx189_0 hx189_1 hx189_2 hx189_3 hHeld ⊢
  refine pu_ 0 (some 34) (tf_ 1 23) HT_ ?_
  refine pu_ 1 (some 35) (tf_ 2 23) HT_ ?_
  refine pu_ 4 (some 38) (tm_ 23 19) HT_ ?_
  refine pu_ 5 (some 39) (tm_ 23 51) HT_ ?_
  refine pu_ 6 (some 40) (tm_ 23 115) HT_ ?_
  refine pu_ 7 (some 41) (tm_ 23 243) HT_ ?_
  refine pu_ 13 (some 47) (tm_ 23 8435) HT_ ?_
  refine pu_ 15 (some 49) (tm_ 23 41203) HT_ ?_
  refine ta_ 2 (some 36) (tm_ 23 41207) HT_ HW_ hHeld ?_
  refine ta_ 3 (some 37) (tm_ 23 41215) HT_ HW_ hHeld ?_
  refine ta_ 8 (some 42) (tm_ 23 41471) HT_ HW_ hHeld ?_
  refine ta_ 14 (some 48) (tm_ 23 57855) HT_ HW_ hHeld ?_
  refine pu_ 16 (some 50) (tm_ 23 123391) HT_ ?_
  refine pu_ 17 (some 51) (tm_ 23 254463) HT_ ?_
  refine ta_ 18 (some 52) (tm_ 23 516607) HT_ HW_ hHeld ?_
  refine on_ 9 (some 43) (tm_ 23 517119) HT_ (fun K hK => ?_)
  refine goes_ Try.func68 (by kernel_rfl) rfl #[.agg #[.int .i64 a0_0, .slice A0_1 l0_1.length c0_1, .slice (some ad188) l0_2.length c0_2], .int .i64 a2, .bool true, .int .i64 (rd t181 x11_1)] (by rfl) rfl rfl mp_ ?_
  with_reducible refine (spec_MoveOf.calls k1 a0_0 _ _ l0_1 _ _ l0_2 a2 true (rd t181 x11_1) t187 _ ?side1 ?side2 ?side3 ?side4 A45.out).mono ?_
  (case side1 => exact cb_ HR0_1 HB)
  (case side2 => exact HC0_1.out)
  (case side3 => exact cb_ HR0_2 HB)
  (case side4 => exact HC0_2.out)
  rintro e w52 ⟨rfl, hb⟩
  have HS6_ := (hb.cell (World.block_lt_of_cell? _ _ (hHeld.2.2.2.2.2.2.1))).trans (hHeld.2.2.2.2.2.2.1)
  refine ⟨_, rfl, ?_⟩
  have _ := Q_ (Kd.S_below (ps_ HO_9.out) hb)
  have _ := Q_ (Kd.R_below (pr_ HO_10.out) hb)
  have _ := Q_ (bb_ BK176.out hb)
  have _ := Q_ (bb_ BK177.out hb)
  have _ := Q_ (below_step (pb2_ HB.out GE176.out GE177.out) hb)
  clear HO_9 HO_10 BK176 BK177 HB
  rename_i HO_9 HO_10 BK176 BK177 HB
  (try clear hb)
  (try clear hb2)
  (try clear hk)
  (try clear hi)
  refine hK.out _ _ ⟨(blk_cell BK176.out 0).trans rfl, (blk_cell BK176.out 1).trans rfl, (blk_cell BK176.out 2).trans rfl, (blk_cell BK177.out 0).trans rfl, (blk_cell BK177.out 1).trans rfl, (blk_cell BK177.out 2).trans rfl, HS6_, (bt_ HB hw189_0), (bt_ HB hw189_1), (bt_ HB hw189_2), (bt_ HB hw189_3), (bt_ HB hw188_0), (bt_ HB hw188_1), (bt_ HB hw188_2), (bt_ HB hw188_3)⟩ (fun hHeld => ?_)
  clear hK K
  refine no_ (some 43) ?_
  refine pu_ 10 (some 44) (tm_ 23 518143) HT_ ?_
  refine pu_ 11 (some 45) (tm_ 23 520191) HT_ ?_
  refine ta_ 12 (some 46) (tf_ 19 23) HT_ HW_ hHeld ?_
  refine on_ 19 (some 53) (tf_ 20 23) HT_ (fun K hK => ?_)
  refine Kd.R_lit_step (Kd.int .i64) _ 3 ?hg (N := 53) ?hd (xs := ([(rd_T78 l0_2 t187).f3, (rd_T78 l1_2 t185).f3] : List Int)) (inner := [.int .i64 ((rd_T78 l0_2 t187).f3), .int .i64 ((rd_T78 l1_2 t185).f3)]) (ok := fun _ => True) (okp := fun _ => True) ?hr ?hp (fun _ hk => hk) trivial (Below.refl _ _) (Nat.le_refl _) (by simp) ?_; (case hd => rfl); (case hg => rfl); (case hr => first | (go_simp; done) | (go_simp; rfl)); (case hp => exact (Reps.one (show Kd.M (Kd.int .i64) _ _ _ ((rd_T78 l0_2 t187).f3) [.int .i64 ((rd_T78 l0_2 t187).f3)] from rfl) (Reps.one (show Kd.M (Kd.int .i64) _ _ _ ((rd_T78 l1_2 t185).f3) [.int .i64 ((rd_T78 l1_2 t185).f3)] from rfl) (Reps.none _ _))))
  intro v191 w53 ho54 hb hg_ hnew_
  have HS6_ := (hb.cell (World.block_lt_of_cell? _ _ (hHeld.2.2.2.2.2.2.1))).trans (hHeld.2.2.2.2.2.2.1)
  clear hg_ hnew_
  (first | rw [← Ny190.out] at ho54 | (simp only [Int.reduceToNat] at ho54; rw [← Ny190.out] at ho54))
  have _ := Q_ (Kd.S_elder' (ps_ HO_9.out) (Kd.R_base ho54) hb)
  have _ := Q_ (Kd.R_elder' (pr_ HO_10.out) (Kd.R_base ho54) hb)
  have _ := Q_ (Kd.R_lower (Kd.R_new' ho54 (Kd.R_lt (pr_ HO_10.out))) (below_size (pb2_ HB.out GE176.out GE177.out)))
  have _ := Q_ (bb_ BK176.out hb)
  have _ := Q_ (bb_ BK177.out hb)
  have _ := Q_ (below_step (pb2_ HB.out GE176.out GE177.out) hb)
  clear HO_9 HO_10 BK176 BK177 HB
  rename_i HO_9 HO_10 HO192 BK176 BK177 HB
  clear hb ho54
  obtain ⟨Ao56, co56, eo56⟩ := Kd.R_slice HO192.out
  (first | subst eo56 | (injection eo56 with f1_ f2_ f3_; have f4_ := f1_.symm; have f5_ := f3_.symm; clear f1_ f2_ f3_; subst f4_; subst f5_))
  refine hK.out _ _ ⟨(blk_cell BK176.out 0).trans rfl, (blk_cell BK176.out 1).trans rfl, (blk_cell BK176.out 2).trans rfl, (blk_cell BK177.out 0).trans rfl, (blk_cell BK177.out 1).trans rfl, (blk_cell BK177.out 2).trans rfl, HS6_, (bt_ HB hw189_0), (bt_ HB hw189_1), (bt_ HB hw189_2), (bt_ HB hw189_3), (bt_ HB hw188_0), (bt_ HB hw188_1), (bt_ HB hw188_2), (bt_ HB hw188_3)⟩ (fun hHeld => ?_)
  clear hK K
  refine no_ (some 53) ?_
  refine last_ (i := 20) (N := some 54) #[true, true, true, true, true, true, true, true, true, true, true, true, true, true, true, true, true, true, true, true, true, false, false] rfl rfl (one_of HT_.out (by kernel_rfl)) (by decide) (fun K hK => ?_)
  refine value_ (w1 := ?_) (v := ?_) (by rfl) rfl ?_ ?_
  rotate_left 2
  · go_simp
    constructor
    · rfl
    · rfl
  refine hK.out _ _ ?_
  clear hK K
  refine no_ (some 54) ?_
  refine last_ (i := 21) (N := some 55) #[true, true, true, true, true, true, true, true, true, true, true, true, true, true, true, true, true, true, true, true, true, true, false] rfl rfl (one_of HT_.out (by kernel_rfl)) (by decide) (fun K hK => ?_)
  refine Kd.S_append_step (Kd.slice 3 (Kd.int .i64)) (w0 := w) w.heap.size (by rfl) (.tmp 34) (.tmp 54) 83 39 (.slice none 0 0) 24 rfl Try.underlying83 info39 rfl (by decide) (by omega) u9 x9_1 y190 [.slice Ao56 y190.length co56] (fun k_ => some k_ ≠ (.slice (some ad184) t181.length co41 : Value).ownBlock) (fun k_ => some k_ = (.slice Ao56 y190.length co56 : Value).ownBlock) rfl rfl ?aP (fun k_ hk_ => ((Kd.R_mono (ok' := fun k_ => ((fun k_ => some k_ ≠ (.slice (some ad184) t181.length co41 : Value).ownBlock)) k_ ∧ some k_ ≠ (u9 : Value).ownBlock) (Kd.R_apart' (HO192.out) (Kd.S_typed HO_9.out) (by decide)) (fun k_ hk => ⟨hk.1.2, hk.2⟩))).1 k_ hk_.symm) ?aF ?aO ?aB ?aS ?aL ?_
  (case aP => exact Kd.M_row (Kd.R_mono (Kd.R_tight rfl (Kd.R_mono (ok' := fun k_ => ((fun k_ => some k_ ≠ (.slice (some ad184) t181.length co41 : Value).ownBlock)) k_ ∧ some k_ ≠ (u9 : Value).ownBlock) (Kd.R_apart' (HO192.out) (Kd.S_typed HO_9.out) (by decide)) (fun k_ hk => ⟨hk.1.2, hk.2⟩))) (fun _ h_ => h_)))
  (case aB => exact (pb2_ HB.out GE176.out GE177.out))
  (case aF => exact (fun k_ hk => Kd.fresh' (Kd.R_lt (pr_ HO_10.out)) k_ hk))
  (case aO => exact (by (with_reducible repeat (first | apply Kd.S_alloc | apply Kd.S_drewN | apply Kd.S_drew)); exact Kd.S_mono HO_9.out (fun k_ hk => ⟨hk.1, fun e_ => hk.2 e_⟩)))
  (case aS => exact (below_size (pb2_ HB.out GE176.out GE177.out)))
  (case aL => have := LMc50.out; omega)
  intro v194 w55 ho hb hg hat
  rw [← Ny193.out] at ho
  have _ := Q_ (Kd.R_over' (pr_ HO_10.out) (Kd.S_typed (ps_ HO_9.out)) (by decide) hg)
  have _ := Q_ (blk_grown (g := gb176) (o := .cells #[.int .i64 a0_0, .slice A0_1 l0_1.length c0_1, .slice (some ad188) l0_2.length c0_2] 34 (0, 0)) (pk_ BK176.out) hg (Kd.S_ne HO_9.out BK176.out (by decide)))
  have _ := Q_ (blk_grown (g := gb177) (o := .cells #[.int .i64 a1_0, .slice A1_1 l1_1.length c1_1, .slice (some ad189) l1_2.length c1_2] 34 (0, 0)) (pk_ BK177.out) hg (Kd.S_ne HO_9.out BK177.out (by decide)))
  have _ := Q_ (hb)
  have _ := Q_ (ho)
  clear HO_10 BK176 BK177 HB HO_9 HO192
  rename_i HO_10 BK176 BK177 HB HO195
  clear ho hb hg hat
  refine hK.out _ _ ?_
  clear hK K
  refine no_ (some 55) ?_
  refine pu_ 22 (some 9) (tf_ 23 23) HT_ ?_
  refine done_ (done_of HT_.out (by kernel_rfl)) ?_
  try go_wp2
  go_roundg k1
  case measure => have := HK1.out; omega
  case rel => exact ⟨(y193), (wrap64 (x11_1 + 1)), el_, H', ⟨by have := HK1.out; omega⟩, ⟨ps_ HO195.out⟩, ⟨pr_ (Kd.R_mono HO_10.out (fun _ hk => trivial))⟩, ⟨pk_ BK176.out⟩, ⟨pk_ BK177.out⟩, ⟨pb2_ HB.out GE176.out GE177.out⟩⟩

end Go.Proofs.Ytldcchjbaglppaa.Print
