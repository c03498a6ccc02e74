-- Written by a program of this session (printx.py) out of the translation; Lean checks it.
import Derived.Test.YtldcchjbaglppaaPrint0
import Derived.Test.YtldcchjbaglppaaPrint9
import Derived.Test.YtldcchjbaglppaaPrint10
import Derived.Test.YtldcchjbaglppaaPrint11
namespace Go.Proofs.Ytldcchjbaglppaa.Print
open Go.RowKit Go.Proofs.YtldcchjbaglppaaW.PrintWords Go.Proofs.YtldcchjbaglppaaW.PrintLast Go.Proofs.YtldcchjbaglppaaW.PrintMore Go.Proofs.Ytldcchjbaglppaa.Short
attribute [local go_sem] max2_int min2_int max_two min_two max_three min_three max_four min_four   -- for this text's walks alone
set_option linter.unusedVariables false
set_option linter.unusedSimpArgs false

/-! ### impl_NextPairs: function 88 -/
mutual
def impl_NextPairs.l0 : Nat → Int → Int → List (List Int) → List Bool → Int → Int → Int → List Bool → List (S78) → Int → List Bool → List (S78) → Option ((List (List Int)))
  | 0, _, _, _, _, _, _, _, _, _, _, _, _ => none
  | k + 1, x2, x3, x9, x18, x19, x20, x395000, x395001, x395002, x396000, x396001, x396002 => if x20 < x19 then (if 0 ≤ x20 then (if x20 < (x18.length : Int) then ((impl_MovesFrom.f k x395000 x395001 x395002 x2 true).bind fun t403 => (if rdOf false x18 x20 = true then (impl_NextPairs.j1 k x2 x3 x9 (rdOf false x18 x20) t403 x18 x19 x20 x395000 x395001 x395002 x396000 x396001 x396002) else ((impl_MovesFrom.f k x396000 x396001 x396002 x3 true).bind fun t406 => (impl_NextPairs.j1 k x2 x3 x9 (rdOf false x18 x20) t406 x18 x19 x20 x395000 x395001 x395002 x396000 x396001 x396002)))) else (none)) else (none)) else (some x9)
def impl_NextPairs.j1 : Nat → Int → Int → List (List Int) → Bool → List Int → List Bool → Int → Int → Int → List Bool → List (S78) → Int → List Bool → List (S78) → Option ((List (List Int)))
  | 0, _, _, _, _, _, _, _, _, _, _, _, _, _, _ => none
  | k + 1, x2, x3, x9, x11, x12, x18, x19, x20, x395000, x395001, x395002, x396000, x396001, x396002 => impl_NextPairs.l1 k x2 x3 x9 x11 x18 x19 x20 x12 (x12.length : Int) 0 x395000 x395001 x395002 x396000 x396001 x396002
def impl_NextPairs.l1 : Nat → Int → Int → List (List Int) → Bool → List Bool → Int → Int → List Int → Int → Int → Int → List Bool → List (S78) → Int → List Bool → List (S78) → Option ((List (List Int)))
  | 0, _, _, _, _, _, _, _, _, _, _, _, _, _, _, _, _ => none
  | k + 1, x2, x3, x9, x11, x18, x19, x20, x32, x33, x34, x395000, x395001, x395002, x396000, x396001, x396002 => if x34 < x33 then (if 0 ≤ x34 then (if x34 < (x32.length : Int) then ((impl_MoveOf.f k x395000 x395001 x395002 x2 x11 (rd x32 x34)).bind fun t410 => ((impl_MoveOf.f k x396000 x396001 x396002 x3 (!x11) (rd x32 x34)).bind fun t411 => (if t410 ≥ 0 then (if t411 ≥ 0 then (if 0 ≤ t410 then (if t410 < (x395002.length : Int) then (if 0 ≤ t411 then (if t411 < (x396002.length : Int) then (if x9.length < 5864062014805 then (impl_NextPairs.l1 k x2 x3 (x9 ++ [(([(rd_T78 x395002 t410).f3, (rd_T78 x396002 t411).f3] : List Int))]) x11 x18 x19 x20 x32 x33 (wrap64 (x34 + 1)) x395000 x395001 x395002 x396000 x396001 x396002) else (none)) else (none)) else (none)) else (none)) else (none)) else (impl_NextPairs.l1 k x2 x3 x9 x11 x18 x19 x20 x32 x33 (wrap64 (x34 + 1)) x395000 x395001 x395002 x396000 x396001 x396002)) else (impl_NextPairs.l1 k x2 x3 x9 x11 x18 x19 x20 x32 x33 (wrap64 (x34 + 1)) x395000 x395001 x395002 x396000 x396001 x396002)))) else (none)) else (none)) else (impl_NextPairs.l0 k x2 x3 x9 x18 x19 (wrap64 (x20 + 1)) x395000 x395001 x395002 x396000 x396001 x396002)
end
def impl_NextPairs.f (k : Nat) (a0_0 : Int) (l0_1 : List Bool) (l0_2 : List (S78)) (a1_0 : Int) (l1_1 : List Bool) (l1_2 : List (S78)) (a2 : Int) (a3 : Int) : Option ((List (List Int))) := (some (([true, false] : List Bool) : List Bool)).bind fun y399 => (impl_NextPairs.l0 k a2 a3 (([] : List (List Int))) y399 (y399.length : Int) 0 a0_0 l0_1 l0_2 a1_0 l1_1 l1_2)
theorem impl_NextPairs.mono_l : ∀ k, (∀ y0 y1 y2 y3 y4 y5 y6 y7 y8 y9 y10 y11, LeO (impl_NextPairs.l0 k y0 y1 y2 y3 y4 y5 y6 y7 y8 y9 y10 y11) (impl_NextPairs.l0 (k + 1) y0 y1 y2 y3 y4 y5 y6 y7 y8 y9 y10 y11)) ∧ (∀ y0 y1 y2 y3 y4 y5 y6 y7 y8 y9 y10 y11 y12 y13, LeO (impl_NextPairs.j1 k y0 y1 y2 y3 y4 y5 y6 y7 y8 y9 y10 y11 y12 y13) (impl_NextPairs.j1 (k + 1) y0 y1 y2 y3 y4 y5 y6 y7 y8 y9 y10 y11 y12 y13)) ∧ (∀ y0 y1 y2 y3 y4 y5 y6 y7 y8 y9 y10 y11 y12 y13 y14 y15, LeO (impl_NextPairs.l1 k y0 y1 y2 y3 y4 y5 y6 y7 y8 y9 y10 y11 y12 y13 y14 y15) (impl_NextPairs.l1 (k + 1) y0 y1 y2 y3 y4 y5 y6 y7 y8 y9 y10 y11 y12 y13 y14 y15))
  | 0 => ⟨fun _ _ _ _ _ _ _ _ _ _ _ _ r h => by simp [impl_NextPairs.l0] at h, fun _ _ _ _ _ _ _ _ _ _ _ _ _ _ r h => by simp [impl_NextPairs.j1] at h, fun _ _ _ _ _ _ _ _ _ _ _ _ _ _ _ _ r h => by simp [impl_NextPairs.l1] at h⟩
  | k + 1 => by
    obtain ⟨ih0, ih1, ih2⟩ := impl_NextPairs.mono_l k
    refine ⟨?_, ?_, ?_⟩
    · intro y0 y1 y2 y3 y4 y5 y6 y7 y8 y9 y10 y11
      unfold impl_NextPairs.l0
      exact mo5_ ih0 ih1 ih2 impl_MoveOf.mono impl_MovesFrom.mono
    · intro y0 y1 y2 y3 y4 y5 y6 y7 y8 y9 y10 y11 y12 y13
      unfold impl_NextPairs.j1
      exact mo5_ ih0 ih1 ih2 impl_MoveOf.mono impl_MovesFrom.mono
    · intro y0 y1 y2 y3 y4 y5 y6 y7 y8 y9 y10 y11 y12 y13 y14 y15
      unfold impl_NextPairs.l1
      exact mo5_ ih0 ih1 ih2 impl_MoveOf.mono impl_MovesFrom.mono
theorem impl_NextPairs.mono : ∀ a0 a1 a2 a3 a4 a5 a6 a7 k, LeO (impl_NextPairs.f k a0 a1 a2 a3 a4 a5 a6 a7) (impl_NextPairs.f (k + 1) a0 a1 a2 a3 a4 a5 a6 a7) := by
  intro a0 a1 a2 a3 a4 a5 a6 a7 k
  obtain ⟨ih0, ih1, ih2⟩ := impl_NextPairs.mono_l k
  unfold impl_NextPairs.f
  exact mo5_ ih0 ih1 ih2 impl_MoveOf.mono impl_MovesFrom.mono
def impl_NextPairs.T11 : Bool × List (List Nat × List Nat) := (true, [([], []), ([], []), ([], []), ([], []), ([0, 1, 2, 3], [0, 1, 2, 3]), ([], []), ([], []), ([], []), ([7], [7]), ([], []), ([5, 6, 8, 9, 4], [5, 6, 8, 9]), ([4, 10, 0, 1, 2, 3, 4], [4]), ([10, 11, 0, 1, 2, 3, 4, 5, 6, 7, 8, 9, 10, 11], [10])])
def impl_NextPairs.B11 : List Nat := [0, 0, 0, 0, 15, 0, 0, 0, 128, 0, 1023, 2047, 4095]
theorem impl_NextPairs.tab11 : rtab .any (opsOf Try.f88 11) = impl_NextPairs.T11 := by kernel_rfl
theorem impl_NextPairs.bits11 : waitsOk impl_NextPairs.T11.2 impl_NextPairs.B11 = true := by kernel_rfl
def impl_NextPairs.T13 : Bool × List (List Nat × List Nat) := (true, [([], []), ([], []), ([1], [1]), ([], []), ([2, 3], [2, 3]), ([4], [4]), ([5], [5]), ([], []), ([7], [7]), ([], []), ([8, 9], [8, 9]), ([10], [10]), ([11], [11]), ([6, 12], [6, 12]), ([13], [13]), ([0, 14], [0, 14]), ([15, 15, 0, 1, 2, 3, 4, 5, 6, 7, 8, 9, 10, 11, 12, 13, 14, 15], [0, 15])])
def impl_NextPairs.B13 : List Nat := [0, 0, 2, 0, 14, 30, 62, 0, 128, 0, 896, 1920, 3968, 8190, 16382, 32767, 65535]
theorem impl_NextPairs.tab13 : rtab .any (opsOf Try.f88 13) = impl_NextPairs.T13 := by kernel_rfl
theorem impl_NextPairs.bits13 : waitsOk impl_NextPairs.T13.2 impl_NextPairs.B13 = true := by kernel_rfl
set_option maxHeartbeats 8000000 in
set_option maxRecDepth 100000 in
theorem impl_NextPairs.calls (k : Nat) (a0_0 : Int) (A0_1 : Option Addr) (c0_1 : Nat) (l0_1 : List Bool) (A0_2 : Option Addr) (c0_2 : Nat) (l0_2 : List (S78)) (a1_0 : Int) (A1_1 : Option Addr) (c1_1 : Nat) (l1_1 : List Bool) (A1_2 : Option Addr) (c1_2 : Nat) (l1_2 : List (S78)) (a2 : Int) (a3 : Int) (r : List (List Int)) (w : World) (hr0_1 : Kd.C Kd.bool w A0_1 l0_1.length l0_1) (hc0_1 : l0_1.length ≤ c0_1) (hr0_2 : Kd.C k78 w A0_2 l0_2.length l0_2) (hc0_2 : l0_2.length ≤ c0_2) (hr1_1 : Kd.C Kd.bool w A1_1 l1_1.length l1_1) (hc1_1 : l1_1.length ≤ c1_1) (hr1_2 : Kd.C k78 w A1_2 l1_2.length l1_2) (hc1_2 : l1_2.length ≤ c1_2) (h : impl_NextPairs.f k a0_0 l0_1 l0_2 a1_0 l1_1 l1_2 a2 a3 = some r) :
    Calls Try.prog 88 #[.agg #[.int .i64 a0_0, .slice A0_1 l0_1.length c0_1, .slice A0_2 l0_2.length c0_2], .agg #[.int .i64 a1_0, .slice A1_1 l1_1.length c1_1, .slice A1_2 l1_2.length c1_2], .int .i64 a2, .int .i64 a3] w fun e w' => ∃ v0_ : Value, e = .returned (v0_) ∧ Kd.S (Kd.slice 3 (Kd.int .i64)) 39 w' w.heap.size (fun _ => True) v0_ r ∧ Below w.heap.size w w' := by
  have hu34 := Try.underlying34
  have HR0_1 := Q_ hr0_1
  have HC0_1 := Q_ hc0_1
  clear hr0_1 hc0_1
  have HR0_2 := Q_ hr0_2
  have HC0_2 := Q_ hc0_2
  clear hr0_2 hc0_2
  have HR1_1 := Q_ hr1_1
  have HC1_1 := Q_ hc1_1
  clear hr1_1 hc1_1
  have HR1_2 := Q_ hr1_2
  have HC1_2 := Q_ hc1_2
  clear hr1_2 hc1_2
  have HB := Q_ (Below.refl w.heap.size w)
  have H : ((some (([true, false] : List Bool) : List Bool)).bind fun y399 => (impl_NextPairs.l0 k a2 a3 (([] : List (List Int))) y399 (y399.length : Int) 0 a0_0 l0_1 l0_2 a1_0 l1_1 l1_2)) = some r := h
  clear h
  obtain ⟨y396, hy396⟩ : ∃ y_ : List (List Int), y_ = (([] : List (List Int))) := ⟨_, rfl⟩
  replace H : ((some (([true, false] : List Bool) : List Bool)).bind fun y399 => (impl_NextPairs.l0 k a2 a3 y396 y399 (y399.length : Int) 0 a0_0 l0_1 l0_2 a1_0 l1_1 l1_2)) = some r := by first | (rw [hy396]; with_reducible exact H) | (have H2_ := (Option.bind_some _ _).symm.trans H; rw [hy396]; with_reducible exact H2_) | (have H2_ := (Option.bind_some _ _).symm.trans H; with_reducible exact H2_) | with_reducible exact H | (rw [hy396]; exact H) | exact H
  have Ny396 := Q_ hy396
  clear hy396
  obtain ⟨y399, hy399⟩ : ∃ y_ : List Bool, y_ = (([true, false] : List Bool)) := ⟨_, rfl⟩
  replace H : (impl_NextPairs.l0 k a2 a3 y396 y399 (y399.length : Int) 0 a0_0 l0_1 l0_2 a1_0 l1_1 l1_2) = some r := by first | (rw [hy399]; with_reducible exact H) | (have H2_ := (Option.bind_some _ _).symm.trans H; rw [hy399]; with_reducible exact H2_) | (have H2_ := (Option.bind_some _ _).symm.trans H; with_reducible exact H2_) | with_reducible exact H | (rw [hy399]; exact H) | exact H
  have Ny399 := Q_ hy399
  clear hy399
  have H' := Q_ H
  clear H
  go_enter Try.func88, Try.ntmps88
  go_wp2_with (first | ((with_reducible refine gate_dst (N := 4) rfl ?_); refine box_event ?hg (N := 4) ?hd (cs := #[.int .i64 a0_0, .slice A0_1 l0_1.length c0_1, .slice A0_2 l0_2.length c0_2]) (t := 34) ?hr ?_; (case hd => rfl); (case hg => rfl); (case hr => first | (go_simp; done) | (go_simp; rfl)); intro gb394 hg w5 hbox hb; have n0_ := Q_ (below_step (pb_ HB.out) hb); have n1_ := Q_ (hbox); have n2_ := Q_ ((by rw [hg]; exact (below_size (pb_ HB.out)) : w.heap.size ≤ gb394)); have n3_ := n2_; clear HB; have HB := n0_; have BK394 := n1_; have GW394 := n2_; have GE394 := n3_; clear n0_ n1_ n2_ n3_; clear hb hbox hg) | ((with_reducible refine gate_dst (N := 5) rfl ?_); refine box_event ?hg (N := 5) ?hd (cs := #[.int .i64 a1_0, .slice A1_1 l1_1.length c1_1, .slice A1_2 l1_2.length c1_2]) (t := 34) ?hr ?_; (case hd => rfl); (case hg => rfl); (case hr => first | (go_simp; done) | (go_simp; rfl)); intro gb395 hg w6 hbox hb; have n0_ := Q_ (bb_ BK394.out hb); have n1_ := Q_ (below_step (pb1_ HB.out GE394.out) hb); have n2_ := Q_ (hbox); have n3_ := Q_ ((by rw [hg]; exact (below_size (pb1_ HB.out GE394.out)) : w.heap.size ≤ gb395)); have n4_ := n3_; have n5_ := Q_ ((by rw [hg]; exact Nat.ne_of_lt (blk_lt (pk_ BK394.out)) : gb394 ≠ gb395)); have n6_ := Q_ ((by rw [hg]; exact Nat.ne_of_gt (blk_lt (pk_ BK394.out)) : gb395 ≠ gb394)); clear BK394; clear HB; have BK394 := n0_; have HB := n1_; have BK395 := n2_; have GW395 := n3_; have GE395 := n4_; have NB394_395 := n5_; have NB395_394 := n6_; clear n0_ n1_ n2_ n3_ n4_ n5_ n6_; clear hb hbox hg) | ((with_reducible refine gate_dst (N := 17) rfl ?_); refine Kd.S_lit (Kd.slice 3 (Kd.int .i64)) _ 39 ?hg (N := 17) ?hd (xs := ([] : List (List Int))) (inner := []) (ok := fun _ => True) (okp := fun _ => True) ?hr ?hp (fun _ hk => hk) trivial (Below.refl _ _) (Nat.le_refl _) (by simp) ?_; (case hd => rfl); (case hg => rfl); (case hr => first | (go_simp; done) | (go_simp; rfl)); (case hp => exact (Reps.none _ _)); intro v397 w7 ho8 hb hg_ hnew_; clear hg_ hnew_; (first | rw [← Ny396.out] at ho8 | (simp only [Int.reduceToNat] at ho8; rw [← Ny396.out] at ho8)); have _ := Q_ (Kd.S_lower ho8 (below_size (pb2_ HB.out GE394.out GE395.out))); have _ := Q_ (bb_ BK394.out hb); have _ := Q_ (bb_ BK395.out hb); have _ := Q_ (below_step (pb2_ HB.out GE394.out GE395.out) hb); clear BK394 BK395 HB; rename_i HO398 BK394 BK395 HB; clear hb ho8) | ((with_reducible refine gate_dst (N := 18) rfl ?_); refine Kd.R_lit Kd.bool _ 4 ?hg (N := 18) ?hd (xs := ([true, false] : List Bool)) (inner := [.bool true, .bool false]) (ok := fun _ => True) (okp := fun _ => True) ?hr ?hp (fun _ hk => hk) trivial (Below.refl _ _) (Nat.le_refl _) (by simp) ?_; (case hd => rfl); (case hg => rfl); (case hr => first | (go_simp; done) | (go_simp; rfl)); (case hp => exact (Reps.one (show Kd.M Kd.bool _ _ _ true [.bool true] from rfl) (Reps.one (show Kd.M Kd.bool _ _ _ false [.bool false] from rfl) (Reps.none _ _)))); intro v400 w9 ho10 hb hg_ hnew_; clear hg_ hnew_; (first | rw [← Ny399.out] at ho10 | (simp only [Int.reduceToNat] at ho10; rw [← Ny399.out] at ho10)); have _ := Q_ (Kd.S_below (ps_ HO398.out) hb); have _ := Q_ (Kd.R_lower ho10 (below_size (pb2_ HB.out GE394.out GE395.out))); have _ := Q_ (bb_ BK394.out hb); have _ := Q_ (bb_ BK395.out hb); have _ := Q_ (below_step (pb2_ HB.out GE394.out GE395.out) hb); clear HO398 BK394 BK395 HB; rename_i HO398 HO401 BK394 BK395 HB; clear hb ho10; obtain ⟨Ao11, co11, eo11⟩ := Kd.R_slice HO401.out; subst eo11))
  (try simp only [Act.put, List.setIfInBounds_toArray, List.set_cons_zero, List.set_cons_succ])
  go_loopg [9, 20] k (fun kq v9 v20 w' => ∃ (x9_1 : List (List Int)) (x20_1 : Int), v20 = .int .i64 x20_1 ∧ Aside0 (impl_NextPairs.l0 kq a2 a3 x9_1 y399 (y399.length : Int) x20_1 a0_0 l0_1 l0_2 a1_0 l1_1 l1_2 = some r) ∧ Aside0 (kq ≤ k) ∧ Aside0 (Kd.S (Kd.slice 3 (Kd.int .i64)) 39 w' w.heap.size (fun _ => True) v9 x9_1) ∧ Aside0 (Kd.R Kd.bool 4 w' w.heap.size (fun _ => True) (.slice Ao11 y399.length co11) y399) ∧ Aside0 (w'.heap[gb394]? = some (.cells #[.int .i64 a0_0, (.slice A0_1 l0_1.length c0_1), (.slice A0_2 l0_2.length c0_2)] 34 (0, 0))) ∧ Aside0 (w'.heap[gb395]? = some (.cells #[.int .i64 a1_0, (.slice A1_1 l1_1.length c1_1), (.slice A1_2 l1_2.length c1_2)] 34 (0, 0))) ∧ Aside0 (Below w.heap.size w w'))
  case atStart => exact ⟨(y396), (0), el_, H', ⟨Nat.le_refl _⟩, ⟨ps_ HO398.out⟩, ⟨pr_ HO401.out⟩, ⟨pk_ BK394.out⟩, ⟨pk_ BK395.out⟩, ⟨pb2_ HB.out GE394.out GE395.out⟩⟩
  clear H'
  try clear c1
  try clear p2
  try clear c8
  obtain ⟨x9_1, x20_1, rfl, HA, HK1, HO_9, HO_18, BK394, BK395, HB⟩ := hrel
  rcases gk with _ | k1
  · exact absurd HA.out (by simp [impl_NextPairs.l0])
  have H := HA.out
  clear HA
  simp only [impl_NextPairs.l0] at H
  by_cases c12 : x20_1 < (y399.length : Int)
  rotate_left
  · rw [if_neg c12] at H
    have c12b0 : decide (x20_1 < (y399.length : Int)) = false := decide_eq_false c12
    clear c12
    obtain rfl := Option.some.inj H
    go_wp2
    go_ret
    exact ⟨_, er_, ps_ HO_9.out, pb2_ HB.out GE394.out GE395.out⟩
  rw [if_pos c12] at H
  have c12b0 : decide (x20_1 < (y399.length : Int)) = true := decide_eq_true c12
  clear c12
  by_cases c13 : 0 ≤ x20_1
  rotate_left
  · rw [if_neg c13] at H
    exact absurd H (by simp)
  rw [if_pos c13] at H
  have c13b0 : decide (0 ≤ x20_1) = true := decide_eq_true c13
  clear c13
  by_cases c14 : x20_1 < (y399.length : Int)
  rotate_left
  · rw [if_neg c14] at H
    exact absurd H (by simp)
  rw [if_pos c14] at H
  have c14b0 : decide (x20_1 < (y399.length : Int)) = true := decide_eq_true c14
  clear c14
  replace H := Option.bind_eq_some_iff.mp H
  obtain ⟨t403, A150, H⟩ := H
  (try dsimp only at H)
  have A15 := Q_ A150
  clear A150
  have HC16 := Q_ H
  clear H
  have p402 : 0 ≤ (x20_1 : Int) := dt_
  have q402 : x20_1 < (y399.length : Int) := dt_
  obtain ⟨ad402, e402, hx402_0⟩ := Kd.at_bool (Kd.R_reads' HO_18.out).2.2 x20_1 p402 q402
  cases e402
  replace p402 := eq_true p402
  replace q402 := eq_true q402
  have hnb17 := NB394_395.out
  have hnc17 := NB395_394.out
  have hcz18 := bc3_ BK394.out
  go_upto_if 28 with (first | ((with_reducible refine gate_callee (f := 81) rfl ?_); refine gl_ (some 26) Try.func81 #[.agg #[.int .i64 a0_0, .slice A0_1 l0_1.length c0_1, .slice A0_2 l0_2.length c0_2], .int .i64 a2, .bool true] ?_; (with_reducible refine (impl_MovesFrom.calls k1 a0_0 _ _ l0_1 _ _ l0_2 a2 true t403 _ ?side1 ?side2 ?side3 ?side4 A15.out).mono ?_); (case side1 => exact cb_ HR0_1 HB); (case side2 => exact HC0_1.out); (case side3 => exact cb_ HR0_2 HB); (case side4 => exact HC0_2.out); rintro e w19 ⟨v404, rfl, ho0, hb⟩; refine ⟨_, rfl, ?_⟩; have _ := Q_ (Kd.S_elder' (ps_ HO_9.out) (Kd.R_base ho0) hb); have _ := Q_ (Kd.R_below (pr_ HO_18.out) hb); have _ := Q_ (Kd.R_lower ho0 (below_size (pb2_ HB.out GE394.out GE395.out))); have _ := Q_ (bb_ BK394.out hb); have _ := Q_ (bb_ BK395.out hb); have _ := Q_ (below_step (pb2_ HB.out GE394.out GE395.out) hb); clear HO_9 HO_18 BK394 BK395 HB; rename_i HO_9 HO_18 HO405 BK394 BK395 HB; (try clear hb); (try clear hb2); (try clear hk); (try clear hi); (try clear ho0)))
  (try simp only [Act.put, List.setIfInBounds_toArray, List.set_cons_zero, List.set_cons_succ])
  go_cut [12] (fun v12 wc => ∃ (kq : Nat) (x12_15 : List Int), Aside0 (impl_NextPairs.j1 kq a2 a3 x9_1 (rdOf false y399 x20_1) x12_15 y399 (y399.length : Int) x20_1 a0_0 l0_1 l0_2 a1_0 l1_1 l1_2 = some r) ∧ Aside0 (kq ≤ k1) ∧ Aside0 (Kd.S (Kd.slice 3 (Kd.int .i64)) 39 wc w.heap.size (fun k_ => some k_ ≠ (v12 : Value).ownBlock) u9 x9_1) ∧ Aside0 (Kd.R (Kd.int .i64) 3 wc w.heap.size (fun _ => True) v12 x12_15) ∧ Aside0 (Kd.R Kd.bool 4 wc w.heap.size (fun _ => True) (.slice (some ad402) y399.length co11) y399) ∧ Aside0 (wc.heap[gb394]? = some (.cells #[.int .i64 a0_0, (.slice A0_1 l0_1.length c0_1), (.slice A0_2 l0_2.length c0_2)] 34 (0, 0))) ∧ Aside0 (wc.heap[gb395]? = some (.cells #[.int .i64 a1_0, (.slice A1_1 l1_1.length c1_1), (.slice A1_2 l1_2.length c1_2)] 34 (0, 0))) ∧ Aside0 (Below w.heap.size w wc))
  case first =>
    have H := HC16.out
    clear HC16
    obtain ⟨bq20, hbq20⟩ : ∃ b_ : Bool, b_ = (rdOf false y399 x20_1) := ⟨_, rfl⟩
    replace H : (if bq20 = true then (impl_NextPairs.j1 k1 a2 a3 x9_1 bq20 t403 y399 (y399.length : Int) x20_1 a0_0 l0_1 l0_2 a1_0 l1_1 l1_2) else ((impl_MovesFrom.f k1 a1_0 l1_1 l1_2 a3 true).bind fun t406 => (impl_NextPairs.j1 k1 a2 a3 x9_1 bq20 t406 y399 (y399.length : Int) x20_1 a0_0 l0_1 l0_2 a1_0 l1_1 l1_2))) = some r := by rw [← hbq20] at H; exact H
    have Nbq20 := Q_ hbq20
    clear hbq20
    (try rw [← Nbq20.out])
    by_cases c21 : bq20 = true
    · subst c21
      rw [if_pos rfl] at H
      have H' := Q_ H
      clear H
      go_wp2
      refine Met.intro ?_; go_step; (try rw [← Nbq20.out]); (repeat apply Exists.intro); refine ⟨?rel, rfl⟩
      case rel => (try rw [← Nbq20.out]); exact ⟨_, (t403), H', ⟨by have := HK1.out; first | omega | exact Nat.le_refl _⟩, ⟨ps_ (Kd.S_mono HO_9.out (fun _ hk => hk.2))⟩, ⟨pr_ HO405.out⟩, ⟨pr_ HO_18.out⟩, ⟨pk_ BK394.out⟩, ⟨pk_ BK395.out⟩, ⟨pb2_ HB.out GE394.out GE395.out⟩⟩
    replace c21 := Bool.eq_false_iff.mpr c21
    subst c21
    rw [if_neg (show ¬ (false = true) by decide)] at H
    replace H := Option.bind_eq_some_iff.mp H
    obtain ⟨t406, A220, H⟩ := H
    (try dsimp only at H)
    have A22 := Q_ A220
    clear A220
    have H' := Q_ H
    clear H
    have hnb23 := NB395_394.out
    have hnc23 := NB394_395.out
    have hcz24 := bc3_ BK395.out
    go_wp2_with (first | ((with_reducible refine gate_callee (f := 81) rfl ?_); refine gl_ (some 31) Try.func81 #[.agg #[.int .i64 a1_0, .slice A1_1 l1_1.length c1_1, .slice A1_2 l1_2.length c1_2], .int .i64 a3, .bool true] ?_; (with_reducible refine (impl_MovesFrom.calls k1 a1_0 _ _ l1_1 _ _ l1_2 a3 true t406 _ ?side1 ?side2 ?side3 ?side4 A22.out).mono ?_); (case side1 => exact cb_ HR1_1 HB); (case side2 => exact HC1_1.out); (case side3 => exact cb_ HR1_2 HB); (case side4 => exact HC1_2.out); rintro e w25 ⟨v407, rfl, ho0, hb⟩; refine ⟨_, rfl, ?_⟩; have _ := Q_ (Kd.S_elder' (ps_ HO_9.out) (Kd.R_base ho0) hb); have _ := Q_ (Kd.R_below (pr_ HO_18.out) hb); have _ := Q_ (Kd.R_elder' (pr_ HO405.out) (Kd.R_base ho0) hb); have _ := Q_ (Kd.R_lower (Kd.R_new' ho0 (Kd.R_lt (pr_ HO405.out))) (below_size (pb2_ HB.out GE394.out GE395.out))); have _ := Q_ (bb_ BK394.out hb); have _ := Q_ (bb_ BK395.out hb); have _ := Q_ (below_step (pb2_ HB.out GE394.out GE395.out) hb); clear HO_9 HO_18 HO405 BK394 BK395 HB; rename_i HO_9 HO_18 HO405 HO408 BK394 BK395 HB; (try clear hb); (try clear hb2); (try clear hk); (try clear hi); (try clear ho0)))
    refine Met.intro ?_; go_step; (try rw [← Nbq20.out]); (repeat apply Exists.intro); refine ⟨?rel, rfl⟩
    case rel => (try rw [← Nbq20.out]); exact ⟨_, (t406), H', ⟨by have := HK1.out; first | omega | exact Nat.le_refl _⟩, ⟨ps_ (Kd.S_mono HO_9.out (fun _ hk => hk.2))⟩, ⟨pr_ (Kd.R_mono HO408.out (fun _ hk => trivial))⟩, ⟨pr_ HO_18.out⟩, ⟨pk_ BK394.out⟩, ⟨pk_ BK395.out⟩, ⟨pb2_ HB.out GE394.out GE395.out⟩⟩
  clear HC16
  try clear c1
  try clear c2
  try clear p2
  try clear q2
  try clear p4
  try clear q4
  try clear hx4
  try clear c8
  try clear c12
  try clear c12b0
  try clear c13
  try clear c13b0
  try clear c14
  try clear c14b0
  try clear c17
  try clear q20
  try clear c21
  try clear c23
  try clear hcz18
  try clear hcz24
  try clear hx402_0
  try clear p2
  try clear p402
  try clear q402
  obtain ⟨kq, x12_15, HA, HJ15, HO_9, HO_12, HO_18, BK394, BK395, HB⟩ := hcut
  rcases kq with _ | kj15
  · exact absurd HA.out (by simp [impl_NextPairs.j1])
  have H := HA.out
  clear HA
  simp only [impl_NextPairs.j1] at H
  have H' := Q_ H
  clear H
  obtain ⟨Ao26, co26, eo26⟩ := Kd.R_slice HO_12.out
  subst eo26
  go_wp2
  go_loopg [9, 34] kj15 (fun kq v9 v34 w' => ∃ (x9_3 : List (List Int)) (x34_3 : Int), v34 = .int .i64 x34_3 ∧ Aside0 (impl_NextPairs.l1 kq a2 a3 x9_3 (rdOf false y399 x20_1) y399 (y399.length : Int) x20_1 x12_15 (x12_15.length : Int) x34_3 a0_0 l0_1 l0_2 a1_0 l1_1 l1_2 = some r) ∧ Aside0 (kq ≤ kj15) ∧ Aside0 (Kd.S (Kd.slice 3 (Kd.int .i64)) 39 w' w.heap.size (fun k_ => some k_ ≠ ((.slice Ao26 x12_15.length co26) : Value).ownBlock) v9 x9_3) ∧ Aside0 (Kd.R Kd.bool 4 w' w.heap.size (fun _ => True) (.slice (some ad402) y399.length co11) y399) ∧ Aside0 (Kd.R (Kd.int .i64) 3 w' w.heap.size (fun _ => True) (.slice Ao26 x12_15.length co26) x12_15) ∧ Aside0 (w'.heap[gb394]? = some (.cells #[.int .i64 a0_0, (.slice A0_1 l0_1.length c0_1), (.slice A0_2 l0_2.length c0_2)] 34 (0, 0))) ∧ Aside0 (w'.heap[gb395]? = some (.cells #[.int .i64 a1_0, (.slice A1_1 l1_1.length c1_1), (.slice A1_2 l1_2.length c1_2)] 34 (0, 0))) ∧ Aside0 (Below w.heap.size w w'))
  case atStart => exact ⟨(x9_1), (0), el_, H', ⟨Nat.le_refl _⟩, ⟨ps_ HO_9.out⟩, ⟨pr_ HO_18.out⟩, ⟨pr_ HO_12.out⟩, ⟨pk_ BK394.out⟩, ⟨pk_ BK395.out⟩, ⟨pb2_ HB.out GE394.out GE395.out⟩⟩
  clear H'
  try clear c1
  try clear c2
  try clear p2
  try clear q2
  try clear p4
  try clear q4
  try clear hx4
  try clear c8
  try clear c12
  try clear c12b0
  try clear c13
  try clear c13b0
  try clear c14
  try clear c14b0
  try clear c17
  try clear q20
  try clear c21
  try clear c23
  try clear hx402_0
  try clear p2
  try clear p4
  try clear p402
  try clear q2
  try clear q20
  try clear q4
  try clear q402
  obtain ⟨x9_3, x34_3, rfl, HA, HK3, HO_9, HO_18, HO_32, BK394, BK395, HB⟩ := hrel
  rcases gk with _ | k3
  · exact absurd HA.out (by simp [impl_NextPairs.l1])
  have H := HA.out
  clear HA
  simp only [impl_NextPairs.l1] at H
  by_cases c27 : x34_3 < (x12_15.length : Int)
  rotate_left
  · rw [if_neg c27] at H
    have c27b0 : decide (x34_3 < (x12_15.length : Int)) = false := decide_eq_false c27
    clear c27
    have H' := Q_ H
    clear H
    go_wp2
    go_roundg k3
    case measure => have := HK1.out; have := HJ15.out; have := HK3.out; omega
    case rel => exact ⟨(x9_3), (wrap64 (x20_1 + 1)), el_, H', ⟨by have := HK1.out; have := HJ15.out; have := HK3.out; omega⟩, ⟨ps_ (Kd.S_mono HO_9.out (fun _ hk => trivial))⟩, ⟨pr_ HO_18.out⟩, ⟨pk_ BK394.out⟩, ⟨pk_ BK395.out⟩, ⟨pb2_ HB.out GE394.out GE395.out⟩⟩
  rw [if_pos c27] at H
  have c27b0 : decide (x34_3 < (x12_15.length : Int)) = true := decide_eq_true c27
  clear c27
  by_cases c28 : 0 ≤ x34_3
  rotate_left
  · rw [if_neg c28] at H
    exact absurd H (by simp)
  rw [if_pos c28] at H
  have c28b0 : decide (0 ≤ x34_3) = true := decide_eq_true c28
  clear c28
  by_cases c29 : x34_3 < (x12_15.length : Int)
  rotate_left
  · rw [if_neg c29] at H
    exact absurd H (by simp)
  rw [if_pos c29] at H
  have c29b0 : decide (x34_3 < (x12_15.length : Int)) = true := decide_eq_true c29
  clear c29
  replace H := Option.bind_eq_some_iff.mp H
  obtain ⟨t410, A300, H⟩ := H
  (try dsimp only at H)
  have A30 := Q_ A300
  clear A300
  replace H := Option.bind_eq_some_iff.mp H
  obtain ⟨t411, A310, H⟩ := H
  (try dsimp only at H)
  have A31 := Q_ A310
  clear A310
  have HS_ := Q_ H
  clear H
  have p409 : 0 ≤ (x34_3 : Int) := dt_
  have q409 : x34_3 < (x12_15.length : Int) := dt_
  obtain ⟨ad409, e409, hx409_0⟩ := Kd.at_int (Kd.R_reads' HO_32.out).2.2 x34_3 p409 q409
  cases e409
  replace p409 := eq_true p409
  replace q409 := eq_true q409
  try go_wp2
  have _ := Q_ (Kd.S_drew HO_9.out)
  have _ := Q_ (Kd.R_drew HO_18.out)
  have _ := Q_ (Kd.R_drew HO_32.out)
  have _ := Q_ (blk_drew BK394.out)
  have _ := Q_ (blk_drew BK395.out)
  have _ := Q_ (below_drew1 HB.out)
  clear HO_9 HO_18 HO_32 BK394 BK395 HB
  rename_i HO_9 HO_18 HO_32 BK394 BK395 HB
  refine start_ (n := 13) (S := fun w' => w'.cell? ⟨gb394, 0, none⟩ = some (.int .i64 a0_0) ∧ w'.cell? ⟨gb394, 1, none⟩ = some (.slice A0_1 l0_1.length c0_1) ∧ w'.cell? ⟨gb394, 2, none⟩ = some (.slice A0_2 l0_2.length c0_2) ∧ w'.cell? ⟨gb395, 0, none⟩ = some (.int .i64 a1_0) ∧ w'.cell? ⟨gb395, 1, none⟩ = some (.slice A1_1 l1_1.length c1_1) ∧ w'.cell? ⟨gb395, 2, none⟩ = some (.slice A1_2 l1_2.length c1_2)) (ds := []) (tf_ 0 13) (by kernel_rfl) rfl rfl ⟨(blk_cell BK394.out 0).trans rfl, (blk_cell BK394.out 1).trans rfl, (blk_cell BK394.out 2).trans rfl, (blk_cell BK395.out 0).trans rfl, (blk_cell BK395.out 1).trans rfl, (blk_cell BK395.out 2).trans rfl⟩ (fun hHeld => ?_); refine with_tabW impl_NextPairs.tab11 impl_NextPairs.bits11 (fun HT_ HW_ => ?_)
  generalize wr.drew = w32 at HO_9 HO_18 HO_32 BK394 BK395 HB hHeld ⊢
  refine pu_ 1 (some 39) (tm_ 13 2) HT_ ?_
  refine pu_ 2 (some 40) (tm_ 13 6) HT_ ?_
  refine pu_ 3 (some 41) (tm_ 13 14) HT_ ?_
  refine pu_ 6 (some 44) (tm_ 13 78) HT_ ?_
  refine pu_ 7 (some 45) (tm_ 13 206) HT_ ?_
  refine pu_ 8 (some 46) (tm_ 13 462) HT_ ?_
  refine pu_ 9 (some 47) (tm_ 13 974) HT_ ?_
  refine ta_ 0 (some 38) (tm_ 13 975) HT_ HW_ hHeld ?_
  refine ta_ 5 (some 43) (tm_ 13 1007) HT_ HW_ hHeld ?_
  refine on_ 4 (some 42) (tf_ 10 13) HT_ (fun K hK => ?_)
  refine goes_ Try.func94 (by kernel_rfl) rfl #[.agg #[.int .i64 a0_0, .slice A0_1 l0_1.length c0_1, .slice A0_2 l0_2.length c0_2], .int .i64 a2, .bool (rdOf false y399 x20_1), .int .i64 (rd x12_15 x34_3)] (by rfl) rfl rfl mp_ ?_
  with_reducible refine (impl_MoveOf.calls k3 a0_0 _ _ l0_1 _ _ l0_2 a2 (rdOf false y399 x20_1) (rd x12_15 x34_3) t410 _ ?side1 ?side2 ?side3 ?side4 A30.out).mono ?_
  (case side1 => exact cb_ HR0_1 HB)
  (case side2 => exact HC0_1.out)
  (case side3 => exact cb_ HR0_2 HB)
  (case side4 => exact HC0_2.out)
  rintro e w33 ⟨rfl, hb⟩
  refine ⟨_, rfl, ?_⟩
  have _ := Q_ (Kd.S_below (ps_ HO_9.out) hb)
  have _ := Q_ (Kd.R_below (pr_ HO_18.out) hb)
  have _ := Q_ (Kd.R_below (pr_ HO_32.out) hb)
  have _ := Q_ (bb_ BK394.out hb)
  have _ := Q_ (bb_ BK395.out hb)
  have _ := Q_ (below_step (pb2_ HB.out GE394.out GE395.out) hb)
  clear HO_9 HO_18 HO_32 BK394 BK395 HB
  rename_i HO_9 HO_18 HO_32 BK394 BK395 HB
  (try clear hb)
  (try clear hb2)
  (try clear hk)
  (try clear hi)
  refine hK.out _ _ ⟨(blk_cell BK394.out 0).trans rfl, (blk_cell BK394.out 1).trans rfl, (blk_cell BK394.out 2).trans rfl, (blk_cell BK395.out 0).trans rfl, (blk_cell BK395.out 1).trans rfl, (blk_cell BK395.out 2).trans rfl⟩ (fun hHeld => ?_)
  clear hK K
  refine no_ (some 42) ?_
  refine on_ 10 (some 48) (tf_ 11 13) HT_ (fun K hK => ?_)
  refine goes_ Try.func94 (by kernel_rfl) rfl #[.agg #[.int .i64 a1_0, .slice A1_1 l1_1.length c1_1, .slice A1_2 l1_2.length c1_2], .int .i64 a3, .bool (!(rdOf false y399 x20_1)), .int .i64 (rd x12_15 x34_3)] (by rfl) rfl rfl mp_ ?_
  with_reducible refine (impl_MoveOf.calls k3 a1_0 _ _ l1_1 _ _ l1_2 a3 (!(rdOf false y399 x20_1)) (rd x12_15 x34_3) t411 _ ?side1 ?side2 ?side3 ?side4 A31.out).mono ?_
  (case side1 => exact cb_ HR1_1 HB)
  (case side2 => exact HC1_1.out)
  (case side3 => exact cb_ HR1_2 HB)
  (case side4 => exact HC1_2.out)
  rintro e w34 ⟨rfl, hb⟩
  refine ⟨_, rfl, ?_⟩
  have _ := Q_ (Kd.S_below (ps_ HO_9.out) hb)
  have _ := Q_ (Kd.R_below (pr_ HO_18.out) hb)
  have _ := Q_ (Kd.R_below (pr_ HO_32.out) hb)
  have _ := Q_ (bb_ BK394.out hb)
  have _ := Q_ (bb_ BK395.out hb)
  have _ := Q_ (below_step (pb2_ HB.out GE394.out GE395.out) hb)
  clear HO_9 HO_18 HO_32 BK394 BK395 HB
  rename_i HO_9 HO_18 HO_32 BK394 BK395 HB
  (try clear hb)
  (try clear hb2)
  (try clear hk)
  (try clear hi)
  refine hK.out _ _ ⟨(blk_cell BK394.out 0).trans rfl, (blk_cell BK394.out 1).trans rfl, (blk_cell BK394.out 2).trans rfl, (blk_cell BK395.out 0).trans rfl, (blk_cell BK395.out 1).trans rfl, (blk_cell BK395.out 2).trans rfl⟩ (fun hHeld => ?_)
  clear hK K
  refine no_ (some 48) ?_
  refine pu_ 11 (some 15) (tf_ 12 13) HT_ ?_
  refine pu_ 12 (some 16) (tf_ 13 13) HT_ ?_
  refine done_ (done_of HT_.out (by kernel_rfl)) ?_
  go_upto_region 12 with (fail)
  have H := HS_.out
  clear HS_
  by_cases c35 : t410 ≥ 0
  rotate_left
  · rw [if_neg c35] at H
    have c35b0 : decide (0 ≤ t410) = false := decide_eq_false c35
    clear c35
    (first | rw [c35b0] | (simp only [i64_w, i32_w]; rw [c35b0]) | skip)
    have H' := Q_ H
    clear H
    go_wp2
    go_roundg k3
    case measure => have := HK1.out; have := HJ15.out; have := HK3.out; omega
    case rel => exact ⟨(x9_3), (wrap64 (x34_3 + 1)), el_, H', ⟨by have := HK1.out; have := HJ15.out; have := HK3.out; omega⟩, ⟨ps_ HO_9.out⟩, ⟨pr_ HO_18.out⟩, ⟨pr_ HO_32.out⟩, ⟨pk_ BK394.out⟩, ⟨pk_ BK395.out⟩, ⟨pb2_ HB.out GE394.out GE395.out⟩⟩
  rw [if_pos c35] at H
  have c35b0 : decide (0 ≤ t410) = true := decide_eq_true c35
  clear c35
  (first | rw [c35b0] | (simp only [i64_w, i32_w]; rw [c35b0]) | skip)
  by_cases c36 : t411 ≥ 0
  rotate_left
  · rw [if_neg c36] at H
    have c36b0 : decide (0 ≤ t411) = false := decide_eq_false c36
    clear c36
    have H' := Q_ H
    clear H
    go_wp2
    go_roundg k3
    case measure => have := HK1.out; have := HJ15.out; have := HK3.out; omega
    case rel => exact ⟨(x9_3), (wrap64 (x34_3 + 1)), el_, H', ⟨by have := HK1.out; have := HJ15.out; have := HK3.out; omega⟩, ⟨ps_ HO_9.out⟩, ⟨pr_ HO_18.out⟩, ⟨pr_ HO_32.out⟩, ⟨pk_ BK394.out⟩, ⟨pk_ BK395.out⟩, ⟨pb2_ HB.out GE394.out GE395.out⟩⟩
  rw [if_pos c36] at H
  have c36b0 : decide (0 ≤ t411) = true := decide_eq_true c36
  clear c36
  by_cases c37 : 0 ≤ t410
  rotate_left
  · rw [if_neg c37] at H
    exact absurd H (by simp)
  rw [if_pos c37] at H
  have c37b0 : decide (0 ≤ t410) = true := decide_eq_true c37
  clear c37
  by_cases c38 : t410 < (l0_2.length : Int)
  rotate_left
  · rw [if_neg c38] at H
    exact absurd H (by simp)
  rw [if_pos c38] at H
  have c38b0 : decide (t410 < (l0_2.length : Int)) = true := decide_eq_true c38
  clear c38
  by_cases c39 : 0 ≤ t411
  rotate_left
  · rw [if_neg c39] at H
    exact absurd H (by simp)
  rw [if_pos c39] at H
  have c39b0 : decide (0 ≤ t411) = true := decide_eq_true c39
  clear c39
  by_cases c40 : t411 < (l1_2.length : Int)
  rotate_left
  · rw [if_neg c40] at H
    exact absurd H (by simp)
  rw [if_pos c40] at H
  have c40b0 : decide (t411 < (l1_2.length : Int)) = true := decide_eq_true c40
  clear c40
  obtain ⟨y414, hy414⟩ : ∃ y_ : List Int, y_ = (([(rd_T78 l0_2 t410).f3, (rd_T78 l1_2 t411).f3] : List Int)) := ⟨_, rfl⟩
  replace H : (if x9_3.length < 5864062014805 then (impl_NextPairs.l1 k3 a2 a3 (x9_3 ++ [y414]) (rdOf false y399 x20_1) y399 (y399.length : Int) x20_1 x12_15 (x12_15.length : Int) (wrap64 (x34_3 + 1)) a0_0 l0_1 l0_2 a1_0 l1_1 l1_2) else (none)) = some r := by first | (rw [hy414]; with_reducible exact H) | (have H2_ := (Option.bind_some _ _).symm.trans H; rw [hy414]; with_reducible exact H2_) | (have H2_ := (Option.bind_some _ _).symm.trans H; with_reducible exact H2_) | with_reducible exact H | (rw [hy414]; exact H) | exact H
  have Ny414 := Q_ hy414
  clear hy414
  by_cases c41 : x9_3.length < 5864062014805
  rotate_left
  · rw [if_neg c41] at H
    exact absurd H (by simp)
  rw [if_pos c41] at H
  have LMc41 := Q_ c41
  clear c41
  obtain ⟨y417, hy417⟩ : ∃ y_ : List (List Int), y_ = (x9_3 ++ [y414]) := ⟨_, rfl⟩
  replace H : (impl_NextPairs.l1 k3 a2 a3 y417 (rdOf false y399 x20_1) y399 (y399.length : Int) x20_1 x12_15 (x12_15.length : Int) (wrap64 (x34_3 + 1)) a0_0 l0_1 l0_2 a1_0 l1_1 l1_2) = some r := by first | (rw [hy417]; with_reducible exact H) | (have H2_ := (Option.bind_some _ _).symm.trans H; rw [hy417]; with_reducible exact H2_) | (have H2_ := (Option.bind_some _ _).symm.trans H; with_reducible exact H2_) | with_reducible exact H | (rw [hy417]; exact H) | exact H
  have Ny417 := Q_ hy417
  clear hy417
  have H' := Q_ H
  clear H
  try go_wp2
  have _ := Q_ (Kd.S_drew HO_9.out)
  have _ := Q_ (Kd.R_drew HO_18.out)
  have _ := Q_ (Kd.R_drew HO_32.out)
  have _ := Q_ (blk_drew BK394.out)
  have _ := Q_ (blk_drew BK395.out)
  have _ := Q_ (below_drew1 HB.out)
  clear HO_9 HO_18 HO_32 BK394 BK395 HB
  rename_i HO_9 HO_18 HO_32 BK394 BK395 HB
  have p412 : 0 ≤ (t410 : Int) := dt_
  have q412 : t410 < (l0_2.length : Int) := dt_
  obtain ⟨ad412, e412, hx412_0, hx412_1, hx412_2, hx412_3⟩ := at_T78 HR0_2.out t410 p412 q412
  have hw412_3 := hx412_3
  have hw412_2 := hx412_2
  have hw412_1 := hx412_1
  have hw412_0 := hx412_0
  cases e412
  replace hx412_0 := bt_ HB hx412_0
  replace hx412_1 := bt_ HB hx412_1
  replace hx412_2 := bt_ HB hx412_2
  replace hx412_3 := bt_ HB hx412_3
  replace p412 := eq_true p412
  replace q412 := eq_true q412
  have p413 : 0 ≤ (t411 : Int) := dt_
  have q413 : t411 < (l1_2.length : Int) := dt_
  obtain ⟨ad413, e413, hx413_0, hx413_1, hx413_2, hx413_3⟩ := at_T78 HR1_2.out t411 p413 q413
  have hw413_3 := hx413_3
  have hw413_2 := hx413_2
  have hw413_1 := hx413_1
  have hw413_0 := hx413_0
  cases e413
  replace hx413_0 := bt_ HB hx413_0
  replace hx413_1 := bt_ HB hx413_1
  replace hx413_2 := bt_ HB hx413_2
  replace hx413_3 := bt_ HB hx413_3
  replace p413 := eq_true p413
  replace q413 := eq_true q413
  refine start_ (n := 17) (S := fun w' => w'.cell? ⟨gb394, 0, none⟩ = some (.int .i64 a0_0) ∧ w'.cell? ⟨gb394, 1, none⟩ = some (.slice A0_1 l0_1.length c0_1) ∧ w'.cell? ⟨gb394, 2, none⟩ = some (.slice (some ad412) l0_2.length c0_2) ∧ w'.cell? ⟨gb395, 0, none⟩ = some (.int .i64 a1_0) ∧ w'.cell? ⟨gb395, 1, none⟩ = some (.slice A1_1 l1_1.length c1_1) ∧ w'.cell? ⟨gb395, 2, none⟩ = some (.slice (some ad413) l1_2.length c1_2) ∧ w'.cell? (ad412.add ((t410).toNat * 4)) = some (.int .i64 ((rd_T78 l0_2 t410).f0)) ∧ w'.cell? ⟨(ad412.add ((t410).toNat * 4)).block, (ad412.add ((t410).toNat * 4)).off + 1, none⟩ = some (.bool ((rd_T78 l0_2 t410).f1)) ∧ w'.cell? ⟨(ad412.add ((t410).toNat * 4)).block, (ad412.add ((t410).toNat * 4)).off + 2, none⟩ = some (.int .i64 ((rd_T78 l0_2 t410).f2)) ∧ w'.cell? ⟨(ad412.add ((t410).toNat * 4)).block, (ad412.add ((t410).toNat * 4)).off + 3, none⟩ = some (.int .i64 ((rd_T78 l0_2 t410).f3)) ∧ w'.cell? (ad413.add ((t411).toNat * 4)) = some (.int .i64 ((rd_T78 l1_2 t411).f0)) ∧ w'.cell? ⟨(ad413.add ((t411).toNat * 4)).block, (ad413.add ((t411).toNat * 4)).off + 1, none⟩ = some (.bool ((rd_T78 l1_2 t411).f1)) ∧ w'.cell? ⟨(ad413.add ((t411).toNat * 4)).block, (ad413.add ((t411).toNat * 4)).off + 2, none⟩ = some (.int .i64 ((rd_T78 l1_2 t411).f2)) ∧ w'.cell? ⟨(ad413.add ((t411).toNat * 4)).block, (ad413.add ((t411).toNat * 4)).off + 3, none⟩ = some (.int .i64 ((rd_T78 l1_2 t411).f3))) (ds := []) (tf_ 0 17) (by kernel_rfl) rfl rfl ⟨(blk_cell BK394.out 0).trans rfl, (blk_cell BK394.out 1).trans rfl, (blk_cell BK394.out 2).trans rfl, (blk_cell BK395.out 0).trans rfl, (blk_cell BK395.out 1).trans rfl, (blk_cell BK395.out 2).trans rfl, (bt_ HB hw412_0), (bt_ HB hw412_1), (bt_ HB hw412_2), (bt_ HB hw412_3), (bt_ HB hw413_0), (bt_ HB hw413_1), (bt_ HB hw413_2), (bt_ HB hw413_3)⟩ (fun hHeld => ?_); refine with_tabW impl_NextPairs.tab13 impl_NextPairs.bits13 (fun HT_ HW_ => ?_)
  generalize w34.drew = w42 at HO_9 HO_18 HO_32 BK394 BK395 HB hx412_0 hx412_1 hx412_2 hx412_3 hx413_0 hx413_1 hx413_2 hx413_3 hHeld ⊢
  refine pu_ 0 (some 55) (tf_ 1 17) HT_ ?_
  refine pu_ 1 (some 56) (tf_ 2 17) HT_ ?_
  refine pu_ 3 (some 58) (tm_ 17 11) HT_ ?_
  refine pu_ 7 (some 62) (tm_ 17 139) HT_ ?_
  refine pu_ 9 (some 64) (tm_ 17 651) HT_ ?_
  refine ta_ 2 (some 57) (tm_ 17 655) HT_ HW_ hHeld ?_
  refine pu_ 4 (some 59) (tm_ 17 671) HT_ ?_
  refine pu_ 5 (some 60) (tm_ 17 703) HT_ ?_
  refine ta_ 6 (some 61) (tm_ 17 767) HT_ HW_ hHeld ?_
  refine ta_ 8 (some 63) (tf_ 10 17) HT_ HW_ hHeld ?_
  refine pu_ 10 (some 65) (tf_ 11 17) HT_ ?_
  refine pu_ 11 (some 66) (tf_ 12 17) HT_ ?_
  refine ta_ 12 (some 67) (tf_ 13 17) HT_ HW_ hHeld ?_
  refine on_ 13 (some 68) (tf_ 14 17) HT_ (fun K hK => ?_)
  refine Kd.R_lit_step (Kd.int .i64) _ 3 ?hg (N := 68) ?hd (xs := ([(rd_T78 l0_2 t410).f3, (rd_T78 l1_2 t411).f3] : List Int)) (inner := [.int .i64 ((rd_T78 l0_2 t410).f3), .int .i64 ((rd_T78 l1_2 t411).f3)]) (ok := fun _ => True) (okp := fun _ => True) ?hr ?hp (fun _ hk => hk) trivial (Below.refl _ _) (Nat.le_refl _) (by simp) ?_; (case hd => rfl); (case hg => rfl); (case hr => first | (go_simp; done) | (go_simp; rfl)); (case hp => exact (Reps.one (show Kd.M (Kd.int .i64) _ _ _ ((rd_T78 l0_2 t410).f3) [.int .i64 ((rd_T78 l0_2 t410).f3)] from rfl) (Reps.one (show Kd.M (Kd.int .i64) _ _ _ ((rd_T78 l1_2 t411).f3) [.int .i64 ((rd_T78 l1_2 t411).f3)] from rfl) (Reps.none _ _))))
  intro v415 w43 ho44 hb hg_ hnew_
  clear hg_ hnew_
  (first | rw [← Ny414.out] at ho44 | (simp only [Int.reduceToNat] at ho44; rw [← Ny414.out] at ho44))
  have _ := Q_ (Kd.S_elder' (ps_ HO_9.out) (Kd.R_base ho44) hb)
  have _ := Q_ (Kd.R_below (pr_ HO_18.out) hb)
  have _ := Q_ (Kd.R_elder' (pr_ HO_32.out) (Kd.R_base ho44) hb)
  have _ := Q_ (Kd.R_lower (Kd.R_new' ho44 (Kd.R_lt (pr_ HO_32.out))) (below_size (pb2_ HB.out GE394.out GE395.out)))
  have _ := Q_ (bb_ BK394.out hb)
  have _ := Q_ (bb_ BK395.out hb)
  have _ := Q_ (below_step (pb2_ HB.out GE394.out GE395.out) hb)
  clear HO_9 HO_18 HO_32 BK394 BK395 HB
  rename_i HO_9 HO_18 HO_32 HO416 BK394 BK395 HB
  clear hb ho44
  obtain ⟨Ao46, co46, eo46⟩ := Kd.R_slice HO416.out
  (first | subst eo46 | (injection eo46 with f1_ f2_ f3_; have f4_ := f1_.symm; have f5_ := f3_.symm; clear f1_ f2_ f3_; subst f4_; subst f5_))
  refine hK.out _ _ ⟨(blk_cell BK394.out 0).trans rfl, (blk_cell BK394.out 1).trans rfl, (blk_cell BK394.out 2).trans rfl, (blk_cell BK395.out 0).trans rfl, (blk_cell BK395.out 1).trans rfl, (blk_cell BK395.out 2).trans rfl, (bt_ HB hw412_0), (bt_ HB hw412_1), (bt_ HB hw412_2), (bt_ HB hw412_3), (bt_ HB hw413_0), (bt_ HB hw413_1), (bt_ HB hw413_2), (bt_ HB hw413_3)⟩ (fun hHeld => ?_)
  clear hK K
  refine no_ (some 68) ?_
  refine on_ 14 (some 69) (tf_ 15 17) HT_ (fun K hK => ?_)
  refine value_ (w1 := ?_) (v := ?_) (by rfl) rfl ?_ ?_
  rotate_left 2
  · go_simp
    constructor
    · rfl
    · rfl
  refine hK.out _ _ ⟨(blk_cell (blk_alloc BK394.out _) 0).trans rfl, (blk_cell (blk_alloc BK394.out _) 1).trans rfl, (blk_cell (blk_alloc BK394.out _) 2).trans rfl, (blk_cell (blk_alloc BK395.out _) 0).trans rfl, (blk_cell (blk_alloc BK395.out _) 1).trans rfl, (blk_cell (blk_alloc BK395.out _) 2).trans rfl, (World.cell?_alloc_lt _ _ _ (World.block_lt_of_cell? _ _ ((bt_ HB hw412_0)))).trans ((bt_ HB hw412_0)), (World.cell?_alloc_lt _ _ _ (World.block_lt_of_cell? _ _ ((bt_ HB hw412_1)))).trans ((bt_ HB hw412_1)), (World.cell?_alloc_lt _ _ _ (World.block_lt_of_cell? _ _ ((bt_ HB hw412_2)))).trans ((bt_ HB hw412_2)), (World.cell?_alloc_lt _ _ _ (World.block_lt_of_cell? _ _ ((bt_ HB hw412_3)))).trans ((bt_ HB hw412_3)), (World.cell?_alloc_lt _ _ _ (World.block_lt_of_cell? _ _ ((bt_ HB hw413_0)))).trans ((bt_ HB hw413_0)), (World.cell?_alloc_lt _ _ _ (World.block_lt_of_cell? _ _ ((bt_ HB hw413_1)))).trans ((bt_ HB hw413_1)), (World.cell?_alloc_lt _ _ _ (World.block_lt_of_cell? _ _ ((bt_ HB hw413_2)))).trans ((bt_ HB hw413_2)), (World.cell?_alloc_lt _ _ _ (World.block_lt_of_cell? _ _ ((bt_ HB hw413_3)))).trans ((bt_ HB hw413_3))⟩ (fun hHeld => ?_)
  clear hK K
  refine no_ (some 69) ?_
  refine on_ 15 (some 70) (tf_ 16 17) HT_ (fun K hK => ?_)
  refine Kd.S_append_step (Kd.slice 3 (Kd.int .i64)) (w0 := w) w.heap.size (by rfl) (.tmp 55) (.tmp 69) 83 39 (.slice none 0 0) 24 rfl Try.underlying83 info39 rfl (by decide) (by omega) u9 x9_3 y414 [.slice Ao46 y414.length co46] (fun k_ => some k_ ≠ (.slice (some ad409) x12_15.length co26 : Value).ownBlock) (fun k_ => some k_ = (.slice Ao46 y414.length co46 : Value).ownBlock) rfl rfl ?aP (fun k_ hk_ => ((Kd.R_mono (ok' := fun k_ => ((fun k_ => some k_ ≠ (.slice (some ad409) x12_15.length co26 : Value).ownBlock)) k_ ∧ some k_ ≠ (u9 : Value).ownBlock) (Kd.R_apart' (HO416.out) (Kd.S_typed HO_9.out) (by decide)) (fun k_ hk => ⟨hk.1.2, hk.2⟩))).1 k_ hk_.symm) ?aF ?aO ?aB ?aS ?aL ?_
  (case aP => exact Kd.M_row (Kd.R_mono (Kd.R_tight rfl (Kd.R_mono (ok' := fun k_ => ((fun k_ => some k_ ≠ (.slice (some ad409) x12_15.length co26 : Value).ownBlock)) k_ ∧ some k_ ≠ (u9 : Value).ownBlock) (Kd.R_apart' (HO416.out) (Kd.S_typed HO_9.out) (by decide)) (fun k_ hk => ⟨hk.1.2, hk.2⟩))) (fun _ h_ => h_)))
  (case aB => exact (pb2_ HB.out GE394.out GE395.out))
  (case aF => exact (fun k_ hk => Kd.fresh' (Kd.R_lt (pr_ HO_32.out)) k_ hk))
  (case aO => exact (by (with_reducible repeat (first | apply Kd.S_alloc | apply Kd.S_drewN | apply Kd.S_drew)); exact Kd.S_mono HO_9.out (fun k_ hk => ⟨hk.1, fun e_ => hk.2 e_⟩)))
  (case aS => exact (below_size (pb2_ HB.out GE394.out GE395.out)))
  (case aL => have := LMc41.out; omega)
  intro v418 w45 ho hb hg hat
  rw [← Ny417.out] at ho
  have _ := Q_ (Kd.R_over' (pr_ HO_18.out) (Kd.S_typed (ps_ HO_9.out)) (by decide) hg)
  have _ := Q_ (Kd.R_over' (pr_ HO_32.out) (Kd.S_typed (ps_ HO_9.out)) (by decide) hg)
  have _ := Q_ (blk_grown (g := gb394) (o := .cells #[.int .i64 a0_0, .slice A0_1 l0_1.length c0_1, .slice (some ad412) l0_2.length c0_2] 34 (0, 0)) (pk_ BK394.out) hg (Kd.S_ne HO_9.out BK394.out (by decide)))
  have _ := Q_ (blk_grown (g := gb395) (o := .cells #[.int .i64 a1_0, .slice A1_1 l1_1.length c1_1, .slice (some ad413) l1_2.length c1_2] 34 (0, 0)) (pk_ BK395.out) hg (Kd.S_ne HO_9.out BK395.out (by decide)))
  have _ := Q_ (hb)
  have _ := Q_ (ho)
  clear HO_18 HO_32 BK394 BK395 HB HO_9 HO416
  rename_i HO_18 HO_32 BK394 BK395 HB HO419
  clear ho hb hg hat
  refine hK.out _ _ ⟨(blk_cell BK394.out 0).trans rfl, (blk_cell BK394.out 1).trans rfl, (blk_cell BK394.out 2).trans rfl, (blk_cell BK395.out 0).trans rfl, (blk_cell BK395.out 1).trans rfl, (blk_cell BK395.out 2).trans rfl, (bt_ HB hw412_0), (bt_ HB hw412_1), (bt_ HB hw412_2), (bt_ HB hw412_3), (bt_ HB hw413_0), (bt_ HB hw413_1), (bt_ HB hw413_2), (bt_ HB hw413_3)⟩ (fun hHeld => ?_)
  clear hK K
  refine no_ (some 70) ?_
  refine pu_ 16 (some 9) (tf_ 17 17) HT_ ?_
  refine done_ (done_of HT_.out (by kernel_rfl)) ?_
  try go_wp2
  go_roundg k3
  case measure => have := HK1.out; have := HJ15.out; have := HK3.out; omega
  case rel => exact ⟨(y417), (wrap64 (x34_3 + 1)), el_, H', ⟨by have := HK1.out; have := HJ15.out; have := HK3.out; omega⟩, ⟨ps_ HO419.out⟩, ⟨pr_ HO_18.out⟩, ⟨pr_ (Kd.R_mono HO_32.out (fun _ hk => trivial))⟩, ⟨pk_ BK394.out⟩, ⟨pk_ BK395.out⟩, ⟨pb2_ HB.out GE394.out GE395.out⟩⟩

/-! ### impl_PairsOf_1: function 100003 -/
def impl_PairsOf_1.f (k : Nat) (a0 : Int) (a1 : Int) (a2_0 : Int) (l2_1 : List Bool) (l2_2 : List (S78)) (a3_0 : Int) (l3_1 : List Bool) (l3_2 : List (S78)) : Option ((List (List Int))) := (impl_NextPairs.f k a2_0 l2_1 l2_2 a3_0 l3_1 l3_2 a0 a1).bind fun t420 => (some t420)
theorem impl_PairsOf_1.mono : ∀ a0 a1 a2 a3 a4 a5 a6 a7 k, LeO (impl_PairsOf_1.f k a0 a1 a2 a3 a4 a5 a6 a7) (impl_PairsOf_1.f (k + 1) a0 a1 a2 a3 a4 a5 a6 a7) := by
  intro a0 a1 a2 a3 a4 a5 a6 a7 k
  unfold impl_PairsOf_1.f
  exact mo1_ impl_NextPairs.mono
set_option maxHeartbeats 8000000 in
set_option maxRecDepth 100000 in
theorem impl_PairsOf_1.calls (k : Nat) (a0 : Int) (a1 : Int) (B2 : Nat) (a2_0 : Int) (A2_1 : Option Addr) (c2_1 : Nat) (l2_1 : List Bool) (A2_2 : Option Addr) (c2_2 : Nat) (l2_2 : List (S78)) (B3 : Nat) (a3_0 : Int) (A3_1 : Option Addr) (c3_1 : Nat) (l3_1 : List Bool) (A3_2 : Option Addr) (c3_2 : Nat) (l3_2 : List (S78)) (r : List (List Int)) (w : World) (hr2_1 : Kd.C Kd.bool w A2_1 l2_1.length l2_1) (hc2_1 : l2_1.length ≤ c2_1) (hr2_2 : Kd.C k78 w A2_2 l2_2.length l2_2) (hc2_2 : l2_2.length ≤ c2_2) (hbv2 : w.heap[B2]? = some (.cells #[.int .i64 a2_0, .slice A2_1 l2_1.length c2_1, .slice A2_2 l2_2.length c2_2] 34 (0, 0))) (hr3_1 : Kd.C Kd.bool w A3_1 l3_1.length l3_1) (hc3_1 : l3_1.length ≤ c3_1) (hr3_2 : Kd.C k78 w A3_2 l3_2.length l3_2) (hc3_2 : l3_2.length ≤ c3_2) (hbv3 : w.heap[B3]? = some (.cells #[.int .i64 a3_0, .slice A3_1 l3_1.length c3_1, .slice A3_2 l3_2.length c3_2] 34 (0, 0))) (hnv2_3 : B2 ≠ B3) (h : impl_PairsOf_1.f k a0 a1 a2_0 l2_1 l2_2 a3_0 l3_1 l3_2 = some r) :
    Calls Try.prog 87 #[.int .i64 a0, .int .i64 a1, .pointer (some ⟨B2, 0, none⟩), .pointer (some ⟨B3, 0, none⟩)] w fun e w' => ∃ v0_ : Value, e = .returned (v0_) ∧ Kd.S (Kd.slice 3 (Kd.int .i64)) 39 w' w.heap.size (fun _ => True) v0_ r ∧ Below w.heap.size w w' := by
  have hu34 := Try.underlying34
  have HR2_1 := Q_ hr2_1
  have HC2_1 := Q_ hc2_1
  clear hr2_1 hc2_1
  have HR2_2 := Q_ hr2_2
  have HC2_2 := Q_ hc2_2
  clear hr2_2 hc2_2
  have HR3_1 := Q_ hr3_1
  have HC3_1 := Q_ hc3_1
  clear hr3_1 hc3_1
  have HR3_2 := Q_ hr3_2
  have HC3_2 := Q_ hc3_2
  clear hr3_2 hc3_2
  have BK2 := Q_ hbv2
  clear hbv2
  have BK3 := Q_ hbv3
  clear hbv3
  have NB2_3 := Q_ hnv2_3
  have NB3_2 := Q_ (Ne.symm hnv2_3)
  clear hnv2_3
  have HB := Q_ (Below.refl w.heap.size w)
  have H : ((impl_NextPairs.f k a2_0 l2_1 l2_2 a3_0 l3_1 l3_2 a0 a1).bind fun t420 => (some t420)) = some r := h
  clear h
  replace H := Option.bind_eq_some_iff.mp H
  obtain ⟨t420, A50, H⟩ := H
  replace H : (some t420) = some r := H
  have A5 := Q_ A50
  clear A50
  obtain rfl := Option.some.inj H
  have hnb6 := NB2_3.out
  have hnc6 := NB3_2.out
  have hcz7 := bc3_ BK2.out
  have hcz8 := bc3_ BK3.out
  go_enter Try.func87, Try.ntmps87
  go_wp2_with (first | ((with_reducible refine gate_callee (f := 88) rfl ?_); refine gl_ (some 11) Try.func88 #[.agg #[.int .i64 a2_0, .slice A2_1 l2_1.length c2_1, .slice A2_2 l2_2.length c2_2], .agg #[.int .i64 a3_0, .slice A3_1 l3_1.length c3_1, .slice A3_2 l3_2.length c3_2], .int .i64 a0, .int .i64 a1] ?_; (with_reducible refine (impl_NextPairs.calls k a2_0 _ _ l2_1 _ _ l2_2 a3_0 _ _ l3_1 _ _ l3_2 a0 a1 t420 _ ?side1 ?side2 ?side3 ?side4 ?side5 ?side6 ?side7 ?side8 A5.out).mono ?_); (case side1 => exact pc_ HR2_1.out); (case side2 => exact HC2_1.out); (case side3 => exact pc_ HR2_2.out); (case side4 => exact HC2_2.out); (case side5 => exact pc_ HR3_1.out); (case side6 => exact HC3_1.out); (case side7 => exact pc_ HR3_2.out); (case side8 => exact HC3_2.out); rintro e w9 ⟨v421, rfl, ho0, hb⟩; refine ⟨_, rfl, ?_⟩; have _ := Q_ (Kd.S_lower ho0 (below_size (pb_ HB.out))); have _ := Q_ (bb_ BK2.out hb); have _ := Q_ (bb_ BK3.out hb); have _ := Q_ (below_step (pb_ HB.out) hb); clear BK2 BK3 HB; rename_i HO422 BK2 BK3 HB; (try clear hb); (try clear hb2); (try clear hk); (try clear hi); (try clear ho0)))
  go_ret
  exact ⟨_, er_, ps_ HO422.out, pb_ HB.out⟩

/-! ### impl_reached_1: function 100006 -/
def impl_reached_1.f (k : Nat) (l0 : List Int) (l1_0 : List Int) : Option (Bool) := (slices_Equal_int_int.f k l0 l1_0).bind fun t420 => (some t420)
theorem impl_reached_1.mono : ∀ a0 a1 k, LeO (impl_reached_1.f k a0 a1) (impl_reached_1.f (k + 1) a0 a1) := by
  intro a0 a1 k
  unfold impl_reached_1.f
  exact mo1_ slices_Equal_int_int.mono
set_option maxHeartbeats 8000000 in
set_option maxRecDepth 100000 in
theorem impl_reached_1.calls (k : Nat) (A0 : Option Addr) (c0 : Nat) (l0 : List Int) (B1 : Nat) (A1_0 : Option Addr) (c1_0 : Nat) (l1_0 : List Int) (r : Bool) (w : World) (hr0 : Kd.C (Kd.int .i64) w A0 l0.length l0) (hc0 : l0.length ≤ c0) (hr1_0 : Kd.C (Kd.int .i64) w A1_0 l1_0.length l1_0) (hc1_0 : l1_0.length ≤ c1_0) (hbv1 : w.heap[B1]? = some (.cells #[.slice A1_0 l1_0.length c1_0] 39 (0, 0))) (h : impl_reached_1.f k l0 l1_0 = some r) :
    Calls Try.prog 92 #[.slice A0 l0.length c0, .pointer (some ⟨B1, 0, none⟩)] w fun e w' => e = .returned (.bool r) ∧ Drawn0 w w' := by
  have HR0 := Q_ hr0
  have HC0 := Q_ hc0
  clear hr0 hc0
  have HR1_0 := Q_ hr1_0
  have HC1_0 := Q_ hc1_0
  clear hr1_0 hc1_0
  have BK1 := Q_ hbv1
  clear hbv1
  have H : ((slices_Equal_int_int.f k l0 l1_0).bind fun t420 => (some t420)) = some r := h
  clear h
  replace H := Option.bind_eq_some_iff.mp H
  obtain ⟨t420, A30, H⟩ := H
  replace H : (some t420) = some r := H
  have A3 := Q_ A30
  clear A30
  obtain rfl := Option.some.inj H
  have hcz4_0 : w.cell? ⟨B1, 0, none⟩ = some (.slice A1_0 l1_0.length c1_0) := (blk_cell BK1.out 0).trans rfl
  have hfz4_0 := blk_frozen BK1.out 0
  go_enter Try.func92, Try.ntmps92
  go_wp2_with (first | ((with_reducible refine gate_callee (f := 93) rfl ?_); refine gl_ (some 6) Try.func93 #[.slice A0 l0.length c0, .slice A1_0 l1_0.length c1_0] ?_; (with_reducible refine (slices_Equal_int_int.calls k _ _ l0 _ _ l1_0 t420 _ ?side1 ?side2 ?side3 ?side4 A3.out).mono ?_); (case side1 => exact pc_ HR0.out); (case side2 => exact HC0.out); (case side3 => exact pc_ HR1_0.out); (case side4 => exact HC1_0.out); rintro e w' ⟨rfl, ⟨nd, rfl⟩⟩; refine ⟨_, rfl, ?_⟩))
  go_ret
  exact ⟨by first | rfl | (simp; done) | (simp [*]; done), by repeat (first | exact Drawn0.refl _ | apply Drawn0.step)⟩

/-! ### slices_IndexFunc_int_int_with_impl_reached_1: function 100005 -/
def slices_IndexFunc_int_int_with_impl_reached_1.l0 : Nat → List (List Int) → Int → Int → List Int → Option (Int)
  | 0, _, _, _, _ => none
  | k + 1, x0, x7, x8, x2000 => if x8 < x7 then (if 0 ≤ x8 then (if x8 < (x0.length : Int) then ((impl_reached_1.f k (rd_L9 x0 x8) x2000).bind fun t422 => (if t422 = true then (some x8) else (slices_IndexFunc_int_int_with_impl_reached_1.l0 k x0 x7 (wrap64 (x8 + 1)) x2000))) else (none)) else (none)) else (some (-1))
def slices_IndexFunc_int_int_with_impl_reached_1.f (k : Nat) (l0 : List (List Int)) (l1_0 : List Int) : Option (Int) := slices_IndexFunc_int_int_with_impl_reached_1.l0 k l0 (l0.length : Int) 0 l1_0
theorem slices_IndexFunc_int_int_with_impl_reached_1.mono_l : ∀ k, (∀ y0 y1 y2 y3, LeO (slices_IndexFunc_int_int_with_impl_reached_1.l0 k y0 y1 y2 y3) (slices_IndexFunc_int_int_with_impl_reached_1.l0 (k + 1) y0 y1 y2 y3))
  | 0 => fun _ _ _ _ r h => by simp [slices_IndexFunc_int_int_with_impl_reached_1.l0] at h
  | k + 1 => by
    have ih0 := slices_IndexFunc_int_int_with_impl_reached_1.mono_l k
    · intro y0 y1 y2 y3
      unfold slices_IndexFunc_int_int_with_impl_reached_1.l0
      exact mo2_ ih0 impl_reached_1.mono
theorem slices_IndexFunc_int_int_with_impl_reached_1.mono : ∀ a0 a1 k, LeO (slices_IndexFunc_int_int_with_impl_reached_1.f k a0 a1) (slices_IndexFunc_int_int_with_impl_reached_1.f (k + 1) a0 a1) := by
  intro a0 a1 k
  have ih0 := slices_IndexFunc_int_int_with_impl_reached_1.mono_l k
  unfold slices_IndexFunc_int_int_with_impl_reached_1.f
  exact mo2_ ih0 impl_reached_1.mono
set_option maxHeartbeats 8000000 in
set_option maxRecDepth 100000 in
theorem slices_IndexFunc_int_int_with_impl_reached_1.calls (k : Nat) (A0 : Option Addr) (c0 : Nat) (l0 : List (List Int)) (B1 : Nat) (A1_0 : Option Addr) (c1_0 : Nat) (l1_0 : List Int) (r : Int) (w : World) (hr0 : Kd.C (Kd.slice 3 (Kd.int .i64)) w A0 l0.length l0) (hc0 : l0.length ≤ c0) (hr1_0 : Kd.C (Kd.int .i64) w A1_0 l1_0.length l1_0) (hc1_0 : l1_0.length ≤ c1_0) (hbv1 : w.heap[B1]? = some (.cells #[.slice A1_0 l1_0.length c1_0] 39 (0, 0))) (h : slices_IndexFunc_int_int_with_impl_reached_1.f k l0 l1_0 = some r) :
    Calls Try.prog 98 #[.slice A0 l0.length c0, .func (.func 92) #[] #[.pointer (some ⟨B1, 0, none⟩)]] w fun e w' => e = .returned (.int .i64 r) ∧ Below w.heap.size w w' := by
  have HR0 := Q_ hr0
  have HC0 := Q_ hc0
  clear hr0 hc0
  have HR1_0 := Q_ hr1_0
  have HC1_0 := Q_ hc1_0
  clear hr1_0 hc1_0
  have BK1 := Q_ hbv1
  clear hbv1
  have HB := Q_ (Below.refl w.heap.size w)
  have H : (slices_IndexFunc_int_int_with_impl_reached_1.l0 k l0 (l0.length : Int) 0 l1_0) = some r := h
  clear h
  have H' := Q_ H
  clear H
  go_enter Try.func98, Try.ntmps98
  go_wp2
  go_loopg [8] k (fun kq v8 w' => ∃ (x8_1 : Int), v8 = .int .i64 x8_1 ∧ Aside0 (slices_IndexFunc_int_int_with_impl_reached_1.l0 kq l0 (l0.length : Int) x8_1 l1_0 = some r) ∧ Aside0 (kq ≤ k) ∧ Aside0 (w'.heap[B1]? = some (.cells #[(.slice A1_0 l1_0.length c1_0)] 39 (0, 0))) ∧ Aside0 (Below w.heap.size w w'))
  case atStart => exact ⟨(0), el_, H', ⟨Nat.le_refl _⟩, ⟨pk_ BK1.out⟩, ⟨pb_ HB.out⟩⟩
  clear H'
  try clear c1
  try clear p2
  obtain ⟨x8_1, rfl, HA, HK1, BK1, HB⟩ := hrel
  rcases gk with _ | k1
  · exact absurd HA.out (by simp [slices_IndexFunc_int_int_with_impl_reached_1.l0])
  have H := HA.out
  clear HA
  simp only [slices_IndexFunc_int_int_with_impl_reached_1.l0] at H
  by_cases c3 : x8_1 < (l0.length : Int)
  rotate_left
  · rw [if_neg c3] at H
    have c3b0 : decide (x8_1 < (l0.length : Int)) = false := decide_eq_false c3
    clear c3
    obtain rfl := Option.some.inj H
    go_wp2
    go_ret
    exact ⟨er_, pb_ HB.out⟩
  rw [if_pos c3] at H
  have c3b0 : decide (x8_1 < (l0.length : Int)) = true := decide_eq_true c3
  clear c3
  by_cases c4 : 0 ≤ x8_1
  rotate_left
  · rw [if_neg c4] at H
    exact absurd H (by simp)
  rw [if_pos c4] at H
  have c4b0 : decide (0 ≤ x8_1) = true := decide_eq_true c4
  clear c4
  by_cases c5 : x8_1 < (l0.length : Int)
  rotate_left
  · rw [if_neg c5] at H
    exact absurd H (by simp)
  rw [if_pos c5] at H
  have c5b0 : decide (x8_1 < (l0.length : Int)) = true := decide_eq_true c5
  clear c5
  replace H := Option.bind_eq_some_iff.mp H
  obtain ⟨t422, A60, H⟩ := H
  (try dsimp only at H)
  have A6 := Q_ A60
  clear A60
  have HS_ := Q_ H
  clear H
  have p421 : 0 ≤ (x8_1 : Int) := dt_
  have q421 : x8_1 < (l0.length : Int) := dt_
  obtain ⟨ad421, A421_0, c421_0, e421, hx421_0, hl421_0, hi421_0⟩ := at_L9 HR0.out x8_1 p421 q421
  cases e421
  replace hx421_0 := bt_ HB hx421_0
  have HR421_0 := Q_ hi421_0
  have HC421_0 := Q_ hl421_0
  clear hi421_0 hl421_0
  replace p421 := eq_true p421
  replace q421 := eq_true q421
  go_upto_if 16 with (first | (go_at_call 92; (with_reducible refine (impl_reached_1.calls k1 _ _ (rd_L9 l0 x8_1) _ A1_0 c1_0 l1_0 t422 _ ?side1 ?side2 ?side3 ?side4 ?side5 A6.out).mono ?_); (case side1 => exact cb_ HR421_0 HB); (case side2 => exact HC421_0.out); (case side3 => exact cb_ HR1_0 HB); (case side4 => exact HC1_0.out); (case side5 => exact pk_ BK1.out); rintro e w' ⟨rfl, ⟨nd, rfl⟩⟩))
  (try simp only [Act.put, List.setIfInBounds_toArray, List.set_cons_zero, List.set_cons_succ])
  have H := HS_.out
  clear HS_
  by_cases c7 : t422 = true
  rotate_left
  · replace c7 := Bool.eq_false_iff.mpr c7
    subst c7
    rw [if_neg (show ¬ (false = true) by decide)] at H
    have H' := Q_ H
    clear H
    go_wp2
    go_roundg k1
    case measure => have := HK1.out; omega
    case rel => exact ⟨(wrap64 (x8_1 + 1)), el_, H', ⟨by have := HK1.out; omega⟩, ⟨pk_ BK1.out⟩, ⟨pb_ HB.out⟩⟩
  subst c7
  rw [if_pos rfl] at H
  obtain rfl := Option.some.inj H
  go_wp2
  go_ret
  exact ⟨er_, pb_ HB.out⟩

/-! ### slices_ContainsFunc_int_int_with_impl_reached_1: function 100004 -/
def slices_ContainsFunc_int_int_with_impl_reached_1.f (k : Nat) (l0 : List (List Int)) (l1_0 : List Int) : Option (Bool) := (slices_IndexFunc_int_int_with_impl_reached_1.f k l0 l1_0).bind fun t423 => (some (decide (t423 ≥ 0)))
theorem slices_ContainsFunc_int_int_with_impl_reached_1.mono : ∀ a0 a1 k, LeO (slices_ContainsFunc_int_int_with_impl_reached_1.f k a0 a1) (slices_ContainsFunc_int_int_with_impl_reached_1.f (k + 1) a0 a1) := by
  intro a0 a1 k
  unfold slices_ContainsFunc_int_int_with_impl_reached_1.f
  exact mo1_ slices_IndexFunc_int_int_with_impl_reached_1.mono
set_option maxHeartbeats 8000000 in
set_option maxRecDepth 100000 in
theorem slices_ContainsFunc_int_int_with_impl_reached_1.calls (k : Nat) (A0 : Option Addr) (c0 : Nat) (l0 : List (List Int)) (B1 : Nat) (A1_0 : Option Addr) (c1_0 : Nat) (l1_0 : List Int) (r : Bool) (w : World) (hr0 : Kd.C (Kd.slice 3 (Kd.int .i64)) w A0 l0.length l0) (hc0 : l0.length ≤ c0) (hr1_0 : Kd.C (Kd.int .i64) w A1_0 l1_0.length l1_0) (hc1_0 : l1_0.length ≤ c1_0) (hbv1 : w.heap[B1]? = some (.cells #[.slice A1_0 l1_0.length c1_0] 39 (0, 0))) (h : slices_ContainsFunc_int_int_with_impl_reached_1.f k l0 l1_0 = some r) :
    Calls Try.prog 91 #[.slice A0 l0.length c0, .func (.func 92) #[] #[.pointer (some ⟨B1, 0, none⟩)]] w fun e w' => e = .returned (.bool r) ∧ Below w.heap.size w w' := by
  have HR0 := Q_ hr0
  have HC0 := Q_ hc0
  clear hr0 hc0
  have HR1_0 := Q_ hr1_0
  have HC1_0 := Q_ hc1_0
  clear hr1_0 hc1_0
  have BK1 := Q_ hbv1
  clear hbv1
  have HB := Q_ (Below.refl w.heap.size w)
  have H : ((slices_IndexFunc_int_int_with_impl_reached_1.f k l0 l1_0).bind fun t423 => (some (decide (t423 ≥ 0)))) = some r := h
  clear h
  replace H := Option.bind_eq_some_iff.mp H
  obtain ⟨t423, A30, H⟩ := H
  replace H : (some (decide (t423 ≥ 0))) = some r := H
  have A3 := Q_ A30
  clear A30
  obtain rfl := Option.some.inj H
  go_enter Try.func91, Try.ntmps91
  go_wp2_with (first | (go_at_call 98; (with_reducible refine (slices_IndexFunc_int_int_with_impl_reached_1.calls k _ _ l0 _ A1_0 c1_0 l1_0 t423 _ ?side1 ?side2 ?side3 ?side4 ?side5 A3.out).mono ?_); (case side1 => exact pc_ HR0.out); (case side2 => exact HC0.out); (case side3 => exact pc_ HR1_0.out); (case side4 => exact HC1_0.out); (case side5 => exact pk_ BK1.out); rintro e w4 ⟨rfl, hb⟩; have _ := Q_ (bb_ BK1.out hb); have _ := Q_ (below_step (pb_ HB.out) hb); clear BK1 HB; rename_i BK1 HB; (try clear hb); (try clear hb2); (try clear hk); (try clear hi)))
  go_ret
  exact ⟨er_, pb_ HB.out⟩

end Go.Proofs.Ytldcchjbaglppaa.Print
