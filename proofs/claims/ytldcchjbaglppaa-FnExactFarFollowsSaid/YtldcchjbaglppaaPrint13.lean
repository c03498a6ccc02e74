-- Written by a program of this session (printx.py) out of the translation; Lean checks it.
import Derived.Test.YtldcchjbaglppaaPrint0
import Derived.Test.YtldcchjbaglppaaPrint10
import Derived.Test.YtldcchjbaglppaaPrint11
import Derived.Test.YtldcchjbaglppaaPrint12
namespace Go.Proofs.Ytldcchjbaglppaa.Print
open Go.RowKit Go.Proofs.YtldcchjbaglppaaW.PrintWords Go.Proofs.YtldcchjbaglppaaW.PrintLast Go.Proofs.YtldcchjbaglppaaW.PrintMore Go.Proofs.Ytldcchjbaglppaa.Short
attribute [local go_sem] max2_int min2_int max_two min_two max_three min_three max_four min_four   -- for this text's walks alone
set_option linter.unusedVariables false
set_option linter.unusedSimpArgs false

/-! ### spec_FollowPairs: function 62 -/
mutual
def spec_FollowPairs.j0 : Nat → List (List Int) → Bool → Int → List Bool → List (S78) → Int → List Bool → List (S78) → Option ((List (List Int)))
  | 0, _, _, _, _, _, _, _, _ => none
  | k + 1, x5, x23, x361000, x361001, x361002, x362000, x362001, x362002 => if x23 = true then (some x5) else (if x5.length < 5864062014805 then (spec_FollowPairs.l0 k (x5 ++ [(([0, 0] : List Int))]) 0 x361000 x361001 x361002 x362000 x362001 x362002) else (none))
def spec_FollowPairs.l0 : Nat → List (List Int) → Int → Int → List Bool → List (S78) → Int → List Bool → List (S78) → Option ((List (List Int)))
  | 0, _, _, _, _, _, _, _, _ => none
  | k + 1, x5, x6, x361000, x361001, x361002, x362000, x362001, x362002 => if x6 < (x5.length : Int) then (if 0 ≤ x6 then (if 0 < ((rd_L9 x5 x6).length : Int) then (if 1 < ((rd_L9 x5 x6).length : Int) then (spec_FollowPairs.l1 k x5 x6 (rd (rd_L9 x5 x6) 0) (rd (rd_L9 x5 x6) 1) 1 x361000 x361001 x361002 x362000 x362001 x362002) else (none)) else (none)) else (none)) else (some x5)
def spec_FollowPairs.l1 : Nat → List (List Int) → Int → Int → Int → Int → Int → List Bool → List (S78) → Int → List Bool → List (S78) → Option ((List (List Int)))
  | 0, _, _, _, _, _, _, _, _, _, _, _ => none
  | k + 1, x5, x6, x7, x8, x9, x361000, x361001, x361002, x362000, x362001, x362002 => if x9 ≥ 0 then ((spec_MovesFrom.f k x361000 x361001 x361002 x7 true).bind fun t377 => (if x9 = 0 then ((spec_MovesFrom.f k x362000 x362001 x362002 x8 false).bind fun t380 => (spec_FollowPairs.j3 k x5 x6 x7 x8 x9 t380 x361000 x361001 x361002 x362000 x362001 x362002)) else (spec_FollowPairs.j3 k x5 x6 x7 x8 x9 t377 x361000 x361001 x361002 x362000 x362001 x362002))) else (spec_FollowPairs.l0 k x5 (wrap64 (x6 + 1)) x361000 x361001 x361002 x362000 x362001 x362002)
def spec_FollowPairs.j3 : Nat → List (List Int) → Int → Int → Int → Int → List Int → Int → List Bool → List (S78) → Int → List Bool → List (S78) → Option ((List (List Int)))
  | 0, _, _, _, _, _, _, _, _, _, _, _, _ => none
  | k + 1, x5, x6, x7, x8, x9, x10, x361000, x361001, x361002, x362000, x362001, x362002 => spec_FollowPairs.l2 k x5 x6 x7 x8 x9 x10 0 x361000 x361001 x361002 x362000 x362001 x362002
def spec_FollowPairs.l2 : Nat → List (List Int) → Int → Int → Int → Int → List Int → Int → Int → List Bool → List (S78) → Int → List Bool → List (S78) → Option ((List (List Int)))
  | 0, _, _, _, _, _, _, _, _, _, _, _, _, _ => none
  | k + 1, x5, x6, x7, x8, x9, x10, x11, x361000, x361001, x361002, x362000, x362001, x362002 => if x11 < (x10.length : Int) then (if 0 ≤ x11 then ((spec_MoveOf.f k x361000 x361001 x361002 x7 (x9 == 1) (rd x10 x11)).bind fun t384 => ((spec_MoveOf.f k x362000 x362001 x362002 x8 (x9 == 1) (rd x10 x11)).bind fun t386 => (if t384 < 0 then (spec_FollowPairs.j5 k x5 x6 x7 x8 x9 x10 x11 t384 t386 true x361000 x361001 x361002 x362000 x362001 x362002) else (spec_FollowPairs.j5 k x5 x6 x7 x8 x9 x10 x11 t384 t386 (decide (t386 < 0)) x361000 x361001 x361002 x362000 x362001 x362002)))) else (none)) else (spec_FollowPairs.l1 k x5 x6 x7 x8 (wrap64 (x9 - 1)) x361000 x361001 x361002 x362000 x362001 x362002)
def spec_FollowPairs.j5 : Nat → List (List Int) → Int → Int → Int → Int → List Int → Int → Int → Int → Bool → Int → List Bool → List (S78) → Int → List Bool → List (S78) → Option ((List (List Int)))
  | 0, _, _, _, _, _, _, _, _, _, _, _, _, _, _, _, _ => none
  | k + 1, x5, x6, x7, x8, x9, x10, x11, x12, x13, x88, x361000, x361001, x361002, x362000, x362001, x362002 => if x88 = true then (spec_FollowPairs.l2 k x5 x6 x7 x8 x9 x10 (wrap64 (x11 + 1)) x361000 x361001 x361002 x362000 x362001 x362002) else (if 0 ≤ x12 then (if x12 < (x361002.length : Int) then (if 0 ≤ x13 then (if x13 < (x362002.length : Int) then ((some (([(rd_T78 x361002 x12).f3, (rd_T78 x362002 x13).f3] : List Int) : List Int)).bind fun y389 => ((spec_l14Has.f k x5 y389).bind fun t392 => (if t392 = true then (spec_FollowPairs.l2 k x5 x6 x7 x8 x9 x10 (wrap64 (x11 + 1)) x361000 x361001 x361002 x362000 x362001 x362002) else (if x5.length < 5864062014805 then (spec_FollowPairs.l2 k (x5 ++ [y389]) x6 x7 x8 x9 x10 (wrap64 (x11 + 1)) x361000 x361001 x361002 x362000 x362001 x362002) else (none))))) else (none)) else (none)) else (none)) else (none))
end
def spec_FollowPairs.f (k : Nat) (a0_0 : Int) (l0_1 : List Bool) (l0_2 : List (S78)) (a1_0 : Int) (l1_1 : List Bool) (l1_2 : List (S78)) : Option ((List (List Int))) := (some (([] : List (List Int)) : List (List Int))).bind fun y362 => ((spec_IsMachine.f k a0_0 l0_1 l0_2).bind fun t365 => (if t365 = true then ((spec_IsMachine.f k a1_0 l1_1 l1_2).bind fun t366 => (spec_FollowPairs.j0 k y362 (!t366) a0_0 l0_1 l0_2 a1_0 l1_1 l1_2)) else (spec_FollowPairs.j0 k y362 true a0_0 l0_1 l0_2 a1_0 l1_1 l1_2)))
theorem spec_FollowPairs.mono_l : ∀ k, (∀ y0 y1 y2 y3 y4 y5 y6 y7, LeO (spec_FollowPairs.j0 k y0 y1 y2 y3 y4 y5 y6 y7) (spec_FollowPairs.j0 (k + 1) y0 y1 y2 y3 y4 y5 y6 y7)) ∧ (∀ y0 y1 y2 y3 y4 y5 y6 y7, LeO (spec_FollowPairs.l0 k y0 y1 y2 y3 y4 y5 y6 y7) (spec_FollowPairs.l0 (k + 1) y0 y1 y2 y3 y4 y5 y6 y7)) ∧ (∀ y0 y1 y2 y3 y4 y5 y6 y7 y8 y9 y10, LeO (spec_FollowPairs.l1 k y0 y1 y2 y3 y4 y5 y6 y7 y8 y9 y10) (spec_FollowPairs.l1 (k + 1) y0 y1 y2 y3 y4 y5 y6 y7 y8 y9 y10)) ∧ (∀ y0 y1 y2 y3 y4 y5 y6 y7 y8 y9 y10 y11, LeO (spec_FollowPairs.j3 k y0 y1 y2 y3 y4 y5 y6 y7 y8 y9 y10 y11) (spec_FollowPairs.j3 (k + 1) y0 y1 y2 y3 y4 y5 y6 y7 y8 y9 y10 y11)) ∧ (∀ y0 y1 y2 y3 y4 y5 y6 y7 y8 y9 y10 y11 y12, LeO (spec_FollowPairs.l2 k y0 y1 y2 y3 y4 y5 y6 y7 y8 y9 y10 y11 y12) (spec_FollowPairs.l2 (k + 1) y0 y1 y2 y3 y4 y5 y6 y7 y8 y9 y10 y11 y12)) ∧ (∀ y0 y1 y2 y3 y4 y5 y6 y7 y8 y9 y10 y11 y12 y13 y14 y15, LeO (spec_FollowPairs.j5 k y0 y1 y2 y3 y4 y5 y6 y7 y8 y9 y10 y11 y12 y13 y14 y15) (spec_FollowPairs.j5 (k + 1) y0 y1 y2 y3 y4 y5 y6 y7 y8 y9 y10 y11 y12 y13 y14 y15))
  | 0 => ⟨fun _ _ _ _ _ _ _ _ r h => by simp [spec_FollowPairs.j0] at h, fun _ _ _ _ _ _ _ _ r h => by simp [spec_FollowPairs.l0] at h, fun _ _ _ _ _ _ _ _ _ _ _ r h => by simp [spec_FollowPairs.l1] at h, fun _ _ _ _ _ _ _ _ _ _ _ _ r h => by simp [spec_FollowPairs.j3] at h, fun _ _ _ _ _ _ _ _ _ _ _ _ _ r h => by simp [spec_FollowPairs.l2] at h, fun _ _ _ _ _ _ _ _ _ _ _ _ _ _ _ _ r h => by simp [spec_FollowPairs.j5] at h⟩
  | k + 1 => by
    obtain ⟨ih0, ih1, ih2, ih3, ih4, ih5⟩ := spec_FollowPairs.mono_l k
    refine ⟨?_, ?_, ?_, ?_, ?_, ?_⟩
    · intro y0 y1 y2 y3 y4 y5 y6 y7
      unfold spec_FollowPairs.j0
      repeat' first
      | (with_reducible exact ih0 _ _ _ _ _ _ _ _)
      | (with_reducible exact ih1 _ _ _ _ _ _ _ _)
      | (with_reducible exact ih2 _ _ _ _ _ _ _ _ _ _ _)
      | (with_reducible exact ih3 _ _ _ _ _ _ _ _ _ _ _ _)
      | (with_reducible exact ih4 _ _ _ _ _ _ _ _ _ _ _ _ _)
      | (with_reducible exact ih5 _ _ _ _ _ _ _ _ _ _ _ _ _ _ _ _)
      | (with_reducible exact spec_IsMachine.mono _ _ _ _)
      | (with_reducible exact spec_MoveOf.mono _ _ _ _ _ _ _)
      | (with_reducible exact spec_MovesFrom.mono _ _ _ _ _ _)
      | (with_reducible exact spec_l14Has.mono _ _ _)
      | (with_reducible exact LeO.refl _)
      | (with_reducible exact LeO.none _)
      | (with_reducible refine LeO.ite ?_ ?_)
      | (with_reducible refine LeO.bind ?_ (fun _ => ?_))
      | exact ih0 _ _ _ _ _ _ _ _
      | exact ih1 _ _ _ _ _ _ _ _
      | exact ih2 _ _ _ _ _ _ _ _ _ _ _
      | exact ih3 _ _ _ _ _ _ _ _ _ _ _ _
      | exact ih4 _ _ _ _ _ _ _ _ _ _ _ _ _
      | exact ih5 _ _ _ _ _ _ _ _ _ _ _ _ _ _ _ _
      | exact spec_IsMachine.mono _ _ _ _
      | exact spec_MoveOf.mono _ _ _ _ _ _ _
      | exact spec_MovesFrom.mono _ _ _ _ _ _
      | exact spec_l14Has.mono _ _ _
      | exact LeO.none _
      | refine LeO.ite ?_ ?_
      | refine LeO.bind ?_ (fun _ => ?_)
    · intro y0 y1 y2 y3 y4 y5 y6 y7
      unfold spec_FollowPairs.l0
      repeat' first
      | (with_reducible exact ih0 _ _ _ _ _ _ _ _)
      | (with_reducible exact ih1 _ _ _ _ _ _ _ _)
      | (with_reducible exact ih2 _ _ _ _ _ _ _ _ _ _ _)
      | (with_reducible exact ih3 _ _ _ _ _ _ _ _ _ _ _ _)
      | (with_reducible exact ih4 _ _ _ _ _ _ _ _ _ _ _ _ _)
      | (with_reducible exact ih5 _ _ _ _ _ _ _ _ _ _ _ _ _ _ _ _)
      | (with_reducible exact spec_IsMachine.mono _ _ _ _)
      | (with_reducible exact spec_MoveOf.mono _ _ _ _ _ _ _)
      | (with_reducible exact spec_MovesFrom.mono _ _ _ _ _ _)
      | (with_reducible exact spec_l14Has.mono _ _ _)
      | (with_reducible exact LeO.refl _)
      | (with_reducible exact LeO.none _)
      | (with_reducible refine LeO.ite ?_ ?_)
      | (with_reducible refine LeO.bind ?_ (fun _ => ?_))
      | exact ih0 _ _ _ _ _ _ _ _
      | exact ih1 _ _ _ _ _ _ _ _
      | exact ih2 _ _ _ _ _ _ _ _ _ _ _
      | exact ih3 _ _ _ _ _ _ _ _ _ _ _ _
      | exact ih4 _ _ _ _ _ _ _ _ _ _ _ _ _
      | exact ih5 _ _ _ _ _ _ _ _ _ _ _ _ _ _ _ _
      | exact spec_IsMachine.mono _ _ _ _
      | exact spec_MoveOf.mono _ _ _ _ _ _ _
      | exact spec_MovesFrom.mono _ _ _ _ _ _
      | exact spec_l14Has.mono _ _ _
      | exact LeO.none _
      | refine LeO.ite ?_ ?_
      | refine LeO.bind ?_ (fun _ => ?_)
    · intro y0 y1 y2 y3 y4 y5 y6 y7 y8 y9 y10
      unfold spec_FollowPairs.l1
      repeat' first
      | (with_reducible exact ih0 _ _ _ _ _ _ _ _)
      | (with_reducible exact ih1 _ _ _ _ _ _ _ _)
      | (with_reducible exact ih2 _ _ _ _ _ _ _ _ _ _ _)
      | (with_reducible exact ih3 _ _ _ _ _ _ _ _ _ _ _ _)
      | (with_reducible exact ih4 _ _ _ _ _ _ _ _ _ _ _ _ _)
      | (with_reducible exact ih5 _ _ _ _ _ _ _ _ _ _ _ _ _ _ _ _)
      | (with_reducible exact spec_IsMachine.mono _ _ _ _)
      | (with_reducible exact spec_MoveOf.mono _ _ _ _ _ _ _)
      | (with_reducible exact spec_MovesFrom.mono _ _ _ _ _ _)
      | (with_reducible exact spec_l14Has.mono _ _ _)
      | (with_reducible exact LeO.refl _)
      | (with_reducible exact LeO.none _)
      | (with_reducible refine LeO.ite ?_ ?_)
      | (with_reducible refine LeO.bind ?_ (fun _ => ?_))
      | exact ih0 _ _ _ _ _ _ _ _
      | exact ih1 _ _ _ _ _ _ _ _
      | exact ih2 _ _ _ _ _ _ _ _ _ _ _
      | exact ih3 _ _ _ _ _ _ _ _ _ _ _ _
      | exact ih4 _ _ _ _ _ _ _ _ _ _ _ _ _
      | exact ih5 _ _ _ _ _ _ _ _ _ _ _ _ _ _ _ _
      | exact spec_IsMachine.mono _ _ _ _
      | exact spec_MoveOf.mono _ _ _ _ _ _ _
      | exact spec_MovesFrom.mono _ _ _ _ _ _
      | exact spec_l14Has.mono _ _ _
      | exact LeO.none _
      | refine LeO.ite ?_ ?_
      | refine LeO.bind ?_ (fun _ => ?_)
    · intro y0 y1 y2 y3 y4 y5 y6 y7 y8 y9 y10 y11
      unfold spec_FollowPairs.j3
      repeat' first
      | (with_reducible exact ih0 _ _ _ _ _ _ _ _)
      | (with_reducible exact ih1 _ _ _ _ _ _ _ _)
      | (with_reducible exact ih2 _ _ _ _ _ _ _ _ _ _ _)
      | (with_reducible exact ih3 _ _ _ _ _ _ _ _ _ _ _ _)
      | (with_reducible exact ih4 _ _ _ _ _ _ _ _ _ _ _ _ _)
      | (with_reducible exact ih5 _ _ _ _ _ _ _ _ _ _ _ _ _ _ _ _)
      | (with_reducible exact spec_IsMachine.mono _ _ _ _)
      | (with_reducible exact spec_MoveOf.mono _ _ _ _ _ _ _)
      | (with_reducible exact spec_MovesFrom.mono _ _ _ _ _ _)
      | (with_reducible exact spec_l14Has.mono _ _ _)
      | (with_reducible exact LeO.refl _)
      | (with_reducible exact LeO.none _)
      | (with_reducible refine LeO.ite ?_ ?_)
      | (with_reducible refine LeO.bind ?_ (fun _ => ?_))
      | exact ih0 _ _ _ _ _ _ _ _
      | exact ih1 _ _ _ _ _ _ _ _
      | exact ih2 _ _ _ _ _ _ _ _ _ _ _
      | exact ih3 _ _ _ _ _ _ _ _ _ _ _ _
      | exact ih4 _ _ _ _ _ _ _ _ _ _ _ _ _
      | exact ih5 _ _ _ _ _ _ _ _ _ _ _ _ _ _ _ _
      | exact spec_IsMachine.mono _ _ _ _
      | exact spec_MoveOf.mono _ _ _ _ _ _ _
      | exact spec_MovesFrom.mono _ _ _ _ _ _
      | exact spec_l14Has.mono _ _ _
      | exact LeO.none _
      | refine LeO.ite ?_ ?_
      | refine LeO.bind ?_ (fun _ => ?_)
    · intro y0 y1 y2 y3 y4 y5 y6 y7 y8 y9 y10 y11 y12
      unfold spec_FollowPairs.l2
      repeat' first
      | (with_reducible exact ih0 _ _ _ _ _ _ _ _)
      | (with_reducible exact ih1 _ _ _ _ _ _ _ _)
      | (with_reducible exact ih2 _ _ _ _ _ _ _ _ _ _ _)
      | (with_reducible exact ih3 _ _ _ _ _ _ _ _ _ _ _ _)
      | (with_reducible exact ih4 _ _ _ _ _ _ _ _ _ _ _ _ _)
      | (with_reducible exact ih5 _ _ _ _ _ _ _ _ _ _ _ _ _ _ _ _)
      | (with_reducible exact spec_IsMachine.mono _ _ _ _)
      | (with_reducible exact spec_MoveOf.mono _ _ _ _ _ _ _)
      | (with_reducible exact spec_MovesFrom.mono _ _ _ _ _ _)
      | (with_reducible exact spec_l14Has.mono _ _ _)
      | (with_reducible exact LeO.refl _)
      | (with_reducible exact LeO.none _)
      | (with_reducible refine LeO.ite ?_ ?_)
      | (with_reducible refine LeO.bind ?_ (fun _ => ?_))
      | exact ih0 _ _ _ _ _ _ _ _
      | exact ih1 _ _ _ _ _ _ _ _
      | exact ih2 _ _ _ _ _ _ _ _ _ _ _
      | exact ih3 _ _ _ _ _ _ _ _ _ _ _ _
      | exact ih4 _ _ _ _ _ _ _ _ _ _ _ _ _
      | exact ih5 _ _ _ _ _ _ _ _ _ _ _ _ _ _ _ _
      | exact spec_IsMachine.mono _ _ _ _
      | exact spec_MoveOf.mono _ _ _ _ _ _ _
      | exact spec_MovesFrom.mono _ _ _ _ _ _
      | exact spec_l14Has.mono _ _ _
      | exact LeO.none _
      | refine LeO.ite ?_ ?_
      | refine LeO.bind ?_ (fun _ => ?_)
    · intro y0 y1 y2 y3 y4 y5 y6 y7 y8 y9 y10 y11 y12 y13 y14 y15
      unfold spec_FollowPairs.j5
      repeat' first
      | (with_reducible exact ih0 _ _ _ _ _ _ _ _)
      | (with_reducible exact ih1 _ _ _ _ _ _ _ _)
      | (with_reducible exact ih2 _ _ _ _ _ _ _ _ _ _ _)
      | (with_reducible exact ih3 _ _ _ _ _ _ _ _ _ _ _ _)
      | (with_reducible exact ih4 _ _ _ _ _ _ _ _ _ _ _ _ _)
      | (with_reducible exact ih5 _ _ _ _ _ _ _ _ _ _ _ _ _ _ _ _)
      | (with_reducible exact spec_IsMachine.mono _ _ _ _)
      | (with_reducible exact spec_MoveOf.mono _ _ _ _ _ _ _)
      | (with_reducible exact spec_MovesFrom.mono _ _ _ _ _ _)
      | (with_reducible exact spec_l14Has.mono _ _ _)
      | (with_reducible exact LeO.refl _)
      | (with_reducible exact LeO.none _)
      | (with_reducible refine LeO.ite ?_ ?_)
      | (with_reducible refine LeO.bind ?_ (fun _ => ?_))
      | exact ih0 _ _ _ _ _ _ _ _
      | exact ih1 _ _ _ _ _ _ _ _
      | exact ih2 _ _ _ _ _ _ _ _ _ _ _
      | exact ih3 _ _ _ _ _ _ _ _ _ _ _ _
      | exact ih4 _ _ _ _ _ _ _ _ _ _ _ _ _
      | exact ih5 _ _ _ _ _ _ _ _ _ _ _ _ _ _ _ _
      | exact spec_IsMachine.mono _ _ _ _
      | exact spec_MoveOf.mono _ _ _ _ _ _ _
      | exact spec_MovesFrom.mono _ _ _ _ _ _
      | exact spec_l14Has.mono _ _ _
      | exact LeO.none _
      | refine LeO.ite ?_ ?_
      | refine LeO.bind ?_ (fun _ => ?_)
theorem spec_FollowPairs.mono : ∀ a0 a1 a2 a3 a4 a5 k, LeO (spec_FollowPairs.f k a0 a1 a2 a3 a4 a5) (spec_FollowPairs.f (k + 1) a0 a1 a2 a3 a4 a5) := by
  intro a0 a1 a2 a3 a4 a5 k
  obtain ⟨ih0, ih1, ih2, ih3, ih4, ih5⟩ := spec_FollowPairs.mono_l k
  unfold spec_FollowPairs.f
  repeat' first
      | (with_reducible exact ih0 _ _ _ _ _ _ _ _)
      | (with_reducible exact ih1 _ _ _ _ _ _ _ _)
      | (with_reducible exact ih2 _ _ _ _ _ _ _ _ _ _ _)
      | (with_reducible exact ih3 _ _ _ _ _ _ _ _ _ _ _ _)
      | (with_reducible exact ih4 _ _ _ _ _ _ _ _ _ _ _ _ _)
      | (with_reducible exact ih5 _ _ _ _ _ _ _ _ _ _ _ _ _ _ _ _)
      | (with_reducible exact spec_IsMachine.mono _ _ _ _)
      | (with_reducible exact spec_MoveOf.mono _ _ _ _ _ _ _)
      | (with_reducible exact spec_MovesFrom.mono _ _ _ _ _ _)
      | (with_reducible exact spec_l14Has.mono _ _ _)
      | (with_reducible exact LeO.refl _)
      | (with_reducible exact LeO.none _)
      | (with_reducible refine LeO.ite ?_ ?_)
      | (with_reducible refine LeO.bind ?_ (fun _ => ?_))
      | exact ih0 _ _ _ _ _ _ _ _
      | exact ih1 _ _ _ _ _ _ _ _
      | exact ih2 _ _ _ _ _ _ _ _ _ _ _
      | exact ih3 _ _ _ _ _ _ _ _ _ _ _ _
      | exact ih4 _ _ _ _ _ _ _ _ _ _ _ _ _
      | exact ih5 _ _ _ _ _ _ _ _ _ _ _ _ _ _ _ _
      | exact spec_IsMachine.mono _ _ _ _
      | exact spec_MoveOf.mono _ _ _ _ _ _ _
      | exact spec_MovesFrom.mono _ _ _ _ _ _
      | exact spec_l14Has.mono _ _ _
      | exact LeO.none _
      | refine LeO.ite ?_ ?_
      | refine LeO.bind ?_ (fun _ => ?_)
def spec_FollowPairs.T19 : Bool × List (List Nat × List Nat) := (true, [([], []), ([], []), ([], []), ([2], [2]), ([], []), ([], []), ([4, 5], [4, 5]), ([6], [6]), ([0, 1, 3, 7], [0, 1, 3, 7]), ([8, 8, 0, 1, 2, 3, 4, 5, 6, 7, 8], [8])])
def spec_FollowPairs.B19 : List Nat := [0, 0, 0, 4, 0, 0, 48, 112, 255, 511]
theorem spec_FollowPairs.tab19 : rtab .any (opsOf Try.f62 19) = spec_FollowPairs.T19 := by kernel_rfl
theorem spec_FollowPairs.bits19 : waitsOk spec_FollowPairs.T19.2 spec_FollowPairs.B19 = true := by kernel_rfl
def spec_FollowPairs.T20 : Bool × List (List Nat × List Nat) := (true, [([], []), ([], []), ([], []), ([2], [2]), ([], []), ([], []), ([4, 5], [4, 5]), ([6], [6]), ([0, 1, 3, 7], [0, 1, 3, 7]), ([8, 8, 0, 1, 2, 3, 4, 5, 6, 7, 8], [8])])
def spec_FollowPairs.B20 : List Nat := [0, 0, 0, 4, 0, 0, 48, 112, 255, 511]
theorem spec_FollowPairs.tab20 : rtab .any (opsOf Try.f62 20) = spec_FollowPairs.T20 := by kernel_rfl
theorem spec_FollowPairs.bits20 : waitsOk spec_FollowPairs.T20.2 spec_FollowPairs.B20 = true := by kernel_rfl
def spec_FollowPairs.T22 : Bool × List (List Nat × List Nat) := (true, [([], []), ([0], [0]), ([], []), ([1, 2], [1, 2]), ([3], [3]), ([4], [4]), ([], []), ([6], [6]), ([], []), ([7, 8], [7, 8]), ([9], [9]), ([10], [10]), ([5, 11], [5, 11]), ([12, 0, 1, 2, 3, 4, 5, 6, 7, 8, 9, 10, 11, 12], [12])])
def spec_FollowPairs.B22 : List Nat := [0, 1, 0, 7, 15, 31, 0, 64, 0, 448, 960, 1984, 4095, 8191]
theorem spec_FollowPairs.tab22 : rtab .any (opsOf Try.f62 22) = spec_FollowPairs.T22 := by kernel_rfl
theorem spec_FollowPairs.bits22 : waitsOk spec_FollowPairs.T22.2 spec_FollowPairs.B22 = true := by kernel_rfl
set_option maxHeartbeats 8000000 in
set_option maxRecDepth 100000 in
theorem spec_FollowPairs.calls (k : Nat) (a0_0 : Int) (A0_1 : Option Addr) (c0_1 : Nat) (l0_1 : List Bool) (A0_2 : Option Addr) (c0_2 : Nat) (l0_2 : List (S78)) (a1_0 : Int) (A1_1 : Option Addr) (c1_1 : Nat) (l1_1 : List Bool) (A1_2 : Option Addr) (c1_2 : Nat) (l1_2 : List (S78)) (r : List (List Int)) (w : World) (hr0_1 : Kd.C Kd.bool w A0_1 l0_1.length l0_1) (hc0_1 : l0_1.length ≤ c0_1) (hr0_2 : Kd.C k78 w A0_2 l0_2.length l0_2) (hc0_2 : l0_2.length ≤ c0_2) (hr1_1 : Kd.C Kd.bool w A1_1 l1_1.length l1_1) (hc1_1 : l1_1.length ≤ c1_1) (hr1_2 : Kd.C k78 w A1_2 l1_2.length l1_2) (hc1_2 : l1_2.length ≤ c1_2) (h : spec_FollowPairs.f k a0_0 l0_1 l0_2 a1_0 l1_1 l1_2 = some r) :
    Calls Try.prog 62 #[.agg #[.int .i64 a0_0, .slice A0_1 l0_1.length c0_1, .slice A0_2 l0_2.length c0_2], .agg #[.int .i64 a1_0, .slice A1_1 l1_1.length c1_1, .slice A1_2 l1_2.length c1_2]] w fun e w' => ∃ v0_ : Value, e = .returned (v0_) ∧ Kd.S (Kd.slice 3 (Kd.int .i64)) 39 w' w.heap.size (fun _ => True) v0_ r ∧ Below w.heap.size w w' := by
  have hu34 := Try.underlying34
  have HR0_1 := Aside0.mk hr0_1
  have HC0_1 := Aside0.mk hc0_1
  clear hr0_1 hc0_1
  have HR0_2 := Aside0.mk hr0_2
  have HC0_2 := Aside0.mk hc0_2
  clear hr0_2 hc0_2
  have HR1_1 := Aside0.mk hr1_1
  have HC1_1 := Aside0.mk hc1_1
  clear hr1_1 hc1_1
  have HR1_2 := Aside0.mk hr1_2
  have HC1_2 := Aside0.mk hc1_2
  clear hr1_2 hc1_2
  have HB := Aside0.mk (Below.refl w.heap.size w)
  have H : ((some (([] : List (List Int)) : List (List Int))).bind fun y362 => ((spec_IsMachine.f k a0_0 l0_1 l0_2).bind fun t365 => (if t365 = true then ((spec_IsMachine.f k a1_0 l1_1 l1_2).bind fun t366 => (spec_FollowPairs.j0 k y362 (!t366) a0_0 l0_1 l0_2 a1_0 l1_1 l1_2)) else (spec_FollowPairs.j0 k y362 true a0_0 l0_1 l0_2 a1_0 l1_1 l1_2)))) = some r := h
  clear h
  obtain ⟨y362, hy362⟩ : ∃ y_ : List (List Int), y_ = (([] : List (List Int))) := ⟨_, rfl⟩
  replace H : ((spec_IsMachine.f k a0_0 l0_1 l0_2).bind fun t365 => (if t365 = true then ((spec_IsMachine.f k a1_0 l1_1 l1_2).bind fun t366 => (spec_FollowPairs.j0 k y362 (!t366) a0_0 l0_1 l0_2 a1_0 l1_1 l1_2)) else (spec_FollowPairs.j0 k y362 true a0_0 l0_1 l0_2 a1_0 l1_1 l1_2))) = some r := by first | (rw [hy362]; with_reducible exact H) | (have H2_ := (Option.bind_some _ _).symm.trans H; rw [hy362]; with_reducible exact H2_) | (have H2_ := (Option.bind_some _ _).symm.trans H; with_reducible exact H2_) | with_reducible exact H | (rw [hy362]; exact H) | exact H
  have Ny362 := Aside0.mk hy362
  clear hy362
  have HC3 := Aside0.mk H
  clear H
  go_enter Try.func62, Try.ntmps62
  go_upto_region 2 with (first | ((with_reducible refine gate_dst (N := 2) rfl ?_); refine box_event ?hg (N := 2) ?hd (cs := #[.int .i64 a0_0, .slice A0_1 l0_1.length c0_1, .slice A0_2 l0_2.length c0_2]) (t := 34) ?hr ?_; (case hd => rfl); (case hg => rfl); (case hr => first | (go_simp; done) | (go_simp; rfl)); intro gb360 hg w4 hbox hb; have n0_ := Aside0.mk (below_step (pb_ HB.out) hb); have n1_ := Aside0.mk (hbox); have n2_ := Aside0.mk ((by rw [hg]; exact (below_size (pb_ HB.out)) : w.heap.size ≤ gb360)); have n3_ := Aside0.mk ((by rw [hg]; exact (below_size (pb_ HB.out)) : w.heap.size ≤ gb360)); clear HB; have HB := n0_; have BK360 := n1_; have GW360 := n2_; have GE360 := n3_; clear n0_ n1_ n2_ n3_; clear hb hbox hg) | ((with_reducible refine gate_dst (N := 3) rfl ?_); refine box_event ?hg (N := 3) ?hd (cs := #[.int .i64 a1_0, .slice A1_1 l1_1.length c1_1, .slice A1_2 l1_2.length c1_2]) (t := 34) ?hr ?_; (case hd => rfl); (case hg => rfl); (case hr => first | (go_simp; done) | (go_simp; rfl)); intro gb361 hg w5 hbox hb; have n0_ := Aside0.mk (bb_ BK360.out hb); have n1_ := Aside0.mk (below_step (pb1_ HB.out GE360.out) hb); have n2_ := Aside0.mk (hbox); have n3_ := Aside0.mk ((by rw [hg]; exact (below_size (pb1_ HB.out GE360.out)) : w.heap.size ≤ gb361)); have n4_ := Aside0.mk ((by rw [hg]; exact (below_size (pb1_ HB.out GE360.out)) : w.heap.size ≤ gb361)); have n5_ := Aside0.mk ((by rw [hg]; exact Nat.ne_of_lt (blk_lt (pk_ BK360.out)) : gb360 ≠ gb361)); have n6_ := Aside0.mk ((by rw [hg]; exact Nat.ne_of_gt (blk_lt (pk_ BK360.out)) : gb361 ≠ gb360)); clear BK360; clear HB; have BK360 := n0_; have HB := n1_; have BK361 := n2_; have GW361 := n3_; have GE361 := n4_; have NB360_361 := n5_; have NB361_360 := n6_; clear n0_ n1_ n2_ n3_ n4_ n5_ n6_; clear hb hbox hg) | ((with_reducible refine gate_dst (N := 15) rfl ?_); refine Kd.S_lit (Kd.slice 3 (Kd.int .i64)) _ 39 ?hg (N := 15) ?hd (xs := ([] : List (List Int))) (inner := []) (ok := fun _ => True) (okp := fun _ => True) ?hr ?hp (fun _ hk => hk) trivial (Below.refl _ _) (Nat.le_refl _) (by simp) ?_; (case hd => rfl); (case hg => rfl); (case hr => first | (go_simp; done) | (go_simp; rfl)); (case hp => exact (Reps.none _ _)); intro v363 w6 ho7 hb hg_ hnew_; clear hg_ hnew_; (first | rw [← Ny362.out] at ho7 | (simp only [Int.reduceToNat] at ho7; rw [← Ny362.out] at ho7)); have _ := Aside0.mk (Kd.S_lower ho7 (below_size (pb2_ HB.out GE360.out GE361.out))); have _ := Aside0.mk (bb_ BK360.out hb); have _ := Aside0.mk (bb_ BK361.out hb); have _ := Aside0.mk (below_step (pb2_ HB.out GE360.out GE361.out) hb); clear BK360 BK361 HB; rename_i HO364 BK360 BK361 HB; clear hb ho7))
  (try simp only [Act.put, List.setIfInBounds_toArray, List.set_cons_zero, List.set_cons_succ])
  go_cut [23] (fun v23 wc => ∃ (kq : Nat) (x23_2 : Bool), v23 = .bool x23_2 ∧ Aside0 (spec_FollowPairs.j0 kq y362 x23_2 a0_0 l0_1 l0_2 a1_0 l1_1 l1_2 = some r) ∧ Aside0 (kq ≤ k) ∧ Aside0 (Kd.S (Kd.slice 3 (Kd.int .i64)) 39 wc w.heap.size (fun _ => True) v363 y362) ∧ Aside0 (wc.heap[gb360]? = some (.cells #[.int .i64 a0_0, (.slice A0_1 l0_1.length c0_1), (.slice A0_2 l0_2.length c0_2)] 34 (0, 0))) ∧ Aside0 (wc.heap[gb361]? = some (.cells #[.int .i64 a1_0, (.slice A1_1 l1_1.length c1_1), (.slice A1_2 l1_2.length c1_2)] 34 (0, 0))) ∧ Aside0 (Below w.heap.size w wc))
  case first =>
    have H := HC3.out
    clear HC3
    replace H := Option.bind_eq_some_iff.mp H
    obtain ⟨t365, A80, H⟩ := H
    (try dsimp only at H)
    have A8 := Aside0.mk A80
    clear A80
    by_cases c9 : t365 = true
    rotate_left
    · replace c9 := Bool.eq_false_iff.mpr c9
      subst c9
      rw [if_neg (show ¬ (false = true) by decide)] at H
      have H' := Aside0.mk H
      clear H
      have hnb10 := NB360_361.out
      have hnc10 := NB361_360.out
      obtain ⟨hcz11_0, hcz11_1, hcz11_2, hfz11_0, hfz11_1, hfz11_2⟩ := bc3_ BK360.out
      go_wp2_with (first | ((with_reducible refine gate_callee (f := 59) rfl ?_); refine gl_ (some 17) Try.func59 #[.agg #[.int .i64 a0_0, .slice A0_1 l0_1.length c0_1, .slice A0_2 l0_2.length c0_2]] ?_; (with_reducible refine (spec_IsMachine.calls k a0_0 _ _ l0_1 _ _ l0_2 false _ ?side1 ?side2 ?side3 ?side4 A8.out).mono ?_); (case side1 => exact cb_ HR0_1 HB); (case side2 => exact HC0_1.out); (case side3 => exact cb_ HR0_2 HB); (case side4 => exact HC0_2.out); rintro e w12 ⟨rfl, hb⟩; refine ⟨_, rfl, ?_⟩; have _ := Aside0.mk (Kd.S_below (ps_ HO364.out) hb); have _ := Aside0.mk (bb_ BK360.out hb); have _ := Aside0.mk (bb_ BK361.out hb); have _ := Aside0.mk (below_step (pb2_ HB.out GE360.out GE361.out) hb); clear HO364 BK360 BK361 HB; rename_i HO364 BK360 BK361 HB; (try clear hb); (try clear hb2); (try clear hk); (try clear hi)))
      go_meet
      case rel => exact ⟨_, (true), el_, H', ⟨by first | omega | exact Nat.le_refl _⟩, ⟨ps_ HO364.out⟩, ⟨pk_ BK360.out⟩, ⟨pk_ BK361.out⟩, ⟨pb2_ HB.out GE360.out GE361.out⟩⟩
    subst c9
    rw [if_pos rfl] at H
    replace H := Option.bind_eq_some_iff.mp H
    obtain ⟨t366, A130, H⟩ := H
    (try dsimp only at H)
    have A13 := Aside0.mk A130
    clear A130
    have H' := Aside0.mk H
    clear H
    have hnb14 := NB360_361.out
    have hnc14 := NB361_360.out
    obtain ⟨hcz15_0, hcz15_1, hcz15_2, hfz15_0, hfz15_1, hfz15_2⟩ := bc3_ BK360.out
    go_wp2_with (first | ((with_reducible refine gate_callee (f := 59) rfl ?_); refine gl_ (some 17) Try.func59 #[.agg #[.int .i64 a0_0, .slice A0_1 l0_1.length c0_1, .slice A0_2 l0_2.length c0_2]] ?_; (with_reducible refine (spec_IsMachine.calls k a0_0 _ _ l0_1 _ _ l0_2 true _ ?side1 ?side2 ?side3 ?side4 A8.out).mono ?_); (case side1 => exact cb_ HR0_1 HB); (case side2 => exact HC0_1.out); (case side3 => exact cb_ HR0_2 HB); (case side4 => exact HC0_2.out); rintro e w16 ⟨rfl, hb⟩; refine ⟨_, rfl, ?_⟩; have _ := Aside0.mk (Kd.S_below (ps_ HO364.out) hb); have _ := Aside0.mk (bb_ BK360.out hb); have _ := Aside0.mk (bb_ BK361.out hb); have _ := Aside0.mk (below_step (pb2_ HB.out GE360.out GE361.out) hb); clear HO364 BK360 BK361 HB; rename_i HO364 BK360 BK361 HB; (try clear hb); (try clear hb2); (try clear hk); (try clear hi); obtain ⟨hcz17_0, hcz17_1, hcz17_2, hfz17_0, hfz17_1, hfz17_2⟩ := bc3_ BK361.out) | (go_at_call 59; (with_reducible refine (spec_IsMachine.calls k a1_0 _ _ l1_1 _ _ l1_2 t366 _ ?side1 ?side2 ?side3 ?side4 A13.out).mono ?_); (case side1 => exact cb_ HR1_1 HB); (case side2 => exact HC1_1.out); (case side3 => exact cb_ HR1_2 HB); (case side4 => exact HC1_2.out); rintro e w18 ⟨rfl, hb⟩; have _ := Aside0.mk (Kd.S_below (ps_ HO364.out) hb); have _ := Aside0.mk (bb_ BK360.out hb); have _ := Aside0.mk (bb_ BK361.out hb); have _ := Aside0.mk (below_step (pb2_ HB.out GE360.out GE361.out) hb); clear HO364 BK360 BK361 HB; rename_i HO364 BK360 BK361 HB; (try clear hb); (try clear hb2); (try clear hk); (try clear hi)))
    go_meet
    case rel => exact ⟨_, (!t366), el_, H', ⟨by first | omega | exact Nat.le_refl _⟩, ⟨ps_ HO364.out⟩, ⟨pk_ BK360.out⟩, ⟨pk_ BK361.out⟩, ⟨pb2_ HB.out GE360.out GE361.out⟩⟩
  clear HC3
  try clear c1
  try clear p2
  try clear c5
  try clear c6
  try clear c9
  try clear c10
  try clear c14
  try clear hcz11_0
  try clear hcz11_1
  try clear hcz11_2
  try clear hcz15_0
  try clear hcz15_1
  try clear hcz15_2
  try clear hcz17_0
  try clear hcz17_1
  try clear hcz17_2
  try clear hfz11_0
  try clear hfz11_1
  try clear hfz11_2
  try clear hfz15_0
  try clear hfz15_1
  try clear hfz15_2
  try clear hfz17_0
  try clear hfz17_1
  try clear hfz17_2
  obtain ⟨kq, x23_2, rfl, HA, HJ2, HO_5, BK360, BK361, HB⟩ := hcut
  rcases kq with _ | kj2
  · exact absurd HA.out (by simp [spec_FollowPairs.j0])
  have H := HA.out
  clear HA
  simp only [spec_FollowPairs.j0] at H
  by_cases c19 : x23_2 = true
  · subst c19
    rw [if_pos rfl] at H
    obtain rfl := Option.some.inj H
    go_wp2
    go_ret
    exact ⟨_, er_, ps_ HO_5.out, pb2_ HB.out GE360.out GE361.out⟩
  replace c19 := Bool.eq_false_iff.mpr c19
  subst c19
  rw [if_neg (show ¬ (false = true) by decide)] at H
  obtain ⟨y367, hy367⟩ : ∃ y_ : List Int, y_ = (([0, 0] : List Int)) := ⟨_, rfl⟩
  replace H : (if y362.length < 5864062014805 then (spec_FollowPairs.l0 kj2 (y362 ++ [y367]) 0 a0_0 l0_1 l0_2 a1_0 l1_1 l1_2) else (none)) = some r := by first | (rw [hy367]; with_reducible exact H) | (have H2_ := (Option.bind_some _ _).symm.trans H; rw [hy367]; with_reducible exact H2_) | (have H2_ := (Option.bind_some _ _).symm.trans H; with_reducible exact H2_) | with_reducible exact H | (rw [hy367]; exact H) | exact H
  have Ny367 := Aside0.mk hy367
  clear hy367
  by_cases c20 : y362.length < 5864062014805
  rotate_left
  · rw [if_neg c20] at H
    exact absurd H (by simp)
  rw [if_pos c20] at H
  have LMc20 := Aside0.mk c20
  clear c20
  obtain ⟨y370, hy370⟩ : ∃ y_ : List (List Int), y_ = (y362 ++ [y367]) := ⟨_, rfl⟩
  replace H : (spec_FollowPairs.l0 kj2 y370 0 a0_0 l0_1 l0_2 a1_0 l1_1 l1_2) = some r := by first | (rw [hy370]; with_reducible exact H) | (have H2_ := (Option.bind_some _ _).symm.trans H; rw [hy370]; with_reducible exact H2_) | (have H2_ := (Option.bind_some _ _).symm.trans H; with_reducible exact H2_) | with_reducible exact H | (rw [hy370]; exact H) | exact H
  have Ny370 := Aside0.mk hy370
  clear hy370
  have H' := Aside0.mk H
  clear H
  go_wp2_with (first | ((with_reducible refine gate_dst (N := 26) rfl ?_); refine Kd.R_lit (Kd.int .i64) _ 3 ?hg (N := 26) ?hd (xs := ([0, 0] : List Int)) (inner := [.int .i64 0, .int .i64 0]) (ok := fun _ => True) (okp := fun _ => True) ?hr ?hp (fun _ hk => hk) trivial (Below.refl _ _) (Nat.le_refl _) (by simp) ?_; (case hd => rfl); (case hg => rfl); (case hr => first | (go_simp; done) | (go_simp; rfl)); (case hp => exact (Reps.one (show Kd.M (Kd.int .i64) _ _ _ 0 [.int .i64 0] from rfl) (Reps.one (show Kd.M (Kd.int .i64) _ _ _ 0 [.int .i64 0] from rfl) (Reps.none _ _)))); intro v368 w21 ho22 hb hg_ hnew_; clear hg_ hnew_; (first | rw [← Ny367.out] at ho22 | (simp only [Int.reduceToNat] at ho22; rw [← Ny367.out] at ho22)); have _ := Aside0.mk (Kd.S_elder' (ps_ HO_5.out) (Kd.R_base ho22) hb); have _ := Aside0.mk (Kd.R_lower ho22 (below_size (pb2_ HB.out GE360.out GE361.out))); have _ := Aside0.mk (bb_ BK360.out hb); have _ := Aside0.mk (bb_ BK361.out hb); have _ := Aside0.mk (below_step (pb2_ HB.out GE360.out GE361.out) hb); clear HO_5 BK360 BK361 HB; rename_i HO_5 HO369 BK360 BK361 HB; clear hb ho22; obtain ⟨Ao24, co24, eo24⟩ := Kd.R_slice HO369.out; subst eo24) | ((with_reducible refine gate_builtin (b := .append) (xs := #[.tmp 25, .tmp 27]) rfl ?_); at_builtin; refine Kd.S_append (Kd.slice 3 (Kd.int .i64)) (w0 := w) w.heap.size rfl (.tmp 25) (.tmp 27) 83 39 (.slice none 0 0) 24 rfl Try.underlying83 info39 rfl (by decide) (by omega) v363 y362 y367 [.slice Ao24 y367.length co24] (fun _ => True) (fun k_ => some k_ = (.slice Ao24 y367.length co24 : Value).ownBlock) rfl rfl ?aP (fun k_ hk_ => ((Kd.R_mono (ok' := fun k_ => ((fun _ => True)) k_ ∧ some k_ ≠ (v363 : Value).ownBlock) (Kd.R_apart' (HO369.out) (Kd.S_typed HO_5.out) (by decide)) (fun k_ hk => ⟨trivial, hk.2⟩))).1 k_ hk_.symm) ?aF ?aO ?aB ?aS ?aL ?_; (case aP => exact Kd.M_row (Kd.R_mono (Kd.R_tight rfl (Kd.R_mono (ok' := fun k_ => ((fun _ => True)) k_ ∧ some k_ ≠ (v363 : Value).ownBlock) (Kd.R_apart' (HO369.out) (Kd.S_typed HO_5.out) (by decide)) (fun k_ hk => ⟨trivial, hk.2⟩))) (fun _ h_ => h_))); (case aB => exact (pb2_ HB.out GE360.out GE361.out)); (case aF => exact (fun _ _ => trivial)); (case aO => exact (by (with_reducible repeat (first | apply Kd.S_alloc | apply Kd.S_drewN | apply Kd.S_drew)); exact Kd.S_mono HO_5.out (fun k_ hk => ⟨trivial, fun e_ => hk.2 e_⟩))); (case aS => exact (below_size (pb2_ HB.out GE360.out GE361.out))); (case aL => have := LMc20.out; omega); intro v371 w23 ho hb hg hat; rw [← Ny370.out] at ho; have _ := Aside0.mk (blk_grown (g := gb360) (o := .cells #[.int .i64 a0_0, .slice A0_1 l0_1.length c0_1, .slice A0_2 l0_2.length c0_2] 34 (0, 0)) (pk_ BK360.out) hg (Kd.S_ne HO_5.out BK360.out (by decide))); have _ := Aside0.mk (blk_grown (g := gb361) (o := .cells #[.int .i64 a1_0, .slice A1_1 l1_1.length c1_1, .slice A1_2 l1_2.length c1_2] 34 (0, 0)) (pk_ BK361.out) hg (Kd.S_ne HO_5.out BK361.out (by decide))); have _ := Aside0.mk (hb); have _ := Aside0.mk (ho); clear BK360 BK361 HB HO_5 HO369; rename_i BK360 BK361 HB HO372; clear ho hb hg hat))
  (try simp only [Act.put, List.setIfInBounds_toArray, List.set_cons_zero, List.set_cons_succ])
  go_loopg [5, 6] kj2 (fun kq v5 v6 w' => ∃ (x5_2 : List (List Int)) (x6_2 : Int), v6 = .int .i64 x6_2 ∧ Aside0 (spec_FollowPairs.l0 kq x5_2 x6_2 a0_0 l0_1 l0_2 a1_0 l1_1 l1_2 = some r) ∧ Aside0 (kq ≤ kj2) ∧ Aside0 (Kd.S (Kd.slice 3 (Kd.int .i64)) 39 w' w.heap.size (fun _ => True) v5 x5_2) ∧ Aside0 (w'.heap[gb360]? = some (.cells #[.int .i64 a0_0, (.slice A0_1 l0_1.length c0_1), (.slice A0_2 l0_2.length c0_2)] 34 (0, 0))) ∧ Aside0 (w'.heap[gb361]? = some (.cells #[.int .i64 a1_0, (.slice A1_1 l1_1.length c1_1), (.slice A1_2 l1_2.length c1_2)] 34 (0, 0))) ∧ Aside0 (Below w.heap.size w w'))
  case atStart => exact ⟨(y370), (0), el_, H', ⟨Nat.le_refl _⟩, ⟨ps_ HO372.out⟩, ⟨pk_ BK360.out⟩, ⟨pk_ BK361.out⟩, ⟨pb2_ HB.out GE360.out GE361.out⟩⟩
  clear H'
  try clear c1
  try clear c2
  try clear p2
  try clear c5
  try clear c6
  try clear c9
  try clear c10
  try clear c14
  try clear c19
  try clear c20
  try clear hcz11_0
  try clear hcz11_1
  try clear hcz11_2
  try clear hcz15_0
  try clear hcz15_1
  try clear hcz15_2
  try clear hcz17_0
  try clear hcz17_1
  try clear hcz17_2
  try clear hfz11_0
  try clear hfz11_1
  try clear hfz11_2
  try clear hfz15_0
  try clear hfz15_1
  try clear hfz15_2
  try clear hfz17_0
  try clear hfz17_1
  try clear hfz17_2
  try clear p2
  obtain ⟨x5_2, x6_2, rfl, HA, HK2, HO_5, BK360, BK361, HB⟩ := hrel
  rcases gk with _ | k2
  · exact absurd HA.out (by simp [spec_FollowPairs.l0])
  have H := HA.out
  clear HA
  simp only [spec_FollowPairs.l0] at H
  by_cases c25 : x6_2 < (x5_2.length : Int)
  rotate_left
  · rw [if_neg c25] at H
    have c25b0 : decide (x6_2 < (x5_2.length : Int)) = false := decide_eq_false c25
    clear c25
    obtain rfl := Option.some.inj H
    obtain ⟨Ao26, co26, eo26⟩ := Kd.S_slice HO_5.out
    subst eo26
    go_wp2
    go_ret
    exact ⟨_, er_, ps_ HO_5.out, pb2_ HB.out GE360.out GE361.out⟩
  rw [if_pos c25] at H
  have c25b0 : decide (x6_2 < (x5_2.length : Int)) = true := decide_eq_true c25
  clear c25
  by_cases c27 : 0 ≤ x6_2
  rotate_left
  · rw [if_neg c27] at H
    exact absurd H (by simp)
  rw [if_pos c27] at H
  have c27b0 : decide (0 ≤ x6_2) = true := decide_eq_true c27
  clear c27
  by_cases c28 : 0 < ((rd_L9 x5_2 x6_2).length : Int)
  rotate_left
  · rw [if_neg c28] at H
    exact absurd H (by simp)
  rw [if_pos c28] at H
  have c28b0 : decide (0 < ((rd_L9 x5_2 x6_2).length : Int)) = true := decide_eq_true c28
  have c28b1 : decide (0 < (rd_L9 x5_2 x6_2).length) = true := decide_eq_true (by omega)
  clear c28
  by_cases c29 : 1 < ((rd_L9 x5_2 x6_2).length : Int)
  rotate_left
  · rw [if_neg c29] at H
    exact absurd H (by simp)
  rw [if_pos c29] at H
  have c29b0 : decide (1 < ((rd_L9 x5_2 x6_2).length : Int)) = true := decide_eq_true c29
  have c29b1 : decide (1 < (rd_L9 x5_2 x6_2).length) = true := decide_eq_true (by omega)
  clear c29
  have H' := Aside0.mk H
  clear H
  obtain ⟨Ao30, co30, eo30⟩ := Kd.S_slice HO_5.out
  subst eo30
  have p373 : 0 ≤ (x6_2 : Int) := dt_
  have q373 : x6_2 < (x5_2.length : Int) := dt_
  obtain ⟨ad373, A373_0, c373_0, e373, hx373_0, hl373_0, hi373_0⟩ := at_L9 (Kd.S_reads' HO_5.out).2.2 x6_2 p373 q373
  cases e373
  obtain ⟨ce373, hce373, hMe373, hcc373⟩ := Kd.S_get HO_5.out [] x6_2 p373 (by first | exact q373 | exact dt_ | (have e_ := (Kd.S_reads' HO_5.out).1; omega))
  obtain ⟨ve373_0, rfl, ge373_0⟩ := hMe373
  have hv373_0 := hcc373 0 _ rfl
  rw [Nat.add_zero, show ((Kd.slice 3 (Kd.int .i64))).sz = 1 from rfl, Nat.mul_one] at hv373_0
  replace hv373_0 := Option.some.inj (hv373_0.symm.trans hx373_0)
  rw [hv373_0] at ge373_0
  have HL373_0 := Aside0.mk (show Kd.R (Kd.int .i64) 3 _ _ _ _ (rd_L9 x5_2 x6_2) from ge373_0)
  clear hv373_0 ge373_0
  clear hcc373 hce373
  have HR373_0 := Aside0.mk hi373_0
  have HC373_0 := Aside0.mk hl373_0
  clear hi373_0 hl373_0
  replace p373 := eq_true p373
  replace q373 := eq_true q373
  have p374 : 0 ≤ (0 : Int) := (by omega)
  have q374 : 0 < ((rd_L9 x5_2 x6_2).length : Int) := dt_
  obtain ⟨ad374, e374, hx374_0⟩ := Kd.at_int (by repeat (first | (with_reducible exact HR373_0.out) | (with_reducible refine Kd.C_alloc ?_ _) | (with_reducible refine Kd.C_drewN ?_ _) | (with_reducible refine Kd.C_drew ?_) | exact HR373_0.out)) 0 p374 q374
  cases e374
  have qi374 : (0 < (rd_L9 x5_2 x6_2).length) = True := eq_true (by omega)
  (try rw [show ((0 : Int)).toNat = 0 from rfl] at hx374_0)
  (try rw [Addr.add_zero'] at hx374_0)
  replace p374 := eq_true p374
  replace q374 := eq_true q374
  have p375 : 0 ≤ (x6_2 : Int) := dt_
  have q375 : x6_2 < (x5_2.length : Int) := dt_
  obtain ⟨ad375, A375_0, c375_0, e375, hx375_0, hl375_0, hi375_0⟩ := at_L9 (Kd.S_reads' HO_5.out).2.2 x6_2 p375 q375
  obtain rfl : ad373 = ad375 := (by injection e375)
  obtain ⟨ce375, hce375, hMe375, hcc375⟩ := Kd.S_get HO_5.out [] x6_2 p375 (by first | exact q375 | exact dt_ | (have e_ := (Kd.S_reads' HO_5.out).1; omega))
  obtain ⟨ve375_0, rfl, ge375_0⟩ := hMe375
  have hv375_0 := hcc375 0 _ rfl
  rw [Nat.add_zero, show ((Kd.slice 3 (Kd.int .i64))).sz = 1 from rfl, Nat.mul_one] at hv375_0
  replace hv375_0 := Option.some.inj (hv375_0.symm.trans hx375_0)
  rw [hv375_0] at ge375_0
  have HL375_0 := Aside0.mk (show Kd.R (Kd.int .i64) 3 _ _ _ _ (rd_L9 x5_2 x6_2) from ge375_0)
  clear hv375_0 ge375_0
  clear hcc375 hce375
  have HR375_0 := Aside0.mk hi375_0
  have HC375_0 := Aside0.mk hl375_0
  clear hi375_0 hl375_0
  replace p375 := eq_true p375
  replace q375 := eq_true q375
  have ea_ := Option.some.inj (hx373_0.symm.trans hx375_0)
  injection ea_ with ea_ en_ ec_
  subst ea_
  subst ec_
  clear en_
  have p376 : 0 ≤ (1 : Int) := (by omega)
  have q376 : 1 < ((rd_L9 x5_2 x6_2).length : Int) := dt_
  obtain ⟨ad376, e376, hx376_0⟩ := Kd.at_int (by repeat (first | (with_reducible exact HR375_0.out) | (with_reducible refine Kd.C_alloc ?_ _) | (with_reducible refine Kd.C_drewN ?_ _) | (with_reducible refine Kd.C_drew ?_) | exact HR375_0.out)) 1 p376 q376
  cases e376
  (try simp only [show (1 : Int).toNat = 1 from rfl, Nat.reduceMul, Nat.reduceEqDiff, Go.Addr.add, ↓reduceIte] at hx376_0)
  have qi376 : (1 < (rd_L9 x5_2 x6_2).length) = True := eq_true (by omega)
  (try rw [show ((1 : Int)).toNat = 1 from rfl] at hx376_0)
  replace p376 := eq_true p376
  replace q376 := eq_true q376
  go_wp2
  go_loopg [5, 9] k2 (fun kq v5 v9 w' => ∃ (x5_3 : List (List Int)) (x9_3 : Int), v9 = .int .i64 x9_3 ∧ Aside0 (spec_FollowPairs.l1 kq x5_3 x6_2 (rd (rd_L9 x5_2 x6_2) 0) (rd (rd_L9 x5_2 x6_2) 1) x9_3 a0_0 l0_1 l0_2 a1_0 l1_1 l1_2 = some r) ∧ Aside0 (kq ≤ k2) ∧ Aside0 (Kd.S (Kd.slice 3 (Kd.int .i64)) 39 w' w.heap.size (fun _ => True) v5 x5_3) ∧ Aside0 (w'.heap[gb360]? = some (.cells #[.int .i64 a0_0, (.slice A0_1 l0_1.length c0_1), (.slice A0_2 l0_2.length c0_2)] 34 (0, 0))) ∧ Aside0 (w'.heap[gb361]? = some (.cells #[.int .i64 a1_0, (.slice A1_1 l1_1.length c1_1), (.slice A1_2 l1_2.length c1_2)] 34 (0, 0))) ∧ Aside0 (Below w.heap.size w w'))
  case atStart => exact ⟨(x5_2), (1), el_, H', ⟨Nat.le_refl _⟩, ⟨ps_ HO_5.out⟩, ⟨pk_ BK360.out⟩, ⟨pk_ BK361.out⟩, ⟨pb2_ HB.out GE360.out GE361.out⟩⟩
  clear H'
  try clear c1
  try clear c2
  try clear p2
  try clear c3
  try clear p3
  try clear q3
  try clear hx3
  try clear qi3
  try clear c5
  try clear c6
  try clear c9
  try clear c10
  try clear c14
  try clear c19
  try clear c20
  try clear c25
  try clear c25b0
  try clear c27
  try clear c27b0
  try clear c28
  try clear c28b0
  try clear c28b1
  try clear c29
  try clear c29b0
  try clear c29b1
  try clear hcz11_0
  try clear hcz11_1
  try clear hcz11_2
  try clear hcz15_0
  try clear hcz15_1
  try clear hcz15_2
  try clear hcz17_0
  try clear hcz17_1
  try clear hcz17_2
  try clear hfz11_0
  try clear hfz11_1
  try clear hfz11_2
  try clear hfz15_0
  try clear hfz15_1
  try clear hfz15_2
  try clear hfz17_0
  try clear hfz17_1
  try clear hfz17_2
  try clear hx373_0
  try clear hx374_0
  try clear hx375_0
  try clear hx376_0
  try clear p2
  try clear p373
  try clear p374
  try clear p375
  try clear p376
  try clear q373
  try clear q374
  try clear q375
  try clear q376
  obtain ⟨x5_3, x9_3, rfl, HA, HK3, HO_5, BK360, BK361, HB⟩ := hrel
  rcases gk with _ | k3
  · exact absurd HA.out (by simp [spec_FollowPairs.l1])
  have H := HA.out
  clear HA
  simp only [spec_FollowPairs.l1] at H
  by_cases c31 : x9_3 ≥ 0
  rotate_left
  · rw [if_neg c31] at H
    have c31b0 : decide (0 ≤ x9_3) = false := decide_eq_false c31
    clear c31
    have H' := Aside0.mk H
    clear H
    go_wp2
    go_roundg k3
    case measure => have := HJ2.out; have := HK2.out; have := HK3.out; omega
    case rel => exact ⟨(x5_3), (wrap64 (x6_2 + 1)), el_, H', ⟨by have := HJ2.out; have := HK2.out; have := HK3.out; omega⟩, ⟨ps_ HO_5.out⟩, ⟨pk_ BK360.out⟩, ⟨pk_ BK361.out⟩, ⟨pb2_ HB.out GE360.out GE361.out⟩⟩
  rw [if_pos c31] at H
  have c31b0 : decide (0 ≤ x9_3) = true := decide_eq_true c31
  clear c31
  replace H := Option.bind_eq_some_iff.mp H
  obtain ⟨t377, A320, H⟩ := H
  (try dsimp only at H)
  have A32 := Aside0.mk A320
  clear A320
  have HC33 := Aside0.mk H
  clear H
  have hnb34 := NB360_361.out
  have hnc34 := NB361_360.out
  obtain ⟨hcz35_0, hcz35_1, hcz35_2, hfz35_0, hfz35_1, hfz35_2⟩ := bc3_ BK360.out
  go_upto_if 55 with (first | ((with_reducible refine gate_callee (f := 70) rfl ?_); refine gl_ (some 53) Try.func70 #[.agg #[.int .i64 a0_0, .slice A0_1 l0_1.length c0_1, .slice A0_2 l0_2.length c0_2], .int .i64 (rd (rd_L9 x5_2 x6_2) 0), .bool true] ?_; (with_reducible refine (spec_MovesFrom.calls k3 a0_0 _ _ l0_1 _ _ l0_2 (rd (rd_L9 x5_2 x6_2) 0) true t377 _ ?side1 ?side2 ?side3 ?side4 A32.out).mono ?_); (case side1 => exact cb_ HR0_1 HB); (case side2 => exact HC0_1.out); (case side3 => exact cb_ HR0_2 HB); (case side4 => exact HC0_2.out); rintro e w36 ⟨v378, rfl, ho0, hb⟩; refine ⟨_, rfl, ?_⟩; have _ := Aside0.mk (Kd.S_elder' (ps_ HO_5.out) (Kd.R_base ho0) hb); have _ := Aside0.mk (Kd.R_lower ho0 (below_size (pb2_ HB.out GE360.out GE361.out))); have _ := Aside0.mk (bb_ BK360.out hb); have _ := Aside0.mk (bb_ BK361.out hb); have _ := Aside0.mk (below_step (pb2_ HB.out GE360.out GE361.out) hb); clear HO_5 BK360 BK361 HB; rename_i HO_5 HO379 BK360 BK361 HB; (try clear hb); (try clear hb2); (try clear hk); (try clear hi); (try clear ho0)))
  (try simp only [Act.put, List.setIfInBounds_toArray, List.set_cons_zero, List.set_cons_succ])
  go_cut [10] (fun v10 wc => ∃ (kq : Nat) (x10_32 : List Int), Aside0 (spec_FollowPairs.j3 kq x5_3 x6_2 (rd (rd_L9 x5_2 x6_2) 0) (rd (rd_L9 x5_2 x6_2) 1) x9_3 x10_32 a0_0 l0_1 l0_2 a1_0 l1_1 l1_2 = some r) ∧ Aside0 (kq ≤ k3) ∧ Aside0 (Kd.S (Kd.slice 3 (Kd.int .i64)) 39 wc w.heap.size (fun k_ => some k_ ≠ (v10 : Value).ownBlock) u5 x5_3) ∧ Aside0 (Kd.R (Kd.int .i64) 3 wc w.heap.size (fun _ => True) v10 x10_32) ∧ Aside0 (wc.heap[gb360]? = some (.cells #[.int .i64 a0_0, (.slice A0_1 l0_1.length c0_1), (.slice A0_2 l0_2.length c0_2)] 34 (0, 0))) ∧ Aside0 (wc.heap[gb361]? = some (.cells #[.int .i64 a1_0, (.slice A1_1 l1_1.length c1_1), (.slice A1_2 l1_2.length c1_2)] 34 (0, 0))) ∧ Aside0 (Below w.heap.size w wc))
  case first =>
    have H := HC33.out
    clear HC33
    by_cases c37 : x9_3 = 0
    rotate_left
    · rw [if_neg c37] at H
      have c37b0 : (x9_3 == 0) = false := beq_eq_false_iff_ne.mpr c37
      have c37b1 : (x9_3 != 0) = true := bne_iff_ne.mpr c37
      (first | rw [c37b0] | (simp only [i64_w, i32_w]; rw [c37b0]) | rw [c37b1] | (have c_ := c37b1; rw [bne] at c_; rw [c_]; clear c_) | skip)
      have H' := Aside0.mk H
      clear H
      go_wp2
      go_meet
      case rel => exact ⟨_, (t377), H', ⟨by have := HJ2.out; have := HK2.out; have := HK3.out; first | omega | exact Nat.le_refl _⟩, ⟨ps_ (Kd.S_mono HO_5.out (fun _ hk => hk.2))⟩, ⟨pr_ HO379.out⟩, ⟨pk_ BK360.out⟩, ⟨pk_ BK361.out⟩, ⟨pb2_ HB.out GE360.out GE361.out⟩⟩
    rw [if_pos c37] at H
    have c37b0 : (x9_3 == 0) = true := beq_iff_eq.mpr c37
    have c37b1 : (x9_3 != 0) = false := bne_eq_false_iff_eq.mpr c37
    clear c37
    (first | rw [c37b0] | (simp only [i64_w, i32_w]; rw [c37b0]) | rw [c37b1] | (have c_ := c37b1; rw [bne] at c_; rw [c_]; clear c_) | skip)
    replace H := Option.bind_eq_some_iff.mp H
    obtain ⟨t380, A380, H⟩ := H
    (try dsimp only at H)
    have A38 := Aside0.mk A380
    clear A380
    have H' := Aside0.mk H
    clear H
    have hnb39 := NB361_360.out
    have hnc39 := NB360_361.out
    obtain ⟨hcz40_0, hcz40_1, hcz40_2, hfz40_0, hfz40_1, hfz40_2⟩ := bc3_ BK361.out
    go_wp2_with (first | ((with_reducible refine gate_callee (f := 70) rfl ?_); refine gl_ (some 58) Try.func70 #[.agg #[.int .i64 a1_0, .slice A1_1 l1_1.length c1_1, .slice A1_2 l1_2.length c1_2], .int .i64 (rd (rd_L9 x5_2 x6_2) 1), .bool false] ?_; (with_reducible refine (spec_MovesFrom.calls k3 a1_0 _ _ l1_1 _ _ l1_2 (rd (rd_L9 x5_2 x6_2) 1) false t380 _ ?side1 ?side2 ?side3 ?side4 A38.out).mono ?_); (case side1 => exact cb_ HR1_1 HB); (case side2 => exact HC1_1.out); (case side3 => exact cb_ HR1_2 HB); (case side4 => exact HC1_2.out); rintro e w41 ⟨v381, rfl, ho0, hb⟩; refine ⟨_, rfl, ?_⟩; have _ := Aside0.mk (Kd.S_elder' (ps_ HO_5.out) (Kd.R_base ho0) hb); have _ := Aside0.mk (Kd.R_elder' (pr_ HO379.out) (Kd.R_base ho0) hb); have _ := Aside0.mk (Kd.R_lower (Kd.R_new' ho0 (Kd.R_lt (pr_ HO379.out))) (below_size (pb2_ HB.out GE360.out GE361.out))); have _ := Aside0.mk (bb_ BK360.out hb); have _ := Aside0.mk (bb_ BK361.out hb); have _ := Aside0.mk (below_step (pb2_ HB.out GE360.out GE361.out) hb); clear HO_5 HO379 BK360 BK361 HB; rename_i HO_5 HO379 HO382 BK360 BK361 HB; (try clear hb); (try clear hb2); (try clear hk); (try clear hi); (try clear ho0)))
    go_meet
    case rel => exact ⟨_, (t380), H', ⟨by have := HJ2.out; have := HK2.out; have := HK3.out; first | omega | exact Nat.le_refl _⟩, ⟨ps_ (Kd.S_mono HO_5.out (fun _ hk => hk.2))⟩, ⟨pr_ (Kd.R_mono HO382.out (fun _ hk => trivial))⟩, ⟨pk_ BK360.out⟩, ⟨pk_ BK361.out⟩, ⟨pb2_ HB.out GE360.out GE361.out⟩⟩
  clear HC33
  try clear c1
  try clear c2
  try clear p2
  try clear c3
  try clear p3
  try clear q3
  try clear hx3
  try clear qi3
  try clear c5
  try clear c6
  try clear p6
  try clear c7
  try clear c9
  try clear c10
  try clear c14
  try clear c19
  try clear c20
  try clear c25
  try clear c25b0
  try clear c27
  try clear c27b0
  try clear c28
  try clear c28b0
  try clear c28b1
  try clear c29
  try clear c29b0
  try clear c29b1
  try clear c31
  try clear c31b0
  try clear c34
  try clear c37
  try clear c37b0
  try clear c37b1
  try clear p37
  try clear q37
  try clear hx37
  try clear qi37
  try clear c39
  try clear hcz11_0
  try clear hcz11_1
  try clear hcz11_2
  try clear hcz15_0
  try clear hcz15_1
  try clear hcz15_2
  try clear hcz17_0
  try clear hcz17_1
  try clear hcz17_2
  try clear hcz35_0
  try clear hcz35_1
  try clear hcz35_2
  try clear hcz40_0
  try clear hcz40_1
  try clear hcz40_2
  try clear hfz11_0
  try clear hfz11_1
  try clear hfz11_2
  try clear hfz15_0
  try clear hfz15_1
  try clear hfz15_2
  try clear hfz17_0
  try clear hfz17_1
  try clear hfz17_2
  try clear hfz35_0
  try clear hfz35_1
  try clear hfz35_2
  try clear hfz40_0
  try clear hfz40_1
  try clear hfz40_2
  try clear hx373_0
  try clear hx374_0
  try clear hx375_0
  try clear hx376_0
  try clear p2
  try clear p3
  try clear p373
  try clear p374
  try clear p375
  try clear p376
  try clear q3
  try clear q373
  try clear q374
  try clear q375
  try clear q376
  obtain ⟨kq, x10_32, HA, HJ32, HO_5, HO_10, BK360, BK361, HB⟩ := hcut
  rcases kq with _ | kj32
  · exact absurd HA.out (by simp [spec_FollowPairs.j3])
  have H := HA.out
  clear HA
  simp only [spec_FollowPairs.j3] at H
  have H' := Aside0.mk H
  clear H
  go_wp2
  go_loopg [5, 11] kj32 (fun kq v5 v11 w' => ∃ (x5_5 : List (List Int)) (x11_5 : Int), v11 = .int .i64 x11_5 ∧ Aside0 (spec_FollowPairs.l2 kq x5_5 x6_2 (rd (rd_L9 x5_2 x6_2) 0) (rd (rd_L9 x5_2 x6_2) 1) x9_3 x10_32 x11_5 a0_0 l0_1 l0_2 a1_0 l1_1 l1_2 = some r) ∧ Aside0 (kq ≤ kj32) ∧ Aside0 (Kd.S (Kd.slice 3 (Kd.int .i64)) 39 w' w.heap.size (fun k_ => some k_ ≠ (u10 : Value).ownBlock) v5 x5_5) ∧ Aside0 (Kd.R (Kd.int .i64) 3 w' w.heap.size (fun _ => True) u10 x10_32) ∧ Aside0 (w'.heap[gb360]? = some (.cells #[.int .i64 a0_0, (.slice A0_1 l0_1.length c0_1), (.slice A0_2 l0_2.length c0_2)] 34 (0, 0))) ∧ Aside0 (w'.heap[gb361]? = some (.cells #[.int .i64 a1_0, (.slice A1_1 l1_1.length c1_1), (.slice A1_2 l1_2.length c1_2)] 34 (0, 0))) ∧ Aside0 (Below w.heap.size w w'))
  case atStart => exact ⟨(x5_3), (0), el_, H', ⟨Nat.le_refl _⟩, ⟨ps_ HO_5.out⟩, ⟨pr_ HO_10.out⟩, ⟨pk_ BK360.out⟩, ⟨pk_ BK361.out⟩, ⟨pb2_ HB.out GE360.out GE361.out⟩⟩
  clear H'
  try clear c1
  try clear c2
  try clear p2
  try clear c3
  try clear p3
  try clear q3
  try clear hx3
  try clear qi3
  try clear c5
  try clear c6
  try clear p6
  try clear c7
  try clear c9
  try clear c10
  try clear c14
  try clear c19
  try clear c20
  try clear c25
  try clear c25b0
  try clear c27
  try clear c27b0
  try clear c28
  try clear c28b0
  try clear c28b1
  try clear c29
  try clear c29b0
  try clear c29b1
  try clear c31
  try clear c31b0
  try clear c34
  try clear c37
  try clear c37b0
  try clear c37b1
  try clear p37
  try clear q37
  try clear hx37
  try clear qi37
  try clear c39
  try clear hcz11_0
  try clear hcz11_1
  try clear hcz11_2
  try clear hcz15_0
  try clear hcz15_1
  try clear hcz15_2
  try clear hcz17_0
  try clear hcz17_1
  try clear hcz17_2
  try clear hcz35_0
  try clear hcz35_1
  try clear hcz35_2
  try clear hcz40_0
  try clear hcz40_1
  try clear hcz40_2
  try clear hfz11_0
  try clear hfz11_1
  try clear hfz11_2
  try clear hfz15_0
  try clear hfz15_1
  try clear hfz15_2
  try clear hfz17_0
  try clear hfz17_1
  try clear hfz17_2
  try clear hfz35_0
  try clear hfz35_1
  try clear hfz35_2
  try clear hfz40_0
  try clear hfz40_1
  try clear hfz40_2
  try clear hx373_0
  try clear hx374_0
  try clear hx375_0
  try clear hx376_0
  try clear p2
  try clear p3
  try clear p37
  try clear p373
  try clear p374
  try clear p375
  try clear p376
  try clear p6
  try clear q3
  try clear q37
  try clear q373
  try clear q374
  try clear q375
  try clear q376
  obtain ⟨x5_5, x11_5, rfl, HA, HK5, HO_5, HO_10, BK360, BK361, HB⟩ := hrel
  rcases gk with _ | k5
  · exact absurd HA.out (by simp [spec_FollowPairs.l2])
  have H := HA.out
  clear HA
  simp only [spec_FollowPairs.l2] at H
  by_cases c42 : x11_5 < (x10_32.length : Int)
  rotate_left
  · rw [if_neg c42] at H
    have c42b0 : decide (x11_5 < (x10_32.length : Int)) = false := decide_eq_false c42
    clear c42
    have H' := Aside0.mk H
    clear H
    obtain ⟨Ao43, co43, eo43⟩ := Kd.R_slice HO_10.out
    subst eo43
    go_wp2
    go_roundg k5
    case measure => have := HJ2.out; have := HK2.out; have := HK3.out; have := HJ32.out; have := HK5.out; omega
    case rel => exact ⟨(x5_5), (wrap64 (x9_3 - 1)), el_, H', ⟨by have := HJ2.out; have := HK2.out; have := HK3.out; have := HJ32.out; have := HK5.out; omega⟩, ⟨ps_ (Kd.S_mono HO_5.out (fun _ hk => trivial))⟩, ⟨pk_ BK360.out⟩, ⟨pk_ BK361.out⟩, ⟨pb2_ HB.out GE360.out GE361.out⟩⟩
  rw [if_pos c42] at H
  have c42b0 : decide (x11_5 < (x10_32.length : Int)) = true := decide_eq_true c42
  clear c42
  by_cases c44 : 0 ≤ x11_5
  rotate_left
  · rw [if_neg c44] at H
    exact absurd H (by simp)
  rw [if_pos c44] at H
  have c44b0 : decide (0 ≤ x11_5) = true := decide_eq_true c44
  clear c44
  replace H := Option.bind_eq_some_iff.mp H
  obtain ⟨t384, A450, H⟩ := H
  (try dsimp only at H)
  have A45 := Aside0.mk A450
  clear A450
  replace H := Option.bind_eq_some_iff.mp H
  obtain ⟨t386, A460, H⟩ := H
  (try dsimp only at H)
  have A46 := Aside0.mk A460
  clear A460
  have HC47 := Aside0.mk H
  clear H
  obtain ⟨Ao48, co48, eo48⟩ := Kd.R_slice HO_10.out
  subst eo48
  try go_wp2
  have _ := Aside0.mk (Kd.S_drew HO_5.out)
  have _ := Aside0.mk (Kd.R_drew HO_10.out)
  have _ := Aside0.mk (blk_drew BK360.out)
  have _ := Aside0.mk (blk_drew BK361.out)
  have _ := Aside0.mk (below_drew1 HB.out)
  clear HO_5 HO_10 BK360 BK361 HB
  rename_i HO_5 HO_10 BK360 BK361 HB
  have p383 : 0 ≤ (x11_5 : Int) := dt_
  have q383 : x11_5 < (x10_32.length : Int) := dt_
  obtain ⟨ad383, e383, hx383_0⟩ := Kd.at_int (Kd.R_reads' HO_10.out).2.2 x11_5 p383 q383
  cases e383
  replace p383 := eq_true p383
  replace q383 := eq_true q383
  refine start_ (n := 10) (S := fun w' => w'.cell? ⟨gb360, 0, none⟩ = some (.int .i64 a0_0) ∧ w'.cell? ⟨gb360, 1, none⟩ = some (.slice A0_1 l0_1.length c0_1) ∧ w'.cell? ⟨gb360, 2, none⟩ = some (.slice A0_2 l0_2.length c0_2) ∧ w'.cell? (ad383.add (x11_5).toNat) = some (.int .i64 (rd x10_32 x11_5))) (ds := []) (tf_ 0 10) (by kernel_rfl) rfl rfl ⟨(blk_cell BK360.out 0).trans rfl, (blk_cell BK360.out 1).trans rfl, (blk_cell BK360.out 2).trans rfl, hx383_0⟩ (fun hHeld => ?_); refine with_tabW spec_FollowPairs.tab19 spec_FollowPairs.bits19 (fun HT_ HW_ => ?_)
  generalize wr.drew = w49 at HO_5 HO_10 BK360 BK361 HB hx383_0 hHeld ⊢
  refine pu_ 1 (some 66) (tm_ 10 2) HT_ ?_
  refine pu_ 2 (some 67) (tm_ 10 6) HT_ ?_
  refine pu_ 3 (some 68) (tm_ 10 14) HT_ ?_
  refine pu_ 4 (some 69) (tm_ 10 30) HT_ ?_
  refine pu_ 5 (some 70) (tm_ 10 62) HT_ ?_
  refine pu_ 6 (some 71) (tm_ 10 126) HT_ ?_
  refine ta_ 0 (some 65) (tf_ 7 10) HT_ HW_ hHeld ?_
  refine ta_ 7 (some 72) (tf_ 8 10) HT_ HW_ hHeld ?_
  refine on_ 8 (some 73) (tf_ 9 10) HT_ (fun K hK => ?_)
  refine goes_ Try.func68 (by kernel_rfl) rfl #[.agg #[.int .i64 a0_0, .slice A0_1 l0_1.length c0_1, .slice A0_2 l0_2.length c0_2], .int .i64 (rd (rd_L9 x5_2 x6_2) 0), .bool (x9_3 == 1), .int .i64 (rd x10_32 x11_5)] (by rfl) rfl rfl mp_ ?_
  with_reducible refine (spec_MoveOf.calls k5 a0_0 _ _ l0_1 _ _ l0_2 (rd (rd_L9 x5_2 x6_2) 0) (x9_3 == 1) (rd x10_32 x11_5) t384 _ ?side1 ?side2 ?side3 ?side4 A45.out).mono ?_
  (case side1 => exact cb_ HR0_1 HB)
  (case side2 => exact HC0_1.out)
  (case side3 => exact cb_ HR0_2 HB)
  (case side4 => exact HC0_2.out)
  rintro e w50 ⟨rfl, hb⟩
  have HS3_ := (hb.cell (World.block_lt_of_cell? _ _ (hHeld.2.2.2))).trans (hHeld.2.2.2)
  refine ⟨_, rfl, ?_⟩
  have _ := Aside0.mk (Kd.S_below (ps_ HO_5.out) hb)
  have _ := Aside0.mk (Kd.R_below (pr_ HO_10.out) hb)
  have _ := Aside0.mk (bb_ BK360.out hb)
  have _ := Aside0.mk (bb_ BK361.out hb)
  have _ := Aside0.mk (below_step (pb2_ HB.out GE360.out GE361.out) hb)
  clear HO_5 HO_10 BK360 BK361 HB
  rename_i HO_5 HO_10 BK360 BK361 HB
  (try clear hb)
  (try clear hb2)
  (try clear hk)
  (try clear hi)
  refine hK.out _ _ ⟨(blk_cell BK360.out 0).trans rfl, (blk_cell BK360.out 1).trans rfl, (blk_cell BK360.out 2).trans rfl, HS3_⟩ (fun hHeld => ?_)
  clear hK K
  refine no_ (some 73) ?_
  refine pu_ 9 (some 12) (tf_ 10 10) HT_ ?_
  refine done_ (done_of HT_.out (by kernel_rfl)) ?_
  try go_wp2
  have _ := Aside0.mk (Kd.S_drew HO_5.out)
  have _ := Aside0.mk (Kd.R_drew HO_10.out)
  have _ := Aside0.mk (blk_drew BK360.out)
  have _ := Aside0.mk (blk_drew BK361.out)
  have _ := Aside0.mk (below_drew1 HB.out)
  clear HO_5 HO_10 BK360 BK361 HB
  rename_i HO_5 HO_10 BK360 BK361 HB
  have p385 : 0 ≤ (x11_5 : Int) := dt_
  have q385 : x11_5 < (x10_32.length : Int) := dt_
  obtain ⟨ad385, e385, hx385_0⟩ := Kd.at_int (Kd.R_reads' HO_10.out).2.2 x11_5 p385 q385
  obtain rfl : ad383 = ad385 := (by injection e385)
  replace p385 := eq_true p385
  replace q385 := eq_true q385
  refine start_ (n := 10) (S := fun w' => w'.cell? ⟨gb361, 0, none⟩ = some (.int .i64 a1_0) ∧ w'.cell? ⟨gb361, 1, none⟩ = some (.slice A1_1 l1_1.length c1_1) ∧ w'.cell? ⟨gb361, 2, none⟩ = some (.slice A1_2 l1_2.length c1_2) ∧ w'.cell? (ad383.add (x11_5).toNat) = some (.int .i64 (rd x10_32 x11_5))) (ds := []) (tf_ 0 10) (by kernel_rfl) rfl rfl ⟨(blk_cell BK361.out 0).trans rfl, (blk_cell BK361.out 1).trans rfl, (blk_cell BK361.out 2).trans rfl, hx385_0⟩ (fun hHeld => ?_); refine with_tabW spec_FollowPairs.tab20 spec_FollowPairs.bits20 (fun HT_ HW_ => ?_)
  generalize w50.drew = w51 at HO_5 HO_10 BK360 BK361 HB hx385_0 hHeld ⊢
  refine pu_ 1 (some 75) (tm_ 10 2) HT_ ?_
  refine pu_ 2 (some 76) (tm_ 10 6) HT_ ?_
  refine pu_ 3 (some 77) (tm_ 10 14) HT_ ?_
  refine pu_ 4 (some 78) (tm_ 10 30) HT_ ?_
  refine pu_ 5 (some 79) (tm_ 10 62) HT_ ?_
  refine pu_ 6 (some 80) (tm_ 10 126) HT_ ?_
  refine ta_ 0 (some 74) (tf_ 7 10) HT_ HW_ hHeld ?_
  refine ta_ 7 (some 81) (tf_ 8 10) HT_ HW_ hHeld ?_
  refine on_ 8 (some 82) (tf_ 9 10) HT_ (fun K hK => ?_)
  refine goes_ Try.func68 (by kernel_rfl) rfl #[.agg #[.int .i64 a1_0, .slice A1_1 l1_1.length c1_1, .slice A1_2 l1_2.length c1_2], .int .i64 (rd (rd_L9 x5_2 x6_2) 1), .bool (x9_3 == 1), .int .i64 (rd x10_32 x11_5)] (by rfl) rfl rfl mp_ ?_
  with_reducible refine (spec_MoveOf.calls k5 a1_0 _ _ l1_1 _ _ l1_2 (rd (rd_L9 x5_2 x6_2) 1) (x9_3 == 1) (rd x10_32 x11_5) t386 _ ?side1 ?side2 ?side3 ?side4 A46.out).mono ?_
  (case side1 => exact cb_ HR1_1 HB)
  (case side2 => exact HC1_1.out)
  (case side3 => exact cb_ HR1_2 HB)
  (case side4 => exact HC1_2.out)
  rintro e w52 ⟨rfl, hb⟩
  have HS3_ := (hb.cell (World.block_lt_of_cell? _ _ (hHeld.2.2.2))).trans (hHeld.2.2.2)
  refine ⟨_, rfl, ?_⟩
  have _ := Aside0.mk (Kd.S_below (ps_ HO_5.out) hb)
  have _ := Aside0.mk (Kd.R_below (pr_ HO_10.out) hb)
  have _ := Aside0.mk (bb_ BK360.out hb)
  have _ := Aside0.mk (bb_ BK361.out hb)
  have _ := Aside0.mk (below_step (pb2_ HB.out GE360.out GE361.out) hb)
  clear HO_5 HO_10 BK360 BK361 HB
  rename_i HO_5 HO_10 BK360 BK361 HB
  (try clear hb)
  (try clear hb2)
  (try clear hk)
  (try clear hi)
  refine hK.out _ _ ⟨(blk_cell BK361.out 0).trans rfl, (blk_cell BK361.out 1).trans rfl, (blk_cell BK361.out 2).trans rfl, HS3_⟩ (fun hHeld => ?_)
  clear hK K
  refine no_ (some 82) ?_
  refine pu_ 9 (some 13) (tf_ 10 10) HT_ ?_
  refine done_ (done_of HT_.out (by kernel_rfl)) ?_
  go_upto_region 21 with (fail)
  go_cut [88] (fun v88 wc => ∃ (kq : Nat) (x88_46 : Bool), v88 = .bool x88_46 ∧ Aside0 (spec_FollowPairs.j5 kq x5_5 x6_2 (rd (rd_L9 x5_2 x6_2) 0) (rd (rd_L9 x5_2 x6_2) 1) x9_3 x10_32 x11_5 t384 t386 x88_46 a0_0 l0_1 l0_2 a1_0 l1_1 l1_2 = some r) ∧ Aside0 (kq ≤ k5) ∧ Aside0 (Kd.S (Kd.slice 3 (Kd.int .i64)) 39 wc w.heap.size (fun k_ => some k_ ≠ ((.slice (some ad383) x10_32.length co48) : Value).ownBlock) u5 x5_5) ∧ Aside0 (Kd.R (Kd.int .i64) 3 wc w.heap.size (fun _ => True) (.slice (some ad383) x10_32.length co48) x10_32) ∧ Aside0 (wc.heap[gb360]? = some (.cells #[.int .i64 a0_0, (.slice A0_1 l0_1.length c0_1), (.slice A0_2 l0_2.length c0_2)] 34 (0, 0))) ∧ Aside0 (wc.heap[gb361]? = some (.cells #[.int .i64 a1_0, (.slice A1_1 l1_1.length c1_1), (.slice A1_2 l1_2.length c1_2)] 34 (0, 0))) ∧ Aside0 (Below w.heap.size w wc))
  case first =>
    have H := HC47.out
    clear HC47
    by_cases c53 : t384 < 0
    rotate_left
    · rw [if_neg c53] at H
      have c53b0 : decide (t384 < 0) = false := decide_eq_false c53
      clear c53
      (first | rw [c53b0] | (simp only [i64_w, i32_w]; rw [c53b0]) | skip)
      have H' := Aside0.mk H
      clear H
      go_wp2
      go_meet
      case rel => exact ⟨_, (decide (t386 < 0)), el_, H', ⟨by have := HJ2.out; have := HK2.out; have := HK3.out; have := HJ32.out; have := HK5.out; first | omega | exact Nat.le_refl _⟩, ⟨ps_ HO_5.out⟩, ⟨pr_ HO_10.out⟩, ⟨pk_ BK360.out⟩, ⟨pk_ BK361.out⟩, ⟨pb2_ HB.out GE360.out GE361.out⟩⟩
    rw [if_pos c53] at H
    have c53b0 : decide (t384 < 0) = true := decide_eq_true c53
    clear c53
    (first | rw [c53b0] | (simp only [i64_w, i32_w]; rw [c53b0]) | skip)
    have H' := Aside0.mk H
    clear H
    go_wp2
    go_meet
    case rel => exact ⟨_, (true), el_, H', ⟨by have := HJ2.out; have := HK2.out; have := HK3.out; have := HJ32.out; have := HK5.out; first | omega | exact Nat.le_refl _⟩, ⟨ps_ HO_5.out⟩, ⟨pr_ HO_10.out⟩, ⟨pk_ BK360.out⟩, ⟨pk_ BK361.out⟩, ⟨pb2_ HB.out GE360.out GE361.out⟩⟩
  clear HC47
  try clear c1
  try clear c2
  try clear p2
  try clear c3
  try clear p3
  try clear q3
  try clear hx3
  try clear qi3
  try clear c4
  try clear c5
  try clear c6
  try clear p6
  try clear c7
  try clear c9
  try clear c10
  try clear c14
  try clear c19
  try clear c20
  try clear c25
  try clear c25b0
  try clear c27
  try clear c27b0
  try clear c28
  try clear c28b0
  try clear c28b1
  try clear c29
  try clear c29b0
  try clear c29b1
  try clear c31
  try clear c31b0
  try clear c34
  try clear c37
  try clear c37b0
  try clear c37b1
  try clear p37
  try clear q37
  try clear hx37
  try clear qi37
  try clear p38
  try clear q38
  try clear hx38
  try clear c39
  try clear c42
  try clear c42b0
  try clear c44
  try clear c44b0
  try clear c53
  try clear c53b0
  try clear hcz11_0
  try clear hcz11_1
  try clear hcz11_2
  try clear hcz15_0
  try clear hcz15_1
  try clear hcz15_2
  try clear hcz17_0
  try clear hcz17_1
  try clear hcz17_2
  try clear hcz35_0
  try clear hcz35_1
  try clear hcz35_2
  try clear hcz40_0
  try clear hcz40_1
  try clear hcz40_2
  try clear hfz11_0
  try clear hfz11_1
  try clear hfz11_2
  try clear hfz15_0
  try clear hfz15_1
  try clear hfz15_2
  try clear hfz17_0
  try clear hfz17_1
  try clear hfz17_2
  try clear hfz35_0
  try clear hfz35_1
  try clear hfz35_2
  try clear hfz40_0
  try clear hfz40_1
  try clear hfz40_2
  try clear hx373_0
  try clear hx374_0
  try clear hx375_0
  try clear hx376_0
  try clear hx383_0
  try clear hx385_0
  try clear p2
  try clear p3
  try clear p37
  try clear p373
  try clear p374
  try clear p375
  try clear p376
  try clear p383
  try clear p385
  try clear p6
  try clear q3
  try clear q37
  try clear q373
  try clear q374
  try clear q375
  try clear q376
  try clear q383
  try clear q385
  obtain ⟨kq, x88_46, rfl, HA, HJ46, HO_5, HO_10, BK360, BK361, HB⟩ := hcut
  rcases kq with _ | kj46
  · exact absurd HA.out (by simp [spec_FollowPairs.j5])
  have H := HA.out
  clear HA
  simp only [spec_FollowPairs.j5] at H
  by_cases c54 : x88_46 = true
  · subst c54
    rw [if_pos rfl] at H
    have H' := Aside0.mk H
    clear H
    go_wp2
    go_roundg kj46
    case measure => have := HJ2.out; have := HK2.out; have := HK3.out; have := HJ32.out; have := HK5.out; have := HJ46.out; omega
    case rel => exact ⟨(x5_5), (wrap64 (x11_5 + 1)), el_, H', ⟨by have := HJ2.out; have := HK2.out; have := HK3.out; have := HJ32.out; have := HK5.out; have := HJ46.out; omega⟩, ⟨ps_ HO_5.out⟩, ⟨pr_ HO_10.out⟩, ⟨pk_ BK360.out⟩, ⟨pk_ BK361.out⟩, ⟨pb2_ HB.out GE360.out GE361.out⟩⟩
  replace c54 := Bool.eq_false_iff.mpr c54
  subst c54
  rw [if_neg (show ¬ (false = true) by decide)] at H
  by_cases c55 : 0 ≤ t384
  rotate_left
  · rw [if_neg c55] at H
    exact absurd H (by simp)
  rw [if_pos c55] at H
  have c55b0 : decide (0 ≤ t384) = true := decide_eq_true c55
  clear c55
  by_cases c56 : t384 < (l0_2.length : Int)
  rotate_left
  · rw [if_neg c56] at H
    exact absurd H (by simp)
  rw [if_pos c56] at H
  have c56b0 : decide (t384 < (l0_2.length : Int)) = true := decide_eq_true c56
  clear c56
  by_cases c57 : 0 ≤ t386
  rotate_left
  · rw [if_neg c57] at H
    exact absurd H (by simp)
  rw [if_pos c57] at H
  have c57b0 : decide (0 ≤ t386) = true := decide_eq_true c57
  clear c57
  by_cases c58 : t386 < (l1_2.length : Int)
  rotate_left
  · rw [if_neg c58] at H
    exact absurd H (by simp)
  rw [if_pos c58] at H
  have c58b0 : decide (t386 < (l1_2.length : Int)) = true := decide_eq_true c58
  clear c58
  obtain ⟨y389, hy389⟩ : ∃ y_ : List Int, y_ = (([(rd_T78 l0_2 t384).f3, (rd_T78 l1_2 t386).f3] : List Int)) := ⟨_, rfl⟩
  replace H : ((spec_l14Has.f kj46 x5_5 y389).bind fun t392 => (if t392 = true then (spec_FollowPairs.l2 kj46 x5_5 x6_2 (rd (rd_L9 x5_2 x6_2) 0) (rd (rd_L9 x5_2 x6_2) 1) x9_3 x10_32 (wrap64 (x11_5 + 1)) a0_0 l0_1 l0_2 a1_0 l1_1 l1_2) else (if x5_5.length < 5864062014805 then (spec_FollowPairs.l2 kj46 (x5_5 ++ [y389]) x6_2 (rd (rd_L9 x5_2 x6_2) 0) (rd (rd_L9 x5_2 x6_2) 1) x9_3 x10_32 (wrap64 (x11_5 + 1)) a0_0 l0_1 l0_2 a1_0 l1_1 l1_2) else (none)))) = some r := by first | (rw [hy389]; with_reducible exact H) | (have H2_ := (Option.bind_some _ _).symm.trans H; rw [hy389]; with_reducible exact H2_) | (have H2_ := (Option.bind_some _ _).symm.trans H; with_reducible exact H2_) | with_reducible exact H | (rw [hy389]; exact H) | exact H
  have Ny389 := Aside0.mk hy389
  clear hy389
  have HS_ := Aside0.mk H
  clear H
  try go_wp2
  have _ := Aside0.mk (Kd.S_drew HO_5.out)
  have _ := Aside0.mk (Kd.R_drew HO_10.out)
  have _ := Aside0.mk (blk_drew BK360.out)
  have _ := Aside0.mk (blk_drew BK361.out)
  have _ := Aside0.mk (below_drew1 HB.out)
  clear HO_5 HO_10 BK360 BK361 HB
  rename_i HO_5 HO_10 BK360 BK361 HB
  have p387 : 0 ≤ (t384 : Int) := dt_
  have q387 : t384 < (l0_2.length : Int) := dt_
  obtain ⟨ad387, e387, hx387_0, hx387_1, hx387_2, hx387_3⟩ := at_T78 HR0_2.out t384 p387 q387
  have hw387_3 := hx387_3
  have hw387_2 := hx387_2
  have hw387_1 := hx387_1
  have hw387_0 := hx387_0
  cases e387
  replace hx387_0 := bt_ HB hx387_0
  replace hx387_1 := bt_ HB hx387_1
  replace hx387_2 := bt_ HB hx387_2
  replace hx387_3 := bt_ HB hx387_3
  replace p387 := eq_true p387
  replace q387 := eq_true q387
  have p388 : 0 ≤ (t386 : Int) := dt_
  have q388 : t386 < (l1_2.length : Int) := dt_
  obtain ⟨ad388, e388, hx388_0, hx388_1, hx388_2, hx388_3⟩ := at_T78 HR1_2.out t386 p388 q388
  have hw388_3 := hx388_3
  have hw388_2 := hx388_2
  have hw388_1 := hx388_1
  have hw388_0 := hx388_0
  cases e388
  replace hx388_0 := bt_ HB hx388_0
  replace hx388_1 := bt_ HB hx388_1
  replace hx388_2 := bt_ HB hx388_2
  replace hx388_3 := bt_ HB hx388_3
  replace p388 := eq_true p388
  replace q388 := eq_true q388
  refine start_ (n := 14) (S := fun w' => w'.cell? ⟨gb360, 0, none⟩ = some (.int .i64 a0_0) ∧ w'.cell? ⟨gb360, 1, none⟩ = some (.slice A0_1 l0_1.length c0_1) ∧ w'.cell? ⟨gb360, 2, none⟩ = some (.slice (some ad387) l0_2.length c0_2) ∧ w'.cell? ⟨gb361, 0, none⟩ = some (.int .i64 a1_0) ∧ w'.cell? ⟨gb361, 1, none⟩ = some (.slice A1_1 l1_1.length c1_1) ∧ w'.cell? ⟨gb361, 2, none⟩ = some (.slice (some ad388) l1_2.length c1_2) ∧ w'.cell? (ad387.add ((t384).toNat * 4)) = some (.int .i64 ((rd_T78 l0_2 t384).f0)) ∧ w'.cell? ⟨(ad387.add ((t384).toNat * 4)).block, (ad387.add ((t384).toNat * 4)).off + 1, none⟩ = some (.bool ((rd_T78 l0_2 t384).f1)) ∧ w'.cell? ⟨(ad387.add ((t384).toNat * 4)).block, (ad387.add ((t384).toNat * 4)).off + 2, none⟩ = some (.int .i64 ((rd_T78 l0_2 t384).f2)) ∧ w'.cell? ⟨(ad387.add ((t384).toNat * 4)).block, (ad387.add ((t384).toNat * 4)).off + 3, none⟩ = some (.int .i64 ((rd_T78 l0_2 t384).f3)) ∧ w'.cell? (ad388.add ((t386).toNat * 4)) = some (.int .i64 ((rd_T78 l1_2 t386).f0)) ∧ w'.cell? ⟨(ad388.add ((t386).toNat * 4)).block, (ad388.add ((t386).toNat * 4)).off + 1, none⟩ = some (.bool ((rd_T78 l1_2 t386).f1)) ∧ w'.cell? ⟨(ad388.add ((t386).toNat * 4)).block, (ad388.add ((t386).toNat * 4)).off + 2, none⟩ = some (.int .i64 ((rd_T78 l1_2 t386).f2)) ∧ w'.cell? ⟨(ad388.add ((t386).toNat * 4)).block, (ad388.add ((t386).toNat * 4)).off + 3, none⟩ = some (.int .i64 ((rd_T78 l1_2 t386).f3))) (ds := []) (tf_ 0 14) (by kernel_rfl) rfl rfl ⟨(blk_cell BK360.out 0).trans rfl, (blk_cell BK360.out 1).trans rfl, (blk_cell BK360.out 2).trans rfl, (blk_cell BK361.out 0).trans rfl, (blk_cell BK361.out 1).trans rfl, (blk_cell BK361.out 2).trans rfl, (bt_ HB hw387_0), (bt_ HB hw387_1), (bt_ HB hw387_2), (bt_ HB hw387_3), (bt_ HB hw388_0), (bt_ HB hw388_1), (bt_ HB hw388_2), (bt_ HB hw388_3)⟩ (fun hHeld => ?_); refine with_tabW spec_FollowPairs.tab22 spec_FollowPairs.bits22 (fun HT_ HW_ => ?_)
  generalize wc.drew = w59 at HO_5 HO_10 BK360 BK361 HB hx387_0 hx387_1 hx387_2 hx387_3 hx388_0 hx388_1 hx388_2 hx388_3 hHeld ⊢
  refine pu_ 0 (some 89) (tf_ 1 14) HT_ ?_
  refine pu_ 2 (some 91) (tm_ 14 5) HT_ ?_
  refine pu_ 6 (some 95) (tm_ 14 69) HT_ ?_
  refine pu_ 8 (some 97) (tm_ 14 325) HT_ ?_
  refine ta_ 1 (some 90) (tm_ 14 327) HT_ HW_ hHeld ?_
  refine pu_ 3 (some 92) (tm_ 14 335) HT_ ?_
  refine pu_ 4 (some 93) (tm_ 14 351) HT_ ?_
  refine ta_ 5 (some 94) (tm_ 14 383) HT_ HW_ hHeld ?_
  refine ta_ 7 (some 96) (tf_ 9 14) HT_ HW_ hHeld ?_
  refine pu_ 9 (some 98) (tf_ 10 14) HT_ ?_
  refine pu_ 10 (some 99) (tf_ 11 14) HT_ ?_
  refine ta_ 11 (some 100) (tf_ 12 14) HT_ HW_ hHeld ?_
  refine on_ 12 (some 101) (tf_ 13 14) HT_ (fun K hK => ?_)
  refine Kd.R_lit_step (Kd.int .i64) _ 3 ?hg (N := 101) ?hd (xs := ([(rd_T78 l0_2 t384).f3, (rd_T78 l1_2 t386).f3] : List Int)) (inner := [.int .i64 ((rd_T78 l0_2 t384).f3), .int .i64 ((rd_T78 l1_2 t386).f3)]) (ok := fun _ => True) (okp := fun _ => True) ?hr ?hp (fun _ hk => hk) trivial (Below.refl _ _) (Nat.le_refl _) (by simp) ?_; (case hd => rfl); (case hg => rfl); (case hr => first | (go_simp; done) | (go_simp; rfl)); (case hp => exact (Reps.one (show Kd.M (Kd.int .i64) _ _ _ ((rd_T78 l0_2 t384).f3) [.int .i64 ((rd_T78 l0_2 t384).f3)] from rfl) (Reps.one (show Kd.M (Kd.int .i64) _ _ _ ((rd_T78 l1_2 t386).f3) [.int .i64 ((rd_T78 l1_2 t386).f3)] from rfl) (Reps.none _ _))))
  intro v390 w60 ho61 hb hg_ hnew_
  clear hg_ hnew_
  (first | rw [← Ny389.out] at ho61 | (simp only [Int.reduceToNat] at ho61; rw [← Ny389.out] at ho61))
  have _ := Aside0.mk (Kd.S_elder' (ps_ HO_5.out) (Kd.R_base ho61) hb)
  have _ := Aside0.mk (Kd.R_elder' (pr_ HO_10.out) (Kd.R_base ho61) hb)
  have _ := Aside0.mk (Kd.R_lower (Kd.R_new' ho61 (Kd.R_lt (pr_ HO_10.out))) (below_size (pb2_ HB.out GE360.out GE361.out)))
  have _ := Aside0.mk (bb_ BK360.out hb)
  have _ := Aside0.mk (bb_ BK361.out hb)
  have _ := Aside0.mk (below_step (pb2_ HB.out GE360.out GE361.out) hb)
  clear HO_5 HO_10 BK360 BK361 HB
  rename_i HO_5 HO_10 HO391 BK360 BK361 HB
  clear hb ho61
  refine hK.out _ _ ⟨(blk_cell BK360.out 0).trans rfl, (blk_cell BK360.out 1).trans rfl, (blk_cell BK360.out 2).trans rfl, (blk_cell BK361.out 0).trans rfl, (blk_cell BK361.out 1).trans rfl, (blk_cell BK361.out 2).trans rfl, (bt_ HB hw387_0), (bt_ HB hw387_1), (bt_ HB hw387_2), (bt_ HB hw387_3), (bt_ HB hw388_0), (bt_ HB hw388_1), (bt_ HB hw388_2), (bt_ HB hw388_3)⟩ (fun hHeld => ?_)
  clear hK K
  refine no_ (some 101) ?_
  refine pu_ 13 (some 14) (tf_ 14 14) HT_ ?_
  refine done_ (done_of HT_.out (by kernel_rfl)) ?_
  go_upto_region 23 with (fail)
  have H := HS_.out
  clear HS_
  replace H := Option.bind_eq_some_iff.mp H
  obtain ⟨t392, A620, H⟩ := H
  (try dsimp only at H)
  have A62 := Aside0.mk A620
  clear A620
  have HS_ := Aside0.mk H
  clear H
  obtain ⟨Ao63, co63, eo63⟩ := Kd.S_slice HO_5.out
  subst eo63
  obtain ⟨Ao64, co64, eo64⟩ := Kd.R_slice HO391.out
  subst eo64
  go_upto_if 105 with (first | ((with_reducible refine gate_callee (f := 75) rfl ?_); refine gl_ (some 104) Try.func75 #[.slice Ao63 x5_5.length co63, .slice Ao64 y389.length co64] ?_; (with_reducible refine (spec_l14Has.calls kj46 _ _ x5_5 _ _ y389 t392 _ ?side1 ?side2 ?side3 ?side4 A62.out).mono ?_); (case side1 => exact pc_ ((Kd.S_reads' HO_5.out).2.2)); (case side2 => exact (Kd.S_reads' HO_5.out).2.1); (case side3 => exact pc_ ((Kd.R_reads' HO391.out).2.2)); (case side4 => exact (Kd.R_reads' HO391.out).2.1); rintro e w' ⟨rfl, ⟨nd, rfl⟩⟩; refine ⟨_, rfl, ?_⟩))
  (try simp only [Act.put, List.setIfInBounds_toArray, List.set_cons_zero, List.set_cons_succ])
  have H := HS_.out
  clear HS_
  by_cases c65 : t392 = true
  · subst c65
    rw [if_pos rfl] at H
    have H' := Aside0.mk H
    clear H
    go_wp2
    go_roundg kj46
    case measure => have := HJ2.out; have := HK2.out; have := HK3.out; have := HJ32.out; have := HK5.out; have := HJ46.out; omega
    case rel => exact ⟨(x5_5), (wrap64 (x11_5 + 1)), el_, H', ⟨by have := HJ2.out; have := HK2.out; have := HK3.out; have := HJ32.out; have := HK5.out; have := HJ46.out; omega⟩, ⟨ps_ (Kd.S_mono HO_5.out (fun _ hk => hk.1))⟩, ⟨pr_ (Kd.R_mono HO_10.out (fun _ hk => trivial))⟩, ⟨pk_ BK360.out⟩, ⟨pk_ BK361.out⟩, ⟨pb2_ HB.out GE360.out GE361.out⟩⟩
  replace c65 := Bool.eq_false_iff.mpr c65
  subst c65
  rw [if_neg (show ¬ (false = true) by decide)] at H
  by_cases c66 : x5_5.length < 5864062014805
  rotate_left
  · rw [if_neg c66] at H
    exact absurd H (by simp)
  rw [if_pos c66] at H
  have LMc66 := Aside0.mk c66
  clear c66
  obtain ⟨y393, hy393⟩ : ∃ y_ : List (List Int), y_ = (x5_5 ++ [y389]) := ⟨_, rfl⟩
  replace H : (spec_FollowPairs.l2 kj46 y393 x6_2 (rd (rd_L9 x5_2 x6_2) 0) (rd (rd_L9 x5_2 x6_2) 1) x9_3 x10_32 (wrap64 (x11_5 + 1)) a0_0 l0_1 l0_2 a1_0 l1_1 l1_2) = some r := by first | (rw [hy393]; with_reducible exact H) | (have H2_ := (Option.bind_some _ _).symm.trans H; rw [hy393]; with_reducible exact H2_) | (have H2_ := (Option.bind_some _ _).symm.trans H; with_reducible exact H2_) | with_reducible exact H | (rw [hy393]; exact H) | exact H
  have Ny393 := Aside0.mk hy393
  clear hy393
  have H' := Aside0.mk H
  clear H
  go_wp2_with (first | ((with_reducible refine gate_builtin (b := .append) (xs := #[.tmp 106, .tmp 108]) rfl ?_); at_builtin; refine Kd.S_append (Kd.slice 3 (Kd.int .i64)) (w0 := w) w.heap.size rfl (.tmp 106) (.tmp 108) 83 39 (.slice none 0 0) 24 rfl Try.underlying83 info39 rfl (by decide) (by omega) (.slice Ao63 x5_5.length co63) x5_5 y389 [.slice Ao64 y389.length co64] (fun k_ => some k_ ≠ (.slice (some ad383) x10_32.length co48 : Value).ownBlock) (fun k_ => some k_ = (.slice Ao64 y389.length co64 : Value).ownBlock) rfl rfl ?aP (fun k_ hk_ => ((Kd.R_mono (ok' := fun k_ => ((fun k_ => some k_ ≠ (.slice (some ad383) x10_32.length co48 : Value).ownBlock)) k_ ∧ some k_ ≠ (.slice Ao63 x5_5.length co63 : Value).ownBlock) (Kd.R_apart' (HO391.out) (Kd.S_typed HO_5.out) (by decide)) (fun k_ hk => ⟨hk.1.2, hk.2⟩))).1 k_ hk_.symm) ?aF ?aO ?aB ?aS ?aL ?_; (case aP => exact Kd.M_row (Kd.R_mono (Kd.R_tight rfl (Kd.R_mono (ok' := fun k_ => ((fun k_ => some k_ ≠ (.slice (some ad383) x10_32.length co48 : Value).ownBlock)) k_ ∧ some k_ ≠ (.slice Ao63 x5_5.length co63 : Value).ownBlock) (Kd.R_apart' (HO391.out) (Kd.S_typed HO_5.out) (by decide)) (fun k_ hk => ⟨hk.1.2, hk.2⟩))) (fun _ h_ => h_))); (case aB => exact (pb2_ HB.out GE360.out GE361.out)); (case aF => exact (fun k_ hk => Kd.fresh' (Kd.R_lt (pr_ HO_10.out)) k_ hk)); (case aO => exact (by (with_reducible repeat (first | apply Kd.S_alloc | apply Kd.S_drewN | apply Kd.S_drew)); exact Kd.S_mono HO_5.out (fun k_ hk => ⟨hk.1, fun e_ => hk.2 e_⟩))); (case aS => exact (below_size (pb2_ HB.out GE360.out GE361.out))); (case aL => have := LMc66.out; omega); intro v394 w67 ho hb hg hat; rw [← Ny393.out] at ho; have _ := Aside0.mk (Kd.R_over' (pr_ HO_10.out) (Kd.S_typed (ps_ HO_5.out)) (by decide) hg); have _ := Aside0.mk (blk_grown (g := gb360) (o := .cells #[.int .i64 a0_0, .slice A0_1 l0_1.length c0_1, .slice (some ad387) l0_2.length c0_2] 34 (0, 0)) (pk_ BK360.out) hg (Kd.S_ne HO_5.out BK360.out (by decide))); have _ := Aside0.mk (blk_grown (g := gb361) (o := .cells #[.int .i64 a1_0, .slice A1_1 l1_1.length c1_1, .slice (some ad388) l1_2.length c1_2] 34 (0, 0)) (pk_ BK361.out) hg (Kd.S_ne HO_5.out BK361.out (by decide))); have _ := Aside0.mk (hb); have _ := Aside0.mk (ho); clear HO_10 BK360 BK361 HB HO_5 HO391; rename_i HO_10 BK360 BK361 HB HO395; clear ho hb hg hat))
  go_roundg kj46
  case measure => have := HJ2.out; have := HK2.out; have := HK3.out; have := HJ32.out; have := HK5.out; have := HJ46.out; omega
  case rel => exact ⟨(y393), (wrap64 (x11_5 + 1)), el_, H', ⟨by have := HJ2.out; have := HK2.out; have := HK3.out; have := HJ32.out; have := HK5.out; have := HJ46.out; omega⟩, ⟨ps_ HO395.out⟩, ⟨pr_ (Kd.R_mono HO_10.out (fun _ hk => trivial))⟩, ⟨pk_ BK360.out⟩, ⟨pk_ BK361.out⟩, ⟨pb2_ HB.out GE360.out GE361.out⟩⟩

end Go.Proofs.Ytldcchjbaglppaa.Print
