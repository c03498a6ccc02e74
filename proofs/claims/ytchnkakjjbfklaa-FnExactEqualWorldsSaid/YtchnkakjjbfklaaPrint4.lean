-- Written by a program of this session (printx.py) out of the translation; Lean checks it.
import Derived.Test.YtchnkakjjbfklaaPrint0
import Derived.Test.YtchnkakjjbfklaaPrint2
import Derived.Test.YtchnkakjjbfklaaPrint3
namespace Go.Proofs.Ytchnkakjjbfklaa.Print
open Go.RowKit Go.Proofs.YtchnkakjjbfklaaW.PrintWords Go.Proofs.YtchnkakjjbfklaaW.PrintLast Go.Proofs.YtchnkakjjbfklaaW.PrintMore Go.Proofs.Ytchnkakjjbfklaa.Short
attribute [local go_sem] max2_int min2_int max_two min_two max_three min_three max_four min_four   -- for this text's walks alone
set_option linter.unusedVariables false
set_option maxHeartbeats 40000000
set_option maxRecDepth 100000
set_option linter.unusedSimpArgs false

/-! ### spec_EqualWorlds: function 6 -/
mutual
def spec_EqualWorlds.j0 : Nat → Bool → List Int → List Int → Int → List (S50) → Int → List Int → Int → Bool → Int → Int → List (S55) → List (S57) → Int → Int → Int → List Int → List Int → Int → List (S50) → Int → List Int → Int → Bool → Int → Int → List (S55) → List (S57) → Int → Int → Int → Option (Bool)
 | 0, _, _, _, _, _, _, _, _, _, _, _, _, _, _, _, _, _, _, _, _, _, _, _, _, _, _, _, _, _, _, _ => none
 | k + 1, F, a, b, c, d, e, f, g, h, i, j, l, m, n, o, p, q, r, s, t, u, v, w, x, y, z, A, B, C, D, E => if F = true then (some false) else (spec_EqualWorlds.l0 k 0 a b c d e f g h i j l m n o p q r s t u v w x y z A B C D E)
def spec_EqualWorlds.l0 : Nat → Int → List Int → List Int → Int → List (S50) → Int → List Int → Int → Bool → Int → Int → List (S55) → List (S57) → Int → Int → Int → List Int → List Int → Int → List (S50) → Int → List Int → Int → Bool → Int → Int → List (S55) → List (S57) → Int → Int → Int → Option (Bool)
 | 0, _, _, _, _, _, _, _, _, _, _, _, _, _, _, _, _, _, _, _, _, _, _, _, _, _, _, _, _, _, _, _ => none
 | k + 1, G, c, d, e, a, g, h, i, j, l, m, n, o, p, q, r, s, t, u, b, v, w, x, y, z, A, B, C, D, E, F => if G < (a.length : Int) then (if 0 ≤ G then (if G < (b.length : Int) then ((spec_EqualEndpoints.f k ((rd_T50 a G).f0) ((rd_T50 a G).f1) ((rd_T50 a G).f2) ((rd_T50 a G).f3) ((rd_T50 b G).f0) ((rd_T50 b G).f1) ((rd_T50 b G).f2) ((rd_T50 b G).f3)).bind fun H => (if H = true then (spec_EqualWorlds.l0 k (wrap64 (G + 1)) c d e a g h i j l m n o p q r s t u b v w x y z A B C D E F) else (some false))) else (none)) else (none)) else (spec_EqualWorlds.l1 k 0 c d e a g h i j l m n o p q r s t u b v w x y z A B C D E F)
def spec_EqualWorlds.l1 : Nat → Int → List Int → List Int → Int → List (S50) → Int → List Int → Int → Bool → Int → Int → List (S55) → List (S57) → Int → Int → Int → List Int → List Int → Int → List (S50) → Int → List Int → Int → Bool → Int → Int → List (S55) → List (S57) → Int → Int → Int → Option (Bool)
 | 0, _, _, _, _, _, _, _, _, _, _, _, _, _, _, _, _, _, _, _, _, _, _, _, _, _, _, _, _, _, _, _ => none
 | k + 1, G, c, d, e, g, h, i, j, l, m, n, a, o, p, q, r, s, t, u, v, w, x, y, z, A, B, b, C, D, E, F => if G < (a.length : Int) then (if 0 ≤ G then (if G < (b.length : Int) then ((spec_EqualDialed.f k ((rd_T55 a G).f0.f0) ((rd_T55 a G).f0.f1) ((rd_T55 a G).f0.f2) ((rd_T55 a G).f1) ((rd_T55 a G).f2) ((rd_T55 b G).f0.f0) ((rd_T55 b G).f0.f1) ((rd_T55 b G).f0.f2) ((rd_T55 b G).f1) ((rd_T55 b G).f2)).bind fun H => (if H = true then (spec_EqualWorlds.l1 k (wrap64 (G + 1)) c d e g h i j l m n a o p q r s t u v w x y z A B b C D E F) else (some false))) else (none)) else (none)) else (spec_EqualWorlds.l2 k 0 c d e g h i j l m n a o p q r s t u v w x y z A B b C D E F)
def spec_EqualWorlds.l2 : Nat → Int → List Int → List Int → Int → List (S50) → Int → List Int → Int → Bool → Int → Int → List (S55) → List (S57) → Int → Int → Int → List Int → List Int → Int → List (S50) → Int → List Int → Int → Bool → Int → Int → List (S55) → List (S57) → Int → Int → Int → Option (Bool)
 | 0, _, _, _, _, _, _, _, _, _, _, _, _, _, _, _, _, _, _, _, _, _, _, _, _, _, _, _, _, _, _, _ => none
 | k + 1, c, d, e, r, s, g, h, i, j, t, u, v, b, w, x, y, l, m, z, A, n, o, p, q, B, C, D, a, E, F, G => if c < (b.length : Int) then (if 0 ≤ c then (if c < (a.length : Int) then (if ((rd_T57 b c).f0) = ((rd_T57 a c).f0) then (if ((rd_T57 b c).f1) = ((rd_T57 a c).f1) then (if (rd_T57 b c).f2 = true then (if (rd_T57 a c).f2 = true then ((spec_EqualDialed.f k ((rd_T57 b c).f3.f0.f0) ((rd_T57 b c).f3.f0.f1) ((rd_T57 b c).f3.f0.f2) ((rd_T57 b c).f3.f1) ((rd_T57 b c).f3.f2) ((rd_T57 a c).f3.f0.f0) ((rd_T57 a c).f3.f0.f1) ((rd_T57 a c).f3.f0.f2) ((rd_T57 a c).f3.f1) ((rd_T57 a c).f3.f2)).bind fun H => (if H = true then (spec_EqualWorlds.l2 k (wrap64 (c + 1)) d e r s g h i j t u v b w x y l m z A n o p q B C D a E F G) else (some false))) else (some false)) else (if (rd_T57 a c).f2 = true then (some false) else ((spec_EqualDialed.f k ((rd_T57 b c).f3.f0.f0) ((rd_T57 b c).f3.f0.f1) ((rd_T57 b c).f3.f0.f2) ((rd_T57 b c).f3.f1) ((rd_T57 b c).f3.f2) ((rd_T57 a c).f3.f0.f0) ((rd_T57 a c).f3.f0.f1) ((rd_T57 a c).f3.f0.f2) ((rd_T57 a c).f3.f1) ((rd_T57 a c).f3.f2)).bind fun I => (if I = true then (spec_EqualWorlds.l2 k (wrap64 (c + 1)) d e r s g h i j t u v b w x y l m z A n o p q B C D a E F G) else (some false))))) else (some false)) else (some false)) else (none)) else (none)) else ((spec_EqualInts.f k d l).bind fun J => (if J = true then ((spec_EqualInts.f k e m).bind fun K => (if K = true then ((spec_EqualRollouts.f k g h i j n o p q).bind fun L => (some L)) else (some false))) else (some false)))
end
def spec_EqualWorlds.f (k : Nat) (A : List Int) (B : List Int) (m : Int) (s : List (S50)) (u : Int) (C : List Int) (v : Int) (w : Bool) (n : Int) (o : Int) (h : List (S55)) (i : List (S57)) (a : Int) (b : Int) (c : Int) (D : List Int) (E : List Int) (p : Int) (t : List (S50)) (x : Int) (F : List Int) (y : Int) (z : Bool) (q : Int) (r : Int) (j : List (S55)) (l : List (S57)) (d : Int) (e : Int) (g : Int) : Option (Bool) := if (s.length : Int) = (t.length : Int) then (if (h.length : Int) = (j.length : Int) then (if (i.length : Int) = (l.length : Int) then (if m = p then (if n = q then (if o = r then (if a = d then (if b = e then (spec_EqualWorlds.j0 k (c != g) A B m s u C v w n o h i a b c D E p t x F y z q r j l d e g) else (spec_EqualWorlds.j0 k true A B m s u C v w n o h i a b c D E p t x F y z q r j l d e g)) else (spec_EqualWorlds.j0 k true A B m s u C v w n o h i a b c D E p t x F y z q r j l d e g)) else (spec_EqualWorlds.j0 k true A B m s u C v w n o h i a b c D E p t x F y z q r j l d e g)) else (spec_EqualWorlds.j0 k true A B m s u C v w n o h i a b c D E p t x F y z q r j l d e g)) else (spec_EqualWorlds.j0 k true A B m s u C v w n o h i a b c D E p t x F y z q r j l d e g)) else (spec_EqualWorlds.j0 k true A B m s u C v w n o h i a b c D E p t x F y z q r j l d e g)) else (spec_EqualWorlds.j0 k true A B m s u C v w n o h i a b c D E p t x F y z q r j l d e g)) else (spec_EqualWorlds.j0 k true A B m s u C v w n o h i a b c D E p t x F y z q r j l d e g)
theorem spec_EqualWorlds.mono_l : ∀ k, (∀ y z A B C D E F G H a b c d e f g i j l m n o p q s t u v w x, LeO (spec_EqualWorlds.j0 k y z A B C D E F G H a b c d e f g i j l m n o p q s t u v w x) (spec_EqualWorlds.j0 (k + 1) y z A B C D E F G H a b c d e f g i j l m n o p q s t u v w x)) ∧ (∀ y z A B C D E F G H a b c d e f g i j l m n o p q s t u v w x, LeO (spec_EqualWorlds.l0 k y z A B C D E F G H a b c d e f g i j l m n o p q s t u v w x) (spec_EqualWorlds.l0 (k + 1) y z A B C D E F G H a b c d e f g i j l m n o p q s t u v w x)) ∧ (∀ y z A B C D E F G H a b c d e f g i j l m n o p q s t u v w x, LeO (spec_EqualWorlds.l1 k y z A B C D E F G H a b c d e f g i j l m n o p q s t u v w x) (spec_EqualWorlds.l1 (k + 1) y z A B C D E F G H a b c d e f g i j l m n o p q s t u v w x)) ∧ (∀ y z A B C D E F G H a b c d e f g i j l m n o p q s t u v w x, LeO (spec_EqualWorlds.l2 k y z A B C D E F G H a b c d e f g i j l m n o p q s t u v w x) (spec_EqualWorlds.l2 (k + 1) y z A B C D E F G H a b c d e f g i j l m n o p q s t u v w x))
 | 0 => ⟨fun _ _ _ _ _ _ _ _ _ _ _ _ _ _ _ _ _ _ _ _ _ _ _ _ _ _ _ _ _ _ _ r h => by simp [spec_EqualWorlds.j0] at h, fun _ _ _ _ _ _ _ _ _ _ _ _ _ _ _ _ _ _ _ _ _ _ _ _ _ _ _ _ _ _ _ r h => by simp [spec_EqualWorlds.l0] at h, fun _ _ _ _ _ _ _ _ _ _ _ _ _ _ _ _ _ _ _ _ _ _ _ _ _ _ _ _ _ _ _ r h => by simp [spec_EqualWorlds.l1] at h, fun _ _ _ _ _ _ _ _ _ _ _ _ _ _ _ _ _ _ _ _ _ _ _ _ _ _ _ _ _ _ _ r h => by simp [spec_EqualWorlds.l2] at h⟩
 | k + 1 => by
  obtain ⟨ih0, ih1, ih2, ih3⟩ := spec_EqualWorlds.mono_l k
  refine ⟨?_, ?_, ?_, ?_⟩
  ·intro y z A B C D E F G H a b c d e f g i j l m n o p q s t u v w x
   unfold spec_EqualWorlds.j0
   repeat' first
   | (with_reducible exact ih0 _ _ _ _ _ _ _ _ _ _ _ _ _ _ _ _ _ _ _ _ _ _ _ _ _ _ _ _ _ _ _)
   | (with_reducible exact ih1 _ _ _ _ _ _ _ _ _ _ _ _ _ _ _ _ _ _ _ _ _ _ _ _ _ _ _ _ _ _ _)
   | (with_reducible exact ih2 _ _ _ _ _ _ _ _ _ _ _ _ _ _ _ _ _ _ _ _ _ _ _ _ _ _ _ _ _ _ _)
   | (with_reducible exact ih3 _ _ _ _ _ _ _ _ _ _ _ _ _ _ _ _ _ _ _ _ _ _ _ _ _ _ _ _ _ _ _)
   | (with_reducible exact spec_EqualDialed.mono _ _ _ _ _ _ _ _ _ _ _)
   | (with_reducible exact spec_EqualEndpoints.mono _ _ _ _ _ _ _ _ _)
   | (with_reducible exact spec_EqualInts.mono _ _ _)
   | (with_reducible exact spec_EqualRollouts.mono _ _ _ _ _ _ _ _ _)
   | (with_reducible exact LeO.refl _)
   | (with_reducible exact LeO.none _)
   | (with_reducible refine LeO.ite ?_ ?_)
   | (with_reducible refine LeO.bind ?_ (fun _ => ?_))
   | exact ih0 _ _ _ _ _ _ _ _ _ _ _ _ _ _ _ _ _ _ _ _ _ _ _ _ _ _ _ _ _ _ _
   | exact ih1 _ _ _ _ _ _ _ _ _ _ _ _ _ _ _ _ _ _ _ _ _ _ _ _ _ _ _ _ _ _ _
   | exact ih2 _ _ _ _ _ _ _ _ _ _ _ _ _ _ _ _ _ _ _ _ _ _ _ _ _ _ _ _ _ _ _
   | exact ih3 _ _ _ _ _ _ _ _ _ _ _ _ _ _ _ _ _ _ _ _ _ _ _ _ _ _ _ _ _ _ _
   | exact spec_EqualDialed.mono _ _ _ _ _ _ _ _ _ _ _
   | exact spec_EqualEndpoints.mono _ _ _ _ _ _ _ _ _
   | exact spec_EqualInts.mono _ _ _
   | exact spec_EqualRollouts.mono _ _ _ _ _ _ _ _ _
   | exact LeO.none _
   | refine LeO.ite ?_ ?_
   | refine LeO.bind ?_ (fun _ => ?_)
  ·intro y z A B C D E F G H a b c d e f g i j l m n o p q s t u v w x
   unfold spec_EqualWorlds.l0
   repeat' first
   | (with_reducible exact ih0 _ _ _ _ _ _ _ _ _ _ _ _ _ _ _ _ _ _ _ _ _ _ _ _ _ _ _ _ _ _ _)
   | (with_reducible exact ih1 _ _ _ _ _ _ _ _ _ _ _ _ _ _ _ _ _ _ _ _ _ _ _ _ _ _ _ _ _ _ _)
   | (with_reducible exact ih2 _ _ _ _ _ _ _ _ _ _ _ _ _ _ _ _ _ _ _ _ _ _ _ _ _ _ _ _ _ _ _)
   | (with_reducible exact ih3 _ _ _ _ _ _ _ _ _ _ _ _ _ _ _ _ _ _ _ _ _ _ _ _ _ _ _ _ _ _ _)
   | (with_reducible exact spec_EqualDialed.mono _ _ _ _ _ _ _ _ _ _ _)
   | (with_reducible exact spec_EqualEndpoints.mono _ _ _ _ _ _ _ _ _)
   | (with_reducible exact spec_EqualInts.mono _ _ _)
   | (with_reducible exact spec_EqualRollouts.mono _ _ _ _ _ _ _ _ _)
   | (with_reducible exact LeO.refl _)
   | (with_reducible exact LeO.none _)
   | (with_reducible refine LeO.ite ?_ ?_)
   | (with_reducible refine LeO.bind ?_ (fun _ => ?_))
   | exact ih0 _ _ _ _ _ _ _ _ _ _ _ _ _ _ _ _ _ _ _ _ _ _ _ _ _ _ _ _ _ _ _
   | exact ih1 _ _ _ _ _ _ _ _ _ _ _ _ _ _ _ _ _ _ _ _ _ _ _ _ _ _ _ _ _ _ _
   | exact ih2 _ _ _ _ _ _ _ _ _ _ _ _ _ _ _ _ _ _ _ _ _ _ _ _ _ _ _ _ _ _ _
   | exact ih3 _ _ _ _ _ _ _ _ _ _ _ _ _ _ _ _ _ _ _ _ _ _ _ _ _ _ _ _ _ _ _
   | exact spec_EqualDialed.mono _ _ _ _ _ _ _ _ _ _ _
   | exact spec_EqualEndpoints.mono _ _ _ _ _ _ _ _ _
   | exact spec_EqualInts.mono _ _ _
   | exact spec_EqualRollouts.mono _ _ _ _ _ _ _ _ _
   | exact LeO.none _
   | refine LeO.ite ?_ ?_
   | refine LeO.bind ?_ (fun _ => ?_)
  ·intro y z A B C D E F G H a b c d e f g i j l m n o p q s t u v w x
   unfold spec_EqualWorlds.l1
   repeat' first
   | (with_reducible exact ih0 _ _ _ _ _ _ _ _ _ _ _ _ _ _ _ _ _ _ _ _ _ _ _ _ _ _ _ _ _ _ _)
   | (with_reducible exact ih1 _ _ _ _ _ _ _ _ _ _ _ _ _ _ _ _ _ _ _ _ _ _ _ _ _ _ _ _ _ _ _)
   | (with_reducible exact ih2 _ _ _ _ _ _ _ _ _ _ _ _ _ _ _ _ _ _ _ _ _ _ _ _ _ _ _ _ _ _ _)
   | (with_reducible exact ih3 _ _ _ _ _ _ _ _ _ _ _ _ _ _ _ _ _ _ _ _ _ _ _ _ _ _ _ _ _ _ _)
   | (with_reducible exact spec_EqualDialed.mono _ _ _ _ _ _ _ _ _ _ _)
   | (with_reducible exact spec_EqualEndpoints.mono _ _ _ _ _ _ _ _ _)
   | (with_reducible exact spec_EqualInts.mono _ _ _)
   | (with_reducible exact spec_EqualRollouts.mono _ _ _ _ _ _ _ _ _)
   | (with_reducible exact LeO.refl _)
   | (with_reducible exact LeO.none _)
   | (with_reducible refine LeO.ite ?_ ?_)
   | (with_reducible refine LeO.bind ?_ (fun _ => ?_))
   | exact ih0 _ _ _ _ _ _ _ _ _ _ _ _ _ _ _ _ _ _ _ _ _ _ _ _ _ _ _ _ _ _ _
   | exact ih1 _ _ _ _ _ _ _ _ _ _ _ _ _ _ _ _ _ _ _ _ _ _ _ _ _ _ _ _ _ _ _
   | exact ih2 _ _ _ _ _ _ _ _ _ _ _ _ _ _ _ _ _ _ _ _ _ _ _ _ _ _ _ _ _ _ _
   | exact ih3 _ _ _ _ _ _ _ _ _ _ _ _ _ _ _ _ _ _ _ _ _ _ _ _ _ _ _ _ _ _ _
   | exact spec_EqualDialed.mono _ _ _ _ _ _ _ _ _ _ _
   | exact spec_EqualEndpoints.mono _ _ _ _ _ _ _ _ _
   | exact spec_EqualInts.mono _ _ _
   | exact spec_EqualRollouts.mono _ _ _ _ _ _ _ _ _
   | exact LeO.none _
   | refine LeO.ite ?_ ?_
   | refine LeO.bind ?_ (fun _ => ?_)
  ·intro y z A B C D E F G H a b c d e f g i j l m n o p q s t u v w x
   unfold spec_EqualWorlds.l2
   repeat' first
   | (with_reducible exact ih0 _ _ _ _ _ _ _ _ _ _ _ _ _ _ _ _ _ _ _ _ _ _ _ _ _ _ _ _ _ _ _)
   | (with_reducible exact ih1 _ _ _ _ _ _ _ _ _ _ _ _ _ _ _ _ _ _ _ _ _ _ _ _ _ _ _ _ _ _ _)
   | (with_reducible exact ih2 _ _ _ _ _ _ _ _ _ _ _ _ _ _ _ _ _ _ _ _ _ _ _ _ _ _ _ _ _ _ _)
   | (with_reducible exact ih3 _ _ _ _ _ _ _ _ _ _ _ _ _ _ _ _ _ _ _ _ _ _ _ _ _ _ _ _ _ _ _)
   | (with_reducible exact spec_EqualDialed.mono _ _ _ _ _ _ _ _ _ _ _)
   | (with_reducible exact spec_EqualEndpoints.mono _ _ _ _ _ _ _ _ _)
   | (with_reducible exact spec_EqualInts.mono _ _ _)
   | (with_reducible exact spec_EqualRollouts.mono _ _ _ _ _ _ _ _ _)
   | (with_reducible exact LeO.refl _)
   | (with_reducible exact LeO.none _)
   | (with_reducible refine LeO.ite ?_ ?_)
   | (with_reducible refine LeO.bind ?_ (fun _ => ?_))
   | exact ih0 _ _ _ _ _ _ _ _ _ _ _ _ _ _ _ _ _ _ _ _ _ _ _ _ _ _ _ _ _ _ _
   | exact ih1 _ _ _ _ _ _ _ _ _ _ _ _ _ _ _ _ _ _ _ _ _ _ _ _ _ _ _ _ _ _ _
   | exact ih2 _ _ _ _ _ _ _ _ _ _ _ _ _ _ _ _ _ _ _ _ _ _ _ _ _ _ _ _ _ _ _
   | exact ih3 _ _ _ _ _ _ _ _ _ _ _ _ _ _ _ _ _ _ _ _ _ _ _ _ _ _ _ _ _ _ _
   | exact spec_EqualDialed.mono _ _ _ _ _ _ _ _ _ _ _
   | exact spec_EqualEndpoints.mono _ _ _ _ _ _ _ _ _
   | exact spec_EqualInts.mono _ _ _
   | exact spec_EqualRollouts.mono _ _ _ _ _ _ _ _ _
   | exact LeO.none _
   | refine LeO.ite ?_ ?_
   | refine LeO.bind ?_ (fun _ => ?_)
theorem spec_EqualWorlds.mono : ∀ w x y z A B C D E F a b c d e g h i j l m n o p q r s t u v k, LeO (spec_EqualWorlds.f k w x y z A B C D E F a b c d e g h i j l m n o p q r s t u v) (spec_EqualWorlds.f (k + 1) w x y z A B C D E F a b c d e g h i j l m n o p q r s t u v) := by
 intro w x y z A B C D E F a b c d e g h i j l m n o p q r s t u v k
 obtain ⟨ih0, ih1, ih2, ih3⟩ := spec_EqualWorlds.mono_l k
 unfold spec_EqualWorlds.f
 repeat' first
   | (with_reducible exact ih0 _ _ _ _ _ _ _ _ _ _ _ _ _ _ _ _ _ _ _ _ _ _ _ _ _ _ _ _ _ _ _)
   | (with_reducible exact ih1 _ _ _ _ _ _ _ _ _ _ _ _ _ _ _ _ _ _ _ _ _ _ _ _ _ _ _ _ _ _ _)
   | (with_reducible exact ih2 _ _ _ _ _ _ _ _ _ _ _ _ _ _ _ _ _ _ _ _ _ _ _ _ _ _ _ _ _ _ _)
   | (with_reducible exact ih3 _ _ _ _ _ _ _ _ _ _ _ _ _ _ _ _ _ _ _ _ _ _ _ _ _ _ _ _ _ _ _)
   | (with_reducible exact spec_EqualDialed.mono _ _ _ _ _ _ _ _ _ _ _)
   | (with_reducible exact spec_EqualEndpoints.mono _ _ _ _ _ _ _ _ _)
   | (with_reducible exact spec_EqualInts.mono _ _ _)
   | (with_reducible exact spec_EqualRollouts.mono _ _ _ _ _ _ _ _ _)
   | (with_reducible exact LeO.refl _)
   | (with_reducible exact LeO.none _)
   | (with_reducible refine LeO.ite ?_ ?_)
   | (with_reducible refine LeO.bind ?_ (fun _ => ?_))
   | exact ih0 _ _ _ _ _ _ _ _ _ _ _ _ _ _ _ _ _ _ _ _ _ _ _ _ _ _ _ _ _ _ _
   | exact ih1 _ _ _ _ _ _ _ _ _ _ _ _ _ _ _ _ _ _ _ _ _ _ _ _ _ _ _ _ _ _ _
   | exact ih2 _ _ _ _ _ _ _ _ _ _ _ _ _ _ _ _ _ _ _ _ _ _ _ _ _ _ _ _ _ _ _
   | exact ih3 _ _ _ _ _ _ _ _ _ _ _ _ _ _ _ _ _ _ _ _ _ _ _ _ _ _ _ _ _ _ _
   | exact spec_EqualDialed.mono _ _ _ _ _ _ _ _ _ _ _
   | exact spec_EqualEndpoints.mono _ _ _ _ _ _ _ _ _
   | exact spec_EqualInts.mono _ _ _
   | exact spec_EqualRollouts.mono _ _ _ _ _ _ _ _ _
   | exact LeO.none _
   | refine LeO.ite ?_ ?_
   | refine LeO.bind ?_ (fun _ => ?_)
def spec_EqualWorlds.T6 : Bool × List (List Nat × List Nat) := (true, [([], []), ([0], [0]), ([], []), ([1, 2], [1, 2]), ([3], [3]), ([], []), ([5], [5]), ([], []), ([6, 7], [6, 7]), ([8], [8]), ([4, 9], [4, 9]), ([10], [10])])
def spec_EqualWorlds.B6 : List Nat := [0, 1, 0, 7, 15, 0, 32, 0, 224, 480, 1023, 2047]
theorem spec_EqualWorlds.tab6 : rtab .any (opsOf Try.f6 6) = spec_EqualWorlds.T6 := by kernel_rfl
theorem spec_EqualWorlds.bits6 : waitsOk spec_EqualWorlds.T6.2 spec_EqualWorlds.B6 = true := by kernel_rfl
def spec_EqualWorlds.T11 : Bool × List (List Nat × List Nat) := (true, [([], []), ([0], [0]), ([], []), ([1, 2], [1, 2]), ([3], [3]), ([], []), ([5], [5]), ([], []), ([6, 7], [6, 7]), ([8], [8]), ([4, 9], [4, 9]), ([10], [10])])
def spec_EqualWorlds.B11 : List Nat := [0, 1, 0, 7, 15, 0, 32, 0, 224, 480, 1023, 2047]
theorem spec_EqualWorlds.tab11 : rtab .any (opsOf Try.f6 11) = spec_EqualWorlds.T11 := by kernel_rfl
theorem spec_EqualWorlds.bits11 : waitsOk spec_EqualWorlds.T11.2 spec_EqualWorlds.B11 = true := by kernel_rfl
def spec_EqualWorlds.T16 : Bool × List (List Nat × List Nat) := (true, [([], []), ([0], [0]), ([], []), ([1, 2], [1, 2]), ([3], [3]), ([4], [4]), ([], []), ([6], [6]), ([], []), ([7, 8], [7, 8]), ([9], [9]), ([10], [10]), ([5, 11], [5, 11]), ([12], [12]), ([13], [13]), ([14, 13], [13, 14]), ([13], [13]), ([15, 16, 13], [13, 15, 16]), ([17, 13], [13, 17]), ([18, 13], [13, 18]), ([13], [13]), ([20, 13], [13, 20]), ([13], [13]), ([21, 22, 13], [13, 21, 22]), ([23, 13], [13, 23]), ([24, 13], [13, 24]), ([19, 25, 13], [13, 19, 25]), ([13, 26], [13, 26]), ([27, 13], [27]), ([28], [28]), ([29, 28], [28, 29]), ([28], [28]), ([30, 31, 28], [28, 30, 31]), ([32, 28], [28, 32]), ([33, 28], [28, 33]), ([28], [28]), ([35, 28], [28, 35]), ([28], [28]), ([36, 37, 28], [28, 36, 37]), ([38, 28], [28, 38]), ([39, 28], [28, 39]), ([34, 40, 28], [28, 34, 40]), ([28, 41], [28, 41]), ([42, 28], [42]), ([43], [43]), ([44, 43], [43, 44]), ([43], [43]), ([45, 46, 43], [43, 45, 46]), ([47, 43], [43, 47]), ([48, 43], [43, 48]), ([43], [43]), ([50, 43], [43, 50]), ([43], [43]), ([51, 52, 43], [43, 51, 52]), ([53, 43], [43, 53]), ([54, 43], [43, 54]), ([49, 55, 43, 43], [43, 49, 55]), ([56, 43], [43, 56]), ([43, 57], [43, 57])])
def spec_EqualWorlds.B16 : List Nat := [0, 1, 0, 7, 15, 31, 0, 64, 0, 448, 960, 1984, 4095, 8191, 16383, 32767, 16383, 131071, 262143, 524287, 16383, 1064959, 16383, 7356415, 15745023, 32522239, 67108863, 134217727, 268435455, 536870911, 1073741823, 536870911, 4294967295, 8589934591, 17179869183, 536870911, 34896609279, 536870911, 241055039487, 515932946431, 1065688760319, 2199023255551, 4398046511103, 8796093022207, 17592186044415, 35184372088831, 17592186044415, 140737488355327, 281474976710655, 562949953421311, 17592186044415, 1143492092887039, 17592186044415, 7898891533942783, 16906090788683775, 34920489298165759, 72057594037927935, 144115188075855871, 288230376151711743]
theorem spec_EqualWorlds.tab16 : rtab .any (opsOf Try.f6 16) = spec_EqualWorlds.T16 := by kernel_rfl
theorem spec_EqualWorlds.bits16 : waitsOk spec_EqualWorlds.T16.2 spec_EqualWorlds.B16 = true := by kernel_rfl
theorem spec_EqualWorlds.calls (k : Nat) (cL : Option Addr) (cN : Nat) (aI : List Int) (cP : Option Addr) (cX : Nat) (ba : List Int) (a4 : Int) (c8 : Option Addr) (cY : Nat) (ab : List (S50)) (bq : Int) (cQ : Option Addr) (cZ : Nat) (bc : List Int) (br : Int) (bs : Bool) (a5 : Int) (a6 : Int) (cp : Option Addr) (cl : Nat) (u : List (S55)) (dk : Option Addr) (cm : Nat) (j : List (S57)) (aj : Int) (ak : Int) (aC : Int) (cM : Option Addr) (cO : Nat) (aJ : List Int) (cR : Option Addr) (c0 : Nat) (bb : List Int) (a7 : Int) (c9 : Option Addr) (c1 : Nat) (ac : List (S50)) (bt : Int) (cS : Option Addr) (c2 : Nat) (bd : List Int) (bu : Int) (bv : Bool) (a8 : Int) (a9 : Int) (cq : Option Addr) (cn : Nat) (v : List (S55)) (dl : Option Addr) (co : Nat) (i : List (S57)) (al : Int) (am : Int) (aD : Int) (r : Bool) (w : World) (hr0_0 : Kd.C (Kd.int .i64) w cL aI.length aI) (g7 : aI.length ≤ cN) (hr0_1 : Kd.C (Kd.int .i64) w cP ba.length ba) (g8 : ba.length ≤ cX) (hr0_3 : Kd.C k50 w c8 ab.length ab) (g9 : ab.length ≤ cY) (hr0_5 : Kd.C (Kd.int .i64) w cQ bc.length bc) (ha : bc.length ≤ cZ) (hr0_10 : Kd.C k55 w cp u.length u) (gB : u.length ≤ cl) (hr0_11 : Kd.C k57 w dk j.length j) (gC : j.length ≤ cm) (hr1_0 : Kd.C (Kd.int .i64) w cM aJ.length aJ) (hc : aJ.length ≤ cO) (hr1_1 : Kd.C (Kd.int .i64) w cR bb.length bb) (hd : bb.length ≤ c0) (hr1_3 : Kd.C k50 w c9 ac.length ac) (he : ac.length ≤ c1) (hr1_5 : Kd.C (Kd.int .i64) w cS bd.length bd) (hf : bd.length ≤ c2) (hr1_10 : Kd.C k55 w cq v.length v) (gD : v.length ≤ cn) (hr1_11 : Kd.C k57 w dl i.length i) (gE : i.length ≤ co) (h : spec_EqualWorlds.f k aI ba a4 ab bq bc br bs a5 a6 u j aj ak aC aJ bb a7 ac bt bd bu bv a8 a9 v i al am aD = some r) :
  Calls Try.prog 6 #[.agg #[.slice cL aI.length cN, .slice cP ba.length cX, .int .i64 a4, .slice c8 ab.length cY, .int .i64 bq, .slice cQ bc.length cZ, .int .i64 br, .bool bs, .int .i64 a5, .int .i64 a6, .slice cp u.length cl, .slice dk j.length cm, .int .i64 aj, .int .i64 ak, .int .i64 aC], .agg #[.slice cM aJ.length cO, .slice cR bb.length c0, .int .i64 a7, .slice c9 ac.length c1, .int .i64 bt, .slice cS bd.length c2, .int .i64 bu, .bool bv, .int .i64 a8, .int .i64 a9, .slice cq v.length cn, .slice dl i.length co, .int .i64 al, .int .i64 am, .int .i64 aD]] w fun e w' => e = .returned (.bool r) ∧ Below w.heap.size w w' := by
 have hu37 := Try.underlying37
 have hu50 := Try.underlying50
 have hu55 := Try.underlying55
 have hu33 := Try.underlying33
 have fZ := Q_ hr0_0
 have fX := Q_ g7
 clear hr0_0 g7
 have g3 := Q_ hr0_1
 have gJ := Q_ g8
 clear hr0_1 g8
 have hZ := Q_ hr0_3
 have jg := Q_ g9
 clear hr0_3 g9
 have h0 := Q_ hr0_5
 have hW := Q_ ha
 clear hr0_5 ha
 have hy := Q_ hr0_10
 have iT := Q_ gB
 clear hr0_10 gB
 have bw := Q_ hr0_11
 have iU := Q_ gC
 clear hr0_11 gC
 have f4 := Q_ hr1_0
 have fY := Q_ hc
 clear hr1_0 hc
 have g4 := Q_ hr1_1
 have g2 := Q_ hd
 clear hr1_1 hd
 have h1 := Q_ hr1_3
 have jh := Q_ he
 clear hr1_3 he
 have h2 := Q_ hr1_5
 have hX := Q_ hf
 clear hr1_5 hf
 have hz := Q_ hr1_10
 have iV := Q_ gD
 clear hr1_10 gD
 have bx := Q_ hr1_11
 have iW := Q_ gE
 clear hr1_11 gE
 have HB := Q_ (Below.refl w.heap.size w)
 have H : (if (ab.length : Int) = (ac.length : Int) then (if (u.length : Int) = (v.length : Int) then (if (j.length : Int) = (i.length : Int) then (if a4 = a7 then (if a5 = a8 then (if a6 = a9 then (if aj = al then (if ak = am then (spec_EqualWorlds.j0 k (aC != aD) aI ba a4 ab bq bc br bs a5 a6 u j aj ak aC aJ bb a7 ac bt bd bu bv a8 a9 v i al am aD) else (spec_EqualWorlds.j0 k true aI ba a4 ab bq bc br bs a5 a6 u j aj ak aC aJ bb a7 ac bt bd bu bv a8 a9 v i al am aD)) else (spec_EqualWorlds.j0 k true aI ba a4 ab bq bc br bs a5 a6 u j aj ak aC aJ bb a7 ac bt bd bu bv a8 a9 v i al am aD)) else (spec_EqualWorlds.j0 k true aI ba a4 ab bq bc br bs a5 a6 u j aj ak aC aJ bb a7 ac bt bd bu bv a8 a9 v i al am aD)) else (spec_EqualWorlds.j0 k true aI ba a4 ab bq bc br bs a5 a6 u j aj ak aC aJ bb a7 ac bt bd bu bv a8 a9 v i al am aD)) else (spec_EqualWorlds.j0 k true aI ba a4 ab bq bc br bs a5 a6 u j aj ak aC aJ bb a7 ac bt bd bu bv a8 a9 v i al am aD)) else (spec_EqualWorlds.j0 k true aI ba a4 ab bq bc br bs a5 a6 u j aj ak aC aJ bb a7 ac bt bd bu bv a8 a9 v i al am aD)) else (spec_EqualWorlds.j0 k true aI ba a4 ab bq bc br bs a5 a6 u j aj ak aC aJ bb a7 ac bt bd bu bv a8 a9 v i al am aD)) else (spec_EqualWorlds.j0 k true aI ba a4 ab bq bc br bs a5 a6 u j aj ak aC aJ bb a7 ac bt bd bu bv a8 a9 v i al am aD)) = some r := h
 clear h
 have hY := Q_ H
 clear H
 go_enter Try.func6, Try.ntmps6
 go_upto_region 1 with (first | ((with_reducible refine gate_dst (N := 2) rfl ?_); (try (refine gate_guard (by rfl) ?_; dsimp only)); refine bx_ 2 #[.slice cL aI.length cN, .slice cP ba.length cX, .int .i64 a4, .slice c8 ab.length cY, .int .i64 bq, .slice cQ bc.length cZ, .int .i64 br, .bool bs, .int .i64 a5, .int .i64 a6, .slice cp u.length cl, .slice dk j.length cm, .int .i64 aj, .int .i64 ak, .int .i64 aC] 37 ?_; intro l hg w4 hbox hb; have _ := Q_ (below_step (pb_ HB.1) hb); have d := Q_ (hbox); have hU := Q_ (gw_ (w := w) hg (pb_ HB.1)); have ad := hU; clear HB; rename_i HB; clear hb hbox hg) | ((with_reducible refine gate_dst (N := 3) rfl ?_); (try (refine gate_guard (by rfl) ?_; dsimp only)); refine bx_ 3 #[.slice cM aJ.length cO, .slice cR bb.length c0, .int .i64 a7, .slice c9 ac.length c1, .int .i64 bt, .slice cS bd.length c2, .int .i64 bu, .bool bv, .int .i64 a8, .int .i64 a9, .slice cq v.length cn, .slice dl i.length co, .int .i64 al, .int .i64 am, .int .i64 aD] 37 ?_; intro m hg w5 hbox hb; have _ := Q_ (bb_ d.1 hb); have _ := Q_ (below_step (pb1_ HB.1 ad.1) hb); have g := Q_ (hbox); have hV := Q_ (gw_ (w := w) hg (pb1_ HB.1 ad.1)); have ai := hV; have J := Q_ (nb_ hg d); have M := Q_ J.1.symm; clear d HB; rename_i d HB; clear hb hbox hg))
 (try simp only [Act.put, s1_, s2_, s3_])
 go_cut [74] (fun ku wc => ∃ (kq : Nat) (eU : Bool), ku = .bool eU ∧ Aside0 (spec_EqualWorlds.j0 kq eU aI ba a4 ab bq bc br bs a5 a6 u j aj ak aC aJ bb a7 ac bt bd bu bv a8 a9 v i al am aD = some r) ∧ Aside0 (kq ≤ k) ∧ Aside0 (wc.heap[l]? = some (.cells #[(.slice cL aI.length cN), (.slice cP ba.length cX), .int .i64 a4, (.slice c8 ab.length cY), .int .i64 bq, (.slice cQ bc.length cZ), .int .i64 br, .bool bs, .int .i64 a5, .int .i64 a6, (.slice cp u.length cl), (.slice dk j.length cm), .int .i64 aj, .int .i64 ak, .int .i64 aC] 37 (0, 0))) ∧ Aside0 (wc.heap[m]? = some (.cells #[(.slice cM aJ.length cO), (.slice cR bb.length c0), .int .i64 a7, (.slice c9 ac.length c1), .int .i64 bt, (.slice cS bd.length c2), .int .i64 bu, .bool bv, .int .i64 a8, .int .i64 a9, (.slice cq v.length cn), (.slice dl i.length co), .int .i64 al, .int .i64 am, .int .i64 aD] 37 (0, 0))) ∧ Aside0 (Below w.heap.size w wc))
 case first =>
  have H := hY.1
  clear hY
  by_cases c6 : (ab.length : Int) = (ac.length : Int)
  rotate_left
  ·rw [if_neg c6] at H
   have ff : ((ab.length : Int) == (ac.length : Int)) = false := beq_eq_false_iff_ne.mpr c6
   have fg : ((ab.length : Int) != (ac.length : Int)) = true := bne_iff_ne.mpr c6
   have g6 : (ab.length == ac.length) = false := by first | simpa using c6 | (simp at c6 ⊢; omega)
   (first | rw [ff] | (simp only [i64_w, i32_w]; rw [ff]) | rw [fg] | (have c_ := fg; rw [bne] at c_; rw [c_]; clear c_) | rw [g6] | skip)
   have H' := Q_ H
   clear H
   have kx := J.1
   have ky := M.1
   have kv := bc15_ d.1
   have kw := bc15_ g.1
   go_wp2
   go_meet
   case rel => exact ⟨_, (true), el_, H', ⟨by first | omega | exact Nat.le_refl _⟩, ⟨pk_ d.1⟩, ⟨pk_ g.1⟩, ⟨pb2_ HB.1 ad.1 ai.1⟩⟩
  rw [if_pos c6] at H
  have ff : ((ab.length : Int) == (ac.length : Int)) = true := beq_iff_eq.mpr c6
  have fg : ((ab.length : Int) != (ac.length : Int)) = false := bne_eq_false_iff_eq.mpr c6
  have g6 : (ab.length == ac.length) = true := by first | simpa using c6 | (simp at c6 ⊢; omega)
  clear c6
  (first | rw [ff] | (simp only [i64_w, i32_w]; rw [ff]) | rw [fg] | (have c_ := fg; rw [bne] at c_; rw [c_]; clear c_) | rw [g6] | skip)
  by_cases eG : (u.length : Int) = (v.length : Int)
  rotate_left
  ·rw [if_neg eG] at H
   have h7 : ((u.length : Int) == (v.length : Int)) = false := beq_eq_false_iff_ne.mpr eG
   have h8 : ((u.length : Int) != (v.length : Int)) = true := bne_iff_ne.mpr eG
   have h9 : (u.length == v.length) = false := by first | simpa using eG | (simp at eG ⊢; omega)
   have H' := Q_ H
   clear H
   have jQ := J.1
   have ka := M.1
   have jm := bc15_ d.1
   have jn := bc15_ g.1
   go_wp2
   go_meet
   case rel => exact ⟨_, (true), el_, H', ⟨by first | omega | exact Nat.le_refl _⟩, ⟨pk_ d.1⟩, ⟨pk_ g.1⟩, ⟨pb2_ HB.1 ad.1 ai.1⟩⟩
  rw [if_pos eG] at H
  have h7 : ((u.length : Int) == (v.length : Int)) = true := beq_iff_eq.mpr eG
  have h8 : ((u.length : Int) != (v.length : Int)) = false := bne_eq_false_iff_eq.mpr eG
  have h9 : (u.length == v.length) = true := by first | simpa using eG | (simp at eG ⊢; omega)
  clear eG
  by_cases eH : (j.length : Int) = (i.length : Int)
  rotate_left
  ·rw [if_neg eH] at H
   have ia : ((j.length : Int) == (i.length : Int)) = false := beq_eq_false_iff_ne.mpr eH
   have ib : ((j.length : Int) != (i.length : Int)) = true := bne_iff_ne.mpr eH
   have ic : (j.length == i.length) = false := by first | simpa using eH | (simp at eH ⊢; omega)
   have H' := Q_ H
   clear H
   have jR := J.1
   have kb := M.1
   have jo := bc15_ d.1
   have jp := bc15_ g.1
   go_wp2
   go_meet
   case rel => exact ⟨_, (true), el_, H', ⟨by first | omega | exact Nat.le_refl _⟩, ⟨pk_ d.1⟩, ⟨pk_ g.1⟩, ⟨pb2_ HB.1 ad.1 ai.1⟩⟩
  rw [if_pos eH] at H
  have ia : ((j.length : Int) == (i.length : Int)) = true := beq_iff_eq.mpr eH
  have ib : ((j.length : Int) != (i.length : Int)) = false := bne_eq_false_iff_eq.mpr eH
  have ic : (j.length == i.length) = true := by first | simpa using eH | (simp at eH ⊢; omega)
  clear eH
  by_cases f5 : a4 = a7
  rotate_left
  ·rw [if_neg f5] at H
   have ie : (a4 == a7) = false := beq_eq_false_iff_ne.mpr f5
   have ig : (a4 != a7) = true := bne_iff_ne.mpr f5
   have H' := Q_ H
   clear H
   have jS := J.1
   have kc := M.1
   have jq := bc15_ d.1
   have jr := bc15_ g.1
   go_wp2
   go_meet
   case rel => exact ⟨_, (true), el_, H', ⟨by first | omega | exact Nat.le_refl _⟩, ⟨pk_ d.1⟩, ⟨pk_ g.1⟩, ⟨pb2_ HB.1 ad.1 ai.1⟩⟩
  rw [if_pos f5] at H
  have ie : (a4 == a7) = true := beq_iff_eq.mpr f5
  have ig : (a4 != a7) = false := bne_eq_false_iff_eq.mpr f5
  clear f5
  by_cases f6 : a5 = a8
  rotate_left
  ·rw [if_neg f6] at H
   have ih : (a5 == a8) = false := beq_eq_false_iff_ne.mpr f6
   have ii : (a5 != a8) = true := bne_iff_ne.mpr f6
   have H' := Q_ H
   clear H
   have jT := J.1
   have kd := M.1
   have js := bc15_ d.1
   have jt := bc15_ g.1
   go_wp2
   go_meet
   case rel => exact ⟨_, (true), el_, H', ⟨by first | omega | exact Nat.le_refl _⟩, ⟨pk_ d.1⟩, ⟨pk_ g.1⟩, ⟨pb2_ HB.1 ad.1 ai.1⟩⟩
  rw [if_pos f6] at H
  have ih : (a5 == a8) = true := beq_iff_eq.mpr f6
  have ii : (a5 != a8) = false := bne_eq_false_iff_eq.mpr f6
  clear f6
  by_cases f7 : a6 = a9
  rotate_left
  ·rw [if_neg f7] at H
   have ij : (a6 == a9) = false := beq_eq_false_iff_ne.mpr f7
   have ik : (a6 != a9) = true := bne_iff_ne.mpr f7
   have H' := Q_ H
   clear H
   have jU := J.1
   have ke := M.1
   have ju := bc15_ d.1
   have jv := bc15_ g.1
   go_wp2
   go_meet
   case rel => exact ⟨_, (true), el_, H', ⟨by first | omega | exact Nat.le_refl _⟩, ⟨pk_ d.1⟩, ⟨pk_ g.1⟩, ⟨pb2_ HB.1 ad.1 ai.1⟩⟩
  rw [if_pos f7] at H
  have ij : (a6 == a9) = true := beq_iff_eq.mpr f7
  have ik : (a6 != a9) = false := bne_eq_false_iff_eq.mpr f7
  clear f7
  by_cases f8 : aj = al
  rotate_left
  ·rw [if_neg f8] at H
   have il : (aj == al) = false := beq_eq_false_iff_ne.mpr f8
   have im : (aj != al) = true := bne_iff_ne.mpr f8
   have H' := Q_ H
   clear H
   have jV := J.1
   have kf := M.1
   have jw := bc15_ d.1
   have jx := bc15_ g.1
   go_wp2
   go_meet
   case rel => exact ⟨_, (true), el_, H', ⟨by first | omega | exact Nat.le_refl _⟩, ⟨pk_ d.1⟩, ⟨pk_ g.1⟩, ⟨pb2_ HB.1 ad.1 ai.1⟩⟩
  rw [if_pos f8] at H
  have il : (aj == al) = true := beq_iff_eq.mpr f8
  have im : (aj != al) = false := bne_eq_false_iff_eq.mpr f8
  clear f8
  by_cases f9 : ak = am
  rotate_left
  ·rw [if_neg f9] at H
   have io : (ak == am) = false := beq_eq_false_iff_ne.mpr f9
   have ip : (ak != am) = true := bne_iff_ne.mpr f9
   have H' := Q_ H
   clear H
   have jW := J.1
   have kg := M.1
   have jy := bc15_ d.1
   have jz := bc15_ g.1
   go_wp2
   go_meet
   case rel => exact ⟨_, (true), el_, H', ⟨by first | omega | exact Nat.le_refl _⟩, ⟨pk_ d.1⟩, ⟨pk_ g.1⟩, ⟨pb2_ HB.1 ad.1 ai.1⟩⟩
  rw [if_pos f9] at H
  have io : (ak == am) = true := beq_iff_eq.mpr f9
  have ip : (ak != am) = false := bne_eq_false_iff_eq.mpr f9
  clear f9
  have H' := Q_ H
  clear H
  have jX := J.1
  have kh := M.1
  have jA := bc15_ d.1
  have jB := bc15_ g.1
  go_wp2
  go_meet
  case rel => exact ⟨_, ((aC != aD)), el_, H', ⟨by first | omega | exact Nat.le_refl _⟩, ⟨pk_ d.1⟩, ⟨pk_ g.1⟩, ⟨pb2_ HB.1 ad.1 ai.1⟩⟩
 clear hY
 obtain ⟨kq, eU, rfl, HA, eV, d, g, HB⟩ := hcut
 rcases kq with _ | kj2
 ·exact absurd HA.1 (by simp [spec_EqualWorlds.j0])
 have H := HA.1
 clear HA
 simp only [spec_EqualWorlds.j0] at H
 by_cases hA : eU = true
 rotate_left
 ·replace hA := bf_ hA
  subst hA
  rw [if_neg ff_] at H
  have H' := Q_ H
  clear H
  go_wp2
  go_loopg [5] kj2 (fun kq v5 w' => ∃ (an : Int), v5 = .int .i64 an ∧ Aside0 (spec_EqualWorlds.l0 kq an aI ba a4 ab bq bc br bs a5 a6 u j aj ak aC aJ bb a7 ac bt bd bu bv a8 a9 v i al am aD = some r) ∧ Aside0 (kq ≤ kj2) ∧ Aside0 (w'.heap[l]? = some (.cells #[(.slice cL aI.length cN), (.slice cP ba.length cX), .int .i64 a4, (.slice c8 ab.length cY), .int .i64 bq, (.slice cQ bc.length cZ), .int .i64 br, .bool bs, .int .i64 a5, .int .i64 a6, (.slice cp u.length cl), (.slice dk j.length cm), .int .i64 aj, .int .i64 ak, .int .i64 aC] 37 (0, 0))) ∧ Aside0 (w'.heap[m]? = some (.cells #[(.slice cM aJ.length cO), (.slice cR bb.length c0), .int .i64 a7, (.slice c9 ac.length c1), .int .i64 bt, (.slice cS bd.length c2), .int .i64 bu, .bool bv, .int .i64 a8, .int .i64 a9, (.slice cq v.length cn), (.slice dl i.length co), .int .i64 al, .int .i64 am, .int .i64 aD] 37 (0, 0))) ∧ Aside0 (Below w.heap.size w w'))
  case atStart => exact ⟨(0), el_, H', ⟨Nat.le_refl _⟩, ⟨pk_ d.1⟩, ⟨pk_ g.1⟩, ⟨pb2_ HB.1 ad.1 ai.1⟩⟩
  clear H'
  obtain ⟨an, rfl, HA, eW, d, g, HB⟩ := hrel
  rcases gk with _ | k2
  ·exact absurd HA.1 (by simp [spec_EqualWorlds.l0])
  have H := HA.1
  clear HA
  simp only [spec_EqualWorlds.l0] at H
  by_cases gG : an < (ab.length : Int)
  rotate_left
  ·rw [if_neg gG] at H
   have iq := decide_eq_false gG
   clear gG
   have H' := Q_ H
   clear H
   have jY := J.1
   have ki := M.1
   have jC := bc15_ d.1
   go_wp2
   go_loopg [6] k2 (fun kq v6 w' => ∃ (L : Int), v6 = .int .i64 L ∧ Aside0 (spec_EqualWorlds.l1 kq L aI ba a4 ab bq bc br bs a5 a6 u j aj ak aC aJ bb a7 ac bt bd bu bv a8 a9 v i al am aD = some r) ∧ Aside0 (kq ≤ k2) ∧ Aside0 (w'.heap[l]? = some (.cells #[(.slice cL aI.length cN), (.slice cP ba.length cX), .int .i64 a4, (.slice c8 ab.length cY), .int .i64 bq, (.slice cQ bc.length cZ), .int .i64 br, .bool bs, .int .i64 a5, .int .i64 a6, (.slice cp u.length cl), (.slice dk j.length cm), .int .i64 aj, .int .i64 ak, .int .i64 aC] 37 (0, 0))) ∧ Aside0 (w'.heap[m]? = some (.cells #[(.slice cM aJ.length cO), (.slice cR bb.length c0), .int .i64 a7, (.slice c9 ac.length c1), .int .i64 bt, (.slice cS bd.length c2), .int .i64 bu, .bool bv, .int .i64 a8, .int .i64 a9, (.slice cq v.length cn), (.slice dl i.length co), .int .i64 al, .int .i64 am, .int .i64 aD] 37 (0, 0))) ∧ Aside0 (Below w.heap.size w w'))
   case atStart => exact ⟨(0), el_, H', ⟨Nat.le_refl _⟩, ⟨pk_ d.1⟩, ⟨pk_ g.1⟩, ⟨pb2_ HB.1 ad.1 ai.1⟩⟩
   clear H'
   obtain ⟨L, rfl, HA, gF, d, g, HB⟩ := hrel
   rcases gk with _ | k3
   ·exact absurd HA.1 (by simp [spec_EqualWorlds.l1])
   have H := HA.1
   clear HA
   simp only [spec_EqualWorlds.l1] at H
   by_cases gH : L < (u.length : Int)
   rotate_left
   ·rw [if_neg gH] at H
    have ir := decide_eq_false gH
    clear gH
    have H' := Q_ H
    clear H
    have jZ := J.1
    have kj := M.1
    have jD := bc15_ d.1
    go_wp2
    go_loopg [7] k3 (fun kq v7 w' => ∃ (a : Int), v7 = .int .i64 a ∧ Aside0 (spec_EqualWorlds.l2 kq a aI ba a4 ab bq bc br bs a5 a6 u j aj ak aC aJ bb a7 ac bt bd bu bv a8 a9 v i al am aD = some r) ∧ Aside0 (kq ≤ k3) ∧ Aside0 (w'.heap[l]? = some (.cells #[(.slice cL aI.length cN), (.slice cP ba.length cX), .int .i64 a4, (.slice c8 ab.length cY), .int .i64 bq, (.slice cQ bc.length cZ), .int .i64 br, .bool bs, .int .i64 a5, .int .i64 a6, (.slice cp u.length cl), (.slice dk j.length cm), .int .i64 aj, .int .i64 ak, .int .i64 aC] 37 (0, 0))) ∧ Aside0 (w'.heap[m]? = some (.cells #[(.slice cM aJ.length cO), (.slice cR bb.length c0), .int .i64 a7, (.slice c9 ac.length c1), .int .i64 bt, (.slice cS bd.length c2), .int .i64 bu, .bool bv, .int .i64 a8, .int .i64 a9, (.slice cq v.length cn), (.slice dl i.length co), .int .i64 al, .int .i64 am, .int .i64 aD] 37 (0, 0))) ∧ Aside0 (Below w.heap.size w w'))
    case atStart => exact ⟨(0), el_, H', ⟨Nat.le_refl _⟩, ⟨pk_ d.1⟩, ⟨pk_ g.1⟩, ⟨pb2_ HB.1 ad.1 ai.1⟩⟩
    clear H'
    obtain ⟨a, rfl, HA, hx, d, g, HB⟩ := hrel
    rcases gk with _ | k4
    ·exact absurd HA.1 (by simp [spec_EqualWorlds.l2])
    have H := HA.1
    clear HA
    simp only [spec_EqualWorlds.l2] at H
    by_cases gI : a < (j.length : Int)
    rotate_left
    ·rw [if_neg gI] at H
     have it := decide_eq_false gI
     clear gI
     obtain ⟨iJ, hT, H⟩ := bs_ H
     (try dsimp only at H)
     by_cases hB : iJ = true
     rotate_left
     ·replace hB := bf_ hB
      subst hB
      rw [if_neg ff_] at H
      obtain rfl := Option.some.inj H
      have j1 := J.1
      have kk := M.1
      have jE := bc15_ d.1
      have jF := bc15_ g.1
      go_wp2_with (first | ((with_reducible refine gate_callee (f := 19) rfl ?_); refine gl_ (some 183) Try.func19 #[.slice cL aI.length cN, .slice cM aJ.length cO] ?_; (with_reducible refine (spec_EqualInts.calls k4 _ _ aI _ _ aJ false _ (cb_ fZ HB) fX.1 (cb_ f4 HB) fY.1 hT.1).mono ?_); rintro e w' ⟨rfl, ⟨nd, rfl⟩⟩; refine ⟨_, rfl, ?_⟩))
      go_ret
      exact ⟨er_, pb2_ HB.1 ad.1 ai.1⟩
     subst hB
     rw [if_pos rfl] at H
     obtain ⟨iK, iA, H⟩ := bs_ H
     (try dsimp only at H)
     by_cases hC : iK = true
     rotate_left
     ·replace hC := bf_ hC
      subst hC
      rw [if_neg ff_] at H
      obtain rfl := Option.some.inj H
      have j2 := J.1
      have kl := M.1
      have jG := bc15_ d.1
      have jH := bc15_ g.1
      go_wp2_with (first | ((with_reducible refine gate_callee (f := 19) rfl ?_); refine gl_ (some 183) Try.func19 #[.slice cL aI.length cN, .slice cM aJ.length cO] ?_; (with_reducible refine (spec_EqualInts.calls k4 _ _ aI _ _ aJ true _ (cb_ fZ HB) fX.1 (cb_ f4 HB) fY.1 hT.1).mono ?_); rintro e w' ⟨rfl, ⟨nd, rfl⟩⟩; refine ⟨_, rfl, ?_⟩) | (go_at_call 19; (with_reducible refine (spec_EqualInts.calls k4 _ _ ba _ _ bb false _ ?side1 gJ.1 ?side3 g2.1 iA.1).mono ?_); (case side1 => exact pc_ (Kd.C_below g3.1 (pb2_ HB.1 ad.1 ai.1))); (case side3 => exact pc_ (Kd.C_below g4.1 (pb2_ HB.1 ad.1 ai.1))); rintro e w' ⟨rfl, ⟨nd, rfl⟩⟩))
      go_ret
      exact ⟨er_, pb2_ HB.1 ad.1 ai.1⟩
     subst hC
     rw [if_pos rfl] at H
     obtain ⟨hS, jd, H⟩ := bs_ H
     replace H : (some hS) = some r := H
     obtain rfl := Option.some.inj H
     have j3 := J.1
     have km := M.1
     have jI := bc15_ d.1
     have jJ := bc15_ g.1
     go_wp2_with (first | ((with_reducible refine gate_callee (f := 19) rfl ?_); refine gl_ (some 183) Try.func19 #[.slice cL aI.length cN, .slice cM aJ.length cO] ?_; (with_reducible refine (spec_EqualInts.calls k4 _ _ aI _ _ aJ true _ (cb_ fZ HB) fX.1 (cb_ f4 HB) fY.1 hT.1).mono ?_); rintro e w' ⟨rfl, ⟨nd, rfl⟩⟩; refine ⟨_, rfl, ?_⟩) | (go_at_call 19; (with_reducible refine (spec_EqualInts.calls k4 _ _ ba _ _ bb true _ ?side1 gJ.1 ?side3 g2.1 iA.1).mono ?_); (case side1 => exact pc_ (Kd.C_below g3.1 (pb2_ HB.1 ad.1 ai.1))); (case side3 => exact pc_ (Kd.C_below g4.1 (pb2_ HB.1 ad.1 ai.1))); rintro e w' ⟨rfl, ⟨nd, rfl⟩⟩) | (go_at_call 20; (with_reducible refine (spec_EqualRollouts.calls k4 bq _ _ bc br bs bt _ _ bd bu bv hS _ ?side1 hW.1 ?side3 hX.1 jd.1).mono ?_); (case side1 => exact pc_ (Kd.C_below h0.1 (pb2_ HB.1 ad.1 ai.1))); (case side3 => exact pc_ (Kd.C_below h2.1 (pb2_ HB.1 ad.1 ai.1))); rintro e kG ⟨rfl, hb⟩; have _ := Q_ (bb_ d.1 hb); have _ := Q_ (bb_ g.1 hb); have _ := Q_ (below_step (pb2_ HB.1 ad.1 ai.1) hb); clear d g HB; rename_i d g HB; (try clear hb)))
     go_ret
     exact ⟨er_, pb2_ HB.1 ad.1 ai.1⟩
    rw [if_pos gI] at H
    have it := decide_eq_true gI
    clear gI
    by_cases hD : 0 ≤ a
    rotate_left
    ·rw [if_neg hD] at H
     exact nn_ H
    rw [if_pos hD] at H
    have ji := decide_eq_true hD
    clear hD
    by_cases hE : a < (i.length : Int)
    rotate_left
    ·rw [if_neg hE] at H
     exact nn_ H
    rw [if_pos hE] at H
    have jj := decide_eq_true hE
    clear hE
    by_cases ga : ((rd_T57 j a).f0) = ((rd_T57 i a).f0)
    rotate_left
    ·rw [if_neg ga] at H
     have iu : (((rd_T57 j a).f0) == ((rd_T57 i a).f0)) = false := beq_eq_false_iff_ne.mpr ga
     have iv : (((rd_T57 j a).f0) != ((rd_T57 i a).f0)) = true := bne_iff_ne.mpr ga
     obtain rfl := Option.some.inj H
     have j4 := J.1
     have kn := M.1
     have jK := bc15_ d.1
     try go_wp2
     have _ := Q_ (blk_drew d.1)
     have _ := Q_ (blk_drew g.1)
     have _ := Q_ (below_drew1 HB.1)
     clear d g HB
     rename_i d g HB
     have ch : 0 ≤ (a : Int) := dt_
     have cj : a < (j.length : Int) := dt_
     obtain ⟨b, aK, aO, aL, aP, dw, O, P, z, A, Q, p, R, q, bi, be, bj, bf⟩ := at_T57 bw.1 a ch cj
     have bM := q
     have bL := R
     have bK := p
     have bJ := Q
     have aF := A
     have aE := z
     have bI := P
     have bH := O
     cases dw
     replace O := bt_ HB O
     replace P := bt_ HB P
     replace z := bt_ HB z
     replace A := bt_ HB A
     replace Q := bt_ HB Q
     replace p := bt_ HB p
     replace R := bt_ HB R
     replace q := bt_ HB q
     have bT := Q_ be
     have dp := Q_ bi
     clear be bi
     have bU := Q_ bf
     have dq := Q_ bj
     clear bf bj
     replace ch := eq_true ch
     replace cj := eq_true cj
     have ci : 0 ≤ (a : Int) := dt_
     have ck : a < (i.length : Int) := dt_
     obtain ⟨c, aM, aQ, aN, aR, dx, T, U, B, D, V, s, W, t, bk, bg, bl, bh⟩ := at_T57 bx.1 a ci ck
     have bS := t
     have bR := W
     have bQ := s
     have bP := V
     have aH := D
     have aG := B
     have bO := U
     have bN := T
     cases dx
     replace T := bt_ HB T
     replace U := bt_ HB U
     replace B := bt_ HB B
     replace D := bt_ HB D
     replace V := bt_ HB V
     replace s := bt_ HB s
     replace W := bt_ HB W
     replace t := bt_ HB t
     have bV := Q_ bg
     have dr := Q_ bk
     clear bg bk
     have bW := Q_ bh
     have dt := Q_ bl
     clear bh bl
     replace ci := eq_true ci
     replace ck := eq_true ck
     as_aux_lemma =>
      refine start_ (n := 59) (S := fun w' => w'.cell? ⟨l, 0, none⟩ = some (.slice cL aI.length cN) ∧ w'.cell? ⟨l, 1, none⟩ = some (.slice cP ba.length cX) ∧ w'.cell? ⟨l, 2, none⟩ = some (.int .i64 a4) ∧ w'.cell? ⟨l, 3, none⟩ = some (.slice c8 ab.length cY) ∧ w'.cell? ⟨l, 4, none⟩ = some (.int .i64 bq) ∧ w'.cell? ⟨l, 5, none⟩ = some (.slice cQ bc.length cZ) ∧ w'.cell? ⟨l, 6, none⟩ = some (.int .i64 br) ∧ w'.cell? ⟨l, 7, none⟩ = some (.bool bs) ∧ w'.cell? ⟨l, 8, none⟩ = some (.int .i64 a5) ∧ w'.cell? ⟨l, 9, none⟩ = some (.int .i64 a6) ∧ w'.cell? ⟨l, 10, none⟩ = some (.slice cp u.length cl) ∧ w'.cell? ⟨l, 11, none⟩ = some (.slice (some b) j.length cm) ∧ w'.cell? ⟨l, 12, none⟩ = some (.int .i64 aj) ∧ w'.cell? ⟨l, 13, none⟩ = some (.int .i64 ak) ∧ w'.cell? ⟨l, 14, none⟩ = some (.int .i64 aC) ∧ w'.cell? ⟨m, 0, none⟩ = some (.slice cM aJ.length cO) ∧ w'.cell? ⟨m, 1, none⟩ = some (.slice cR bb.length c0) ∧ w'.cell? ⟨m, 2, none⟩ = some (.int .i64 a7) ∧ w'.cell? ⟨m, 3, none⟩ = some (.slice c9 ac.length c1) ∧ w'.cell? ⟨m, 4, none⟩ = some (.int .i64 bt) ∧ w'.cell? ⟨m, 5, none⟩ = some (.slice cS bd.length c2) ∧ w'.cell? ⟨m, 6, none⟩ = some (.int .i64 bu) ∧ w'.cell? ⟨m, 7, none⟩ = some (.bool bv) ∧ w'.cell? ⟨m, 8, none⟩ = some (.int .i64 a8) ∧ w'.cell? ⟨m, 9, none⟩ = some (.int .i64 a9) ∧ w'.cell? ⟨m, 10, none⟩ = some (.slice cq v.length cn) ∧ w'.cell? ⟨m, 11, none⟩ = some (.slice (some c) i.length co) ∧ w'.cell? ⟨m, 12, none⟩ = some (.int .i64 al) ∧ w'.cell? ⟨m, 13, none⟩ = some (.int .i64 am) ∧ w'.cell? ⟨m, 14, none⟩ = some (.int .i64 aD) ∧ w'.cell? (b.add ((a).toNat * 8)) = some (.int .i64 ((rd_T57 j a).f0)) ∧ w'.cell? ⟨(b.add ((a).toNat * 8)).block, (b.add ((a).toNat * 8)).off + 1, none⟩ = some (.int .i64 ((rd_T57 j a).f1)) ∧ w'.cell? ⟨(b.add ((a).toNat * 8)).block, (b.add ((a).toNat * 8)).off + 2, none⟩ = some (.bool ((rd_T57 j a).f2)) ∧ w'.cell? ⟨(b.add ((a).toNat * 8)).block, (b.add ((a).toNat * 8)).off + 3, none⟩ = some (.bool ((rd_T57 j a).f3.f0.f0)) ∧ w'.cell? ⟨(b.add ((a).toNat * 8)).block, (b.add ((a).toNat * 8)).off + 4, none⟩ = some (.int .i64 ((rd_T57 j a).f3.f0.f1)) ∧ w'.cell? ⟨(b.add ((a).toNat * 8)).block, (b.add ((a).toNat * 8)).off + 5, none⟩ = some (.slice aK ((rd_T57 j a).f3.f0.f2).length aO) ∧ w'.cell? ⟨(b.add ((a).toNat * 8)).block, (b.add ((a).toNat * 8)).off + 6, none⟩ = some (.int .i64 ((rd_T57 j a).f3.f1)) ∧ w'.cell? ⟨(b.add ((a).toNat * 8)).block, (b.add ((a).toNat * 8)).off + 7, none⟩ = some (.slice aL ((rd_T57 j a).f3.f2).length aP) ∧ w'.cell? (c.add ((a).toNat * 8)) = some (.int .i64 ((rd_T57 i a).f0)) ∧ w'.cell? ⟨(c.add ((a).toNat * 8)).block, (c.add ((a).toNat * 8)).off + 1, none⟩ = some (.int .i64 ((rd_T57 i a).f1)) ∧ w'.cell? ⟨(c.add ((a).toNat * 8)).block, (c.add ((a).toNat * 8)).off + 2, none⟩ = some (.bool ((rd_T57 i a).f2)) ∧ w'.cell? ⟨(c.add ((a).toNat * 8)).block, (c.add ((a).toNat * 8)).off + 3, none⟩ = some (.bool ((rd_T57 i a).f3.f0.f0)) ∧ w'.cell? ⟨(c.add ((a).toNat * 8)).block, (c.add ((a).toNat * 8)).off + 4, none⟩ = some (.int .i64 ((rd_T57 i a).f3.f0.f1)) ∧ w'.cell? ⟨(c.add ((a).toNat * 8)).block, (c.add ((a).toNat * 8)).off + 5, none⟩ = some (.slice aM ((rd_T57 i a).f3.f0.f2).length aQ) ∧ w'.cell? ⟨(c.add ((a).toNat * 8)).block, (c.add ((a).toNat * 8)).off + 6, none⟩ = some (.int .i64 ((rd_T57 i a).f3.f1)) ∧ w'.cell? ⟨(c.add ((a).toNat * 8)).block, (c.add ((a).toNat * 8)).off + 7, none⟩ = some (.slice aN ((rd_T57 i a).f3.f2).length aR)) (ds := []) (tf_ 0 59) (by kernel_rfl) rfl rfl ⟨(blk_cell d.1 0).trans rfl, (blk_cell d.1 1).trans rfl, (blk_cell d.1 2).trans rfl, (blk_cell d.1 3).trans rfl, (blk_cell d.1 4).trans rfl, (blk_cell d.1 5).trans rfl, (blk_cell d.1 6).trans rfl, (blk_cell d.1 7).trans rfl, (blk_cell d.1 8).trans rfl, (blk_cell d.1 9).trans rfl, (blk_cell d.1 10).trans rfl, (blk_cell d.1 11).trans rfl, (blk_cell d.1 12).trans rfl, (blk_cell d.1 13).trans rfl, (blk_cell d.1 14).trans rfl, (blk_cell g.1 0).trans rfl, (blk_cell g.1 1).trans rfl, (blk_cell g.1 2).trans rfl, (blk_cell g.1 3).trans rfl, (blk_cell g.1 4).trans rfl, (blk_cell g.1 5).trans rfl, (blk_cell g.1 6).trans rfl, (blk_cell g.1 7).trans rfl, (blk_cell g.1 8).trans rfl, (blk_cell g.1 9).trans rfl, (blk_cell g.1 10).trans rfl, (blk_cell g.1 11).trans rfl, (blk_cell g.1 12).trans rfl, (blk_cell g.1 13).trans rfl, (blk_cell g.1 14).trans rfl, (bt_ HB bH), (bt_ HB bI), (bt_ HB aE), (bt_ HB aF), (bt_ HB bJ), (bt_ HB bK), (bt_ HB bL), (bt_ HB bM), (bt_ HB bN), (bt_ HB bO), (bt_ HB aG), (bt_ HB aH), (bt_ HB bP), (bt_ HB bQ), (bt_ HB bR), (bt_ HB bS)⟩ (fun hHeld => ?_); refine with_tabW spec_EqualWorlds.tab16 spec_EqualWorlds.bits16 (fun HT_ HW_ => ?_)
      generalize wr.drew = kH at d g HB bT bU bV bW O P z A Q p R q T U B D V s W t hHeld ⊢
      refine pu1_ 0 120 59 1 ?_
      refine pu1_ 2 122 59 5 ?_
      refine pu1_ 6 126 59 69 ?_
      refine pu1_ 8 128 59 325 ?_
      refine ta1_ 1 121 59 327 hHeld ?_
      refine pu1_ 3 123 59 335 ?_
      refine pu1_ 4 124 59 351 ?_
      refine ta1_ 5 125 59 383 hHeld ?_
      refine ta1_ 7 127 59 511 hHeld ?_
      refine pu1_ 9 129 59 1023 ?_
      refine pu1_ 10 130 59 2047 ?_
      refine ta1_ 11 131 59 4095 hHeld ?_
      refine pu1_ 12 132 59 8191 ?_
      refine pu1_ 13 133 59 16383 ?_
      refine pn1_ 14 134 59 32767 ?_
      refine pn1_ 15 135 59 65535 ?_
      refine pn1_ 16 136 59 131071 ?_
      refine pn1_ 17 137 59 262143 ?_
      refine pn1_ 18 138 59 524287 ?_
      refine pn1_ 19 139 59 1048575 ?_
      refine pn1_ 20 140 59 2097151 ?_
      refine pn1_ 21 141 59 4194303 ?_
      refine pn1_ 22 142 59 8388607 ?_
      refine pn1_ 23 143 59 16777215 ?_
      refine pn1_ 24 144 59 33554431 ?_
      refine pn1_ 25 145 59 67108863 ?_
      refine pn1_ 26 146 59 134217727 ?_
      refine pu1_ 27 147 59 268435455 ?_
      refine pu1_ 28 148 59 536870911 ?_
      refine pn1_ 29 149 59 1073741823 ?_
      refine pn1_ 30 150 59 2147483647 ?_
      refine pn1_ 31 151 59 4294967295 ?_
      refine pn1_ 32 152 59 8589934591 ?_
      refine pn1_ 33 153 59 17179869183 ?_
      refine pn1_ 34 154 59 34359738367 ?_
      refine pn1_ 35 155 59 68719476735 ?_
      refine pn1_ 36 156 59 137438953471 ?_
      refine pn1_ 37 157 59 274877906943 ?_
      refine pn1_ 38 158 59 549755813887 ?_
      refine pn1_ 39 159 59 1099511627775 ?_
      refine pn1_ 40 160 59 2199023255551 ?_
      refine pn1_ 41 161 59 4398046511103 ?_
      refine pu1_ 42 162 59 8796093022207 ?_
      refine pu1_ 43 163 59 17592186044415 ?_
      refine pn1_ 44 164 59 35184372088831 ?_
      refine pn1_ 45 165 59 70368744177663 ?_
      refine pn1_ 46 166 59 140737488355327 ?_
      refine pn1_ 47 167 59 281474976710655 ?_
      refine pn1_ 48 168 59 562949953421311 ?_
      refine pn1_ 49 169 59 1125899906842623 ?_
      refine pn1_ 50 170 59 2251799813685247 ?_
      refine pn1_ 51 171 59 4503599627370495 ?_
      refine pn1_ 52 172 59 9007199254740991 ?_
      refine pn1_ 53 173 59 18014398509481983 ?_
      refine pn1_ 54 174 59 36028797018963967 ?_
      refine pn1_ 55 175 59 72057594037927935 ?_
      refine pn1_ 56 176 59 144115188075855871 ?_
      refine pn1_ 57 177 59 288230376151711743 ?_
      refine pu1_ 58 178 59 576460752303423487 ?_
      refine done_ (done_of HT_.1 (by kernel_rfl)) ?_
      try go_wp2
      go_ret
      exact ⟨er_, pb2_ HB.1 ad.1 ai.1⟩
    rw [if_pos ga] at H
    have iu : (((rd_T57 j a).f0) == ((rd_T57 i a).f0)) = true := beq_iff_eq.mpr ga
    have iv : (((rd_T57 j a).f0) != ((rd_T57 i a).f0)) = false := bne_eq_false_iff_eq.mpr ga
    clear ga
    by_cases gb : ((rd_T57 j a).f1) = ((rd_T57 i a).f1)
    rotate_left
    ·rw [if_neg gb] at H
     have iw : (((rd_T57 j a).f1) == ((rd_T57 i a).f1)) = false := beq_eq_false_iff_ne.mpr gb
     have ix : (((rd_T57 j a).f1) != ((rd_T57 i a).f1)) = true := bne_iff_ne.mpr gb
     obtain rfl := Option.some.inj H
     have j5 := J.1
     have ko := M.1
     have jL := bc15_ d.1
     try go_wp2
     have _ := Q_ (blk_drew d.1)
     have _ := Q_ (blk_drew g.1)
     have _ := Q_ (below_drew1 HB.1)
     clear d g HB
     rename_i d g HB
     have ch : 0 ≤ (a : Int) := dt_
     have cj : a < (j.length : Int) := dt_
     obtain ⟨b, aK, aO, aL, aP, dw, O, P, z, A, Q, p, R, q, bi, be, bj, bf⟩ := at_T57 bw.1 a ch cj
     have bM := q
     have bL := R
     have bK := p
     have bJ := Q
     have aF := A
     have aE := z
     have bI := P
     have bH := O
     cases dw
     replace O := bt_ HB O
     replace P := bt_ HB P
     replace z := bt_ HB z
     replace A := bt_ HB A
     replace Q := bt_ HB Q
     replace p := bt_ HB p
     replace R := bt_ HB R
     replace q := bt_ HB q
     have bT := Q_ be
     have dp := Q_ bi
     clear be bi
     have bU := Q_ bf
     have dq := Q_ bj
     clear bf bj
     replace ch := eq_true ch
     replace cj := eq_true cj
     have ci : 0 ≤ (a : Int) := dt_
     have ck : a < (i.length : Int) := dt_
     obtain ⟨c, aM, aQ, aN, aR, dx, T, U, B, D, V, s, W, t, bk, bg, bl, bh⟩ := at_T57 bx.1 a ci ck
     have bS := t
     have bR := W
     have bQ := s
     have bP := V
     have aH := D
     have aG := B
     have bO := U
     have bN := T
     cases dx
     replace T := bt_ HB T
     replace U := bt_ HB U
     replace B := bt_ HB B
     replace D := bt_ HB D
     replace V := bt_ HB V
     replace s := bt_ HB s
     replace W := bt_ HB W
     replace t := bt_ HB t
     have bV := Q_ bg
     have dr := Q_ bk
     clear bg bk
     have bW := Q_ bh
     have dt := Q_ bl
     clear bh bl
     replace ci := eq_true ci
     replace ck := eq_true ck
     have cH : 0 ≤ (a : Int) := dt_
     have cJ : a < (j.length : Int) := dt_
     obtain ⟨dm, eu, ey, ev, ez, dM, ao, ap, E, F, aq, X, ar, Y, bD, bz, bE, bA⟩ := at_T57 bw.1 a cH cJ
     have ca := Y
     have b9 := ar
     have b8 := X
     have b7 := aq
     have aT := F
     have aS := E
     have b6 := ap
     have b5 := ao
     obtain rfl : b = dm := (by injection dM)
     replace ao := bt_ HB ao
     replace ap := bt_ HB ap
     replace E := bt_ HB E
     replace F := bt_ HB F
     replace aq := bt_ HB aq
     replace X := bt_ HB X
     replace ar := bt_ HB ar
     replace Y := bt_ HB Y
     have cr := Q_ bz
     have dI := Q_ bD
     clear bz bD
     have cs := Q_ bA
     have dJ := Q_ bE
     clear bA bE
     replace cH := eq_true cH
     replace cJ := eq_true cJ
     have ea_ := Option.some.inj (p.symm.trans X)
     injection ea_ with ea_ en_ ec_
     subst ea_
     subst ec_
     clear en_
     have ea_ := Option.some.inj (q.symm.trans Y)
     injection ea_ with ea_ en_ ec_
     subst ea_
     subst ec_
     clear en_
     have cI : 0 ≤ (a : Int) := dt_
     have cK : a < (i.length : Int) := dt_
     obtain ⟨dn, ew, eA, ex, eB, dN, au, av, G, I, aw, Z, ax, aa, bF, bB, bG, bC⟩ := at_T57 bx.1 a cI cK
     have cg := aa
     have cf := ax
     have ce := Z
     have cd := aw
     have aV := I
     have aU := G
     have cc := av
     have cb := au
     obtain rfl : c = dn := (by injection dN)
     replace au := bt_ HB au
     replace av := bt_ HB av
     replace G := bt_ HB G
     replace I := bt_ HB I
     replace aw := bt_ HB aw
     replace Z := bt_ HB Z
     replace ax := bt_ HB ax
     replace aa := bt_ HB aa
     have ct := Q_ bB
     have dK := Q_ bF
     clear bB bF
     have cu := Q_ bC
     have dL := Q_ bG
     clear bC bG
     replace cI := eq_true cI
     replace cK := eq_true cK
     have ea_ := Option.some.inj (s.symm.trans Z)
     injection ea_ with ea_ en_ ec_
     subst ea_
     subst ec_
     clear en_
     have ea_ := Option.some.inj (t.symm.trans aa)
     injection ea_ with ea_ en_ ec_
     subst ea_
     subst ec_
     clear en_
     as_aux_lemma =>
      refine start_ (n := 59) (S := fun w' => w'.cell? ⟨l, 0, none⟩ = some (.slice cL aI.length cN) ∧ w'.cell? ⟨l, 1, none⟩ = some (.slice cP ba.length cX) ∧ w'.cell? ⟨l, 2, none⟩ = some (.int .i64 a4) ∧ w'.cell? ⟨l, 3, none⟩ = some (.slice c8 ab.length cY) ∧ w'.cell? ⟨l, 4, none⟩ = some (.int .i64 bq) ∧ w'.cell? ⟨l, 5, none⟩ = some (.slice cQ bc.length cZ) ∧ w'.cell? ⟨l, 6, none⟩ = some (.int .i64 br) ∧ w'.cell? ⟨l, 7, none⟩ = some (.bool bs) ∧ w'.cell? ⟨l, 8, none⟩ = some (.int .i64 a5) ∧ w'.cell? ⟨l, 9, none⟩ = some (.int .i64 a6) ∧ w'.cell? ⟨l, 10, none⟩ = some (.slice cp u.length cl) ∧ w'.cell? ⟨l, 11, none⟩ = some (.slice (some b) j.length cm) ∧ w'.cell? ⟨l, 12, none⟩ = some (.int .i64 aj) ∧ w'.cell? ⟨l, 13, none⟩ = some (.int .i64 ak) ∧ w'.cell? ⟨l, 14, none⟩ = some (.int .i64 aC) ∧ w'.cell? ⟨m, 0, none⟩ = some (.slice cM aJ.length cO) ∧ w'.cell? ⟨m, 1, none⟩ = some (.slice cR bb.length c0) ∧ w'.cell? ⟨m, 2, none⟩ = some (.int .i64 a7) ∧ w'.cell? ⟨m, 3, none⟩ = some (.slice c9 ac.length c1) ∧ w'.cell? ⟨m, 4, none⟩ = some (.int .i64 bt) ∧ w'.cell? ⟨m, 5, none⟩ = some (.slice cS bd.length c2) ∧ w'.cell? ⟨m, 6, none⟩ = some (.int .i64 bu) ∧ w'.cell? ⟨m, 7, none⟩ = some (.bool bv) ∧ w'.cell? ⟨m, 8, none⟩ = some (.int .i64 a8) ∧ w'.cell? ⟨m, 9, none⟩ = some (.int .i64 a9) ∧ w'.cell? ⟨m, 10, none⟩ = some (.slice cq v.length cn) ∧ w'.cell? ⟨m, 11, none⟩ = some (.slice (some c) i.length co) ∧ w'.cell? ⟨m, 12, none⟩ = some (.int .i64 al) ∧ w'.cell? ⟨m, 13, none⟩ = some (.int .i64 am) ∧ w'.cell? ⟨m, 14, none⟩ = some (.int .i64 aD) ∧ w'.cell? (b.add ((a).toNat * 8)) = some (.int .i64 ((rd_T57 j a).f0)) ∧ w'.cell? ⟨(b.add ((a).toNat * 8)).block, (b.add ((a).toNat * 8)).off + 1, none⟩ = some (.int .i64 ((rd_T57 j a).f1)) ∧ w'.cell? ⟨(b.add ((a).toNat * 8)).block, (b.add ((a).toNat * 8)).off + 2, none⟩ = some (.bool ((rd_T57 j a).f2)) ∧ w'.cell? ⟨(b.add ((a).toNat * 8)).block, (b.add ((a).toNat * 8)).off + 3, none⟩ = some (.bool ((rd_T57 j a).f3.f0.f0)) ∧ w'.cell? ⟨(b.add ((a).toNat * 8)).block, (b.add ((a).toNat * 8)).off + 4, none⟩ = some (.int .i64 ((rd_T57 j a).f3.f0.f1)) ∧ w'.cell? ⟨(b.add ((a).toNat * 8)).block, (b.add ((a).toNat * 8)).off + 5, none⟩ = some (.slice aK ((rd_T57 j a).f3.f0.f2).length aO) ∧ w'.cell? ⟨(b.add ((a).toNat * 8)).block, (b.add ((a).toNat * 8)).off + 6, none⟩ = some (.int .i64 ((rd_T57 j a).f3.f1)) ∧ w'.cell? ⟨(b.add ((a).toNat * 8)).block, (b.add ((a).toNat * 8)).off + 7, none⟩ = some (.slice aL ((rd_T57 j a).f3.f2).length aP) ∧ w'.cell? (c.add ((a).toNat * 8)) = some (.int .i64 ((rd_T57 i a).f0)) ∧ w'.cell? ⟨(c.add ((a).toNat * 8)).block, (c.add ((a).toNat * 8)).off + 1, none⟩ = some (.int .i64 ((rd_T57 i a).f1)) ∧ w'.cell? ⟨(c.add ((a).toNat * 8)).block, (c.add ((a).toNat * 8)).off + 2, none⟩ = some (.bool ((rd_T57 i a).f2)) ∧ w'.cell? ⟨(c.add ((a).toNat * 8)).block, (c.add ((a).toNat * 8)).off + 3, none⟩ = some (.bool ((rd_T57 i a).f3.f0.f0)) ∧ w'.cell? ⟨(c.add ((a).toNat * 8)).block, (c.add ((a).toNat * 8)).off + 4, none⟩ = some (.int .i64 ((rd_T57 i a).f3.f0.f1)) ∧ w'.cell? ⟨(c.add ((a).toNat * 8)).block, (c.add ((a).toNat * 8)).off + 5, none⟩ = some (.slice aM ((rd_T57 i a).f3.f0.f2).length aQ) ∧ w'.cell? ⟨(c.add ((a).toNat * 8)).block, (c.add ((a).toNat * 8)).off + 6, none⟩ = some (.int .i64 ((rd_T57 i a).f3.f1)) ∧ w'.cell? ⟨(c.add ((a).toNat * 8)).block, (c.add ((a).toNat * 8)).off + 7, none⟩ = some (.slice aN ((rd_T57 i a).f3.f2).length aR) ∧ w'.cell? (b.add ((a).toNat * 8)) = some (.int .i64 ((rd_T57 j a).f0)) ∧ w'.cell? ⟨(b.add ((a).toNat * 8)).block, (b.add ((a).toNat * 8)).off + 1, none⟩ = some (.int .i64 ((rd_T57 j a).f1)) ∧ w'.cell? ⟨(b.add ((a).toNat * 8)).block, (b.add ((a).toNat * 8)).off + 2, none⟩ = some (.bool ((rd_T57 j a).f2)) ∧ w'.cell? ⟨(b.add ((a).toNat * 8)).block, (b.add ((a).toNat * 8)).off + 3, none⟩ = some (.bool ((rd_T57 j a).f3.f0.f0)) ∧ w'.cell? ⟨(b.add ((a).toNat * 8)).block, (b.add ((a).toNat * 8)).off + 4, none⟩ = some (.int .i64 ((rd_T57 j a).f3.f0.f1)) ∧ w'.cell? ⟨(b.add ((a).toNat * 8)).block, (b.add ((a).toNat * 8)).off + 5, none⟩ = some (.slice aK ((rd_T57 j a).f3.f0.f2).length aO) ∧ w'.cell? ⟨(b.add ((a).toNat * 8)).block, (b.add ((a).toNat * 8)).off + 6, none⟩ = some (.int .i64 ((rd_T57 j a).f3.f1)) ∧ w'.cell? ⟨(b.add ((a).toNat * 8)).block, (b.add ((a).toNat * 8)).off + 7, none⟩ = some (.slice aL ((rd_T57 j a).f3.f2).length aP) ∧ w'.cell? (c.add ((a).toNat * 8)) = some (.int .i64 ((rd_T57 i a).f0)) ∧ w'.cell? ⟨(c.add ((a).toNat * 8)).block, (c.add ((a).toNat * 8)).off + 1, none⟩ = some (.int .i64 ((rd_T57 i a).f1)) ∧ w'.cell? ⟨(c.add ((a).toNat * 8)).block, (c.add ((a).toNat * 8)).off + 2, none⟩ = some (.bool ((rd_T57 i a).f2)) ∧ w'.cell? ⟨(c.add ((a).toNat * 8)).block, (c.add ((a).toNat * 8)).off + 3, none⟩ = some (.bool ((rd_T57 i a).f3.f0.f0)) ∧ w'.cell? ⟨(c.add ((a).toNat * 8)).block, (c.add ((a).toNat * 8)).off + 4, none⟩ = some (.int .i64 ((rd_T57 i a).f3.f0.f1)) ∧ w'.cell? ⟨(c.add ((a).toNat * 8)).block, (c.add ((a).toNat * 8)).off + 5, none⟩ = some (.slice aM ((rd_T57 i a).f3.f0.f2).length aQ) ∧ w'.cell? ⟨(c.add ((a).toNat * 8)).block, (c.add ((a).toNat * 8)).off + 6, none⟩ = some (.int .i64 ((rd_T57 i a).f3.f1)) ∧ w'.cell? ⟨(c.add ((a).toNat * 8)).block, (c.add ((a).toNat * 8)).off + 7, none⟩ = some (.slice aN ((rd_T57 i a).f3.f2).length aR)) (ds := []) (tf_ 0 59) (by kernel_rfl) rfl rfl ⟨(blk_cell d.1 0).trans rfl, (blk_cell d.1 1).trans rfl, (blk_cell d.1 2).trans rfl, (blk_cell d.1 3).trans rfl, (blk_cell d.1 4).trans rfl, (blk_cell d.1 5).trans rfl, (blk_cell d.1 6).trans rfl, (blk_cell d.1 7).trans rfl, (blk_cell d.1 8).trans rfl, (blk_cell d.1 9).trans rfl, (blk_cell d.1 10).trans rfl, (blk_cell d.1 11).trans rfl, (blk_cell d.1 12).trans rfl, (blk_cell d.1 13).trans rfl, (blk_cell d.1 14).trans rfl, (blk_cell g.1 0).trans rfl, (blk_cell g.1 1).trans rfl, (blk_cell g.1 2).trans rfl, (blk_cell g.1 3).trans rfl, (blk_cell g.1 4).trans rfl, (blk_cell g.1 5).trans rfl, (blk_cell g.1 6).trans rfl, (blk_cell g.1 7).trans rfl, (blk_cell g.1 8).trans rfl, (blk_cell g.1 9).trans rfl, (blk_cell g.1 10).trans rfl, (blk_cell g.1 11).trans rfl, (blk_cell g.1 12).trans rfl, (blk_cell g.1 13).trans rfl, (blk_cell g.1 14).trans rfl, (bt_ HB bH), (bt_ HB bI), (bt_ HB aE), (bt_ HB aF), (bt_ HB bJ), (bt_ HB bK), (bt_ HB bL), (bt_ HB bM), (bt_ HB bN), (bt_ HB bO), (bt_ HB aG), (bt_ HB aH), (bt_ HB bP), (bt_ HB bQ), (bt_ HB bR), (bt_ HB bS), (bt_ HB b5), (bt_ HB b6), (bt_ HB aS), (bt_ HB aT), (bt_ HB b7), (bt_ HB b8), (bt_ HB b9), (bt_ HB ca), (bt_ HB cb), (bt_ HB cc), (bt_ HB aU), (bt_ HB aV), (bt_ HB cd), (bt_ HB ce), (bt_ HB cf), (bt_ HB cg)⟩ (fun hHeld => ?_); refine with_tabW spec_EqualWorlds.tab16 spec_EqualWorlds.bits16 (fun HT_ HW_ => ?_)
      generalize wr.drew = kI at d g HB bT bU bV bW cr cs ct cu O P z A Q p R q T U B D V s W t ao ap E F aq X ar Y au av G I aw Z ax aa hHeld ⊢
      refine pu1_ 0 120 59 1 ?_
      refine pu1_ 2 122 59 5 ?_
      refine pu1_ 6 126 59 69 ?_
      refine pu1_ 8 128 59 325 ?_
      refine ta1_ 1 121 59 327 hHeld ?_
      refine pu1_ 3 123 59 335 ?_
      refine pu1_ 4 124 59 351 ?_
      refine ta1_ 5 125 59 383 hHeld ?_
      refine ta1_ 7 127 59 511 hHeld ?_
      refine pu1_ 9 129 59 1023 ?_
      refine pu1_ 10 130 59 2047 ?_
      refine ta1_ 11 131 59 4095 hHeld ?_
      refine pu1_ 12 132 59 8191 ?_
      refine pu1_ 13 133 59 16383 ?_
      refine pu1_ 14 134 59 32767 ?_
      refine pu1_ 16 136 59 98303 ?_
      refine pu1_ 20 140 59 1146879 ?_
      refine pu1_ 22 142 59 5341183 ?_
      refine ta1_ 15 135 59 5373951 hHeld ?_
      refine pu1_ 17 137 59 5505023 ?_
      refine pu1_ 18 138 59 5767167 ?_
      refine ta1_ 19 139 59 6291455 hHeld ?_
      refine ta1_ 21 141 59 8388607 hHeld ?_
      refine pu1_ 23 143 59 16777215 ?_
      refine pu1_ 24 144 59 33554431 ?_
      refine ta1_ 25 145 59 67108863 hHeld ?_
      refine pu1_ 26 146 59 134217727 ?_
      refine pu1_ 27 147 59 268435455 ?_
      refine pu1_ 28 148 59 536870911 ?_
      refine pn1_ 29 149 59 1073741823 ?_
      refine pn1_ 30 150 59 2147483647 ?_
      refine pn1_ 31 151 59 4294967295 ?_
      refine pn1_ 32 152 59 8589934591 ?_
      refine pn1_ 33 153 59 17179869183 ?_
      refine pn1_ 34 154 59 34359738367 ?_
      refine pn1_ 35 155 59 68719476735 ?_
      refine pn1_ 36 156 59 137438953471 ?_
      refine pn1_ 37 157 59 274877906943 ?_
      refine pn1_ 38 158 59 549755813887 ?_
      refine pn1_ 39 159 59 1099511627775 ?_
      refine pn1_ 40 160 59 2199023255551 ?_
      refine pn1_ 41 161 59 4398046511103 ?_
      refine pu1_ 42 162 59 8796093022207 ?_
      refine pu1_ 43 163 59 17592186044415 ?_
      refine pn1_ 44 164 59 35184372088831 ?_
      refine pn1_ 45 165 59 70368744177663 ?_
      refine pn1_ 46 166 59 140737488355327 ?_
      refine pn1_ 47 167 59 281474976710655 ?_
      refine pn1_ 48 168 59 562949953421311 ?_
      refine pn1_ 49 169 59 1125899906842623 ?_
      refine pn1_ 50 170 59 2251799813685247 ?_
      refine pn1_ 51 171 59 4503599627370495 ?_
      refine pn1_ 52 172 59 9007199254740991 ?_
      refine pn1_ 53 173 59 18014398509481983 ?_
      refine pn1_ 54 174 59 36028797018963967 ?_
      refine pn1_ 55 175 59 72057594037927935 ?_
      refine pn1_ 56 176 59 144115188075855871 ?_
      refine pn1_ 57 177 59 288230376151711743 ?_
      refine pu1_ 58 178 59 576460752303423487 ?_
      refine done_ (done_of HT_.1 (by kernel_rfl)) ?_
      try go_wp2
      go_ret
      exact ⟨er_, pb2_ HB.1 ad.1 ai.1⟩
    rw [if_pos gb] at H
    have iw : (((rd_T57 j a).f1) == ((rd_T57 i a).f1)) = true := beq_iff_eq.mpr gb
    have ix : (((rd_T57 j a).f1) != ((rd_T57 i a).f1)) = false := bne_eq_false_iff_eq.mpr gb
    clear gb
    obtain ⟨hN, hbq74⟩ : ∃ b_ : Bool, b_ = ((rd_T57 j a).f2) := ⟨_, rfl⟩
    replace H : (if hN = true then (if (rd_T57 i a).f2 = true then ((spec_EqualDialed.f k4 ((rd_T57 j a).f3.f0.f0) ((rd_T57 j a).f3.f0.f1) ((rd_T57 j a).f3.f0.f2) ((rd_T57 j a).f3.f1) ((rd_T57 j a).f3.f2) ((rd_T57 i a).f3.f0.f0) ((rd_T57 i a).f3.f0.f1) ((rd_T57 i a).f3.f0.f2) ((rd_T57 i a).f3.f1) ((rd_T57 i a).f3.f2)).bind fun eK => (if eK = true then (spec_EqualWorlds.l2 k4 (wrap64 (a + 1)) aI ba a4 ab bq bc br bs a5 a6 u j aj ak aC aJ bb a7 ac bt bd bu bv a8 a9 v i al am aD) else (some false))) else (some false)) else (if (rd_T57 i a).f2 = true then (some false) else ((spec_EqualDialed.f k4 ((rd_T57 j a).f3.f0.f0) ((rd_T57 j a).f3.f0.f1) ((rd_T57 j a).f3.f0.f2) ((rd_T57 j a).f3.f1) ((rd_T57 j a).f3.f2) ((rd_T57 i a).f3.f0.f0) ((rd_T57 i a).f3.f0.f1) ((rd_T57 i a).f3.f0.f2) ((rd_T57 i a).f3.f1) ((rd_T57 i a).f3.f2)).bind fun eL => (if eL = true then (spec_EqualWorlds.l2 k4 (wrap64 (a + 1)) aI ba a4 ab bq bc br bs a5 a6 u j aj ak aC aJ bb a7 ac bt bd bu bv a8 a9 v i al am aD) else (some false))))) = some r := by rw [← hbq74] at H; exact H
    have o := Q_ hbq74
    clear hbq74
    by_cases hF : hN = true
    rotate_left
    ·replace hF := bf_ hF
     subst hF
     rw [if_neg ff_] at H
     obtain ⟨hO, hbq76⟩ : ∃ b_ : Bool, b_ = ((rd_T57 i a).f2) := ⟨_, rfl⟩
     replace H : (if hO = true then (some false) else ((spec_EqualDialed.f k4 ((rd_T57 j a).f3.f0.f0) ((rd_T57 j a).f3.f0.f1) ((rd_T57 j a).f3.f0.f2) ((rd_T57 j a).f3.f1) ((rd_T57 j a).f3.f2) ((rd_T57 i a).f3.f0.f0) ((rd_T57 i a).f3.f0.f1) ((rd_T57 i a).f3.f0.f2) ((rd_T57 i a).f3.f1) ((rd_T57 i a).f3.f2)).bind fun eL => (if eL = true then (spec_EqualWorlds.l2 k4 (wrap64 (a + 1)) aI ba a4 ab bq bc br bs a5 a6 u j aj ak aC aJ bb a7 ac bt bd bu bv a8 a9 v i al am aD) else (some false)))) = some r := by rw [← hbq76] at H; exact H
     have x := Q_ hbq76
     clear hbq76
     by_cases hG : hO = true
     ·subst hG
      rw [if_pos rfl] at H
      obtain rfl := Option.some.inj H
      have j6 := J.1
      have kp := M.1
      have jM := bc15_ d.1
      try go_wp2
      have _ := Q_ (blk_drew d.1)
      have _ := Q_ (blk_drew g.1)
      have _ := Q_ (below_drew1 HB.1)
      clear d g HB
      rename_i d g HB
      have ch : 0 ≤ (a : Int) := dt_
      have cj : a < (j.length : Int) := dt_
      obtain ⟨b, aK, aO, aL, aP, dw, O, P, z, A, Q, p, R, q, bi, be, bj, bf⟩ := at_T57 bw.1 a ch cj
      have bM := q
      have bL := R
      have bK := p
      have bJ := Q
      have aF := A
      (try rw [← o.1] at aF)
      (try rw [← x.1] at aF)
      have aE := z
      (try rw [← o.1] at aE)
      (try rw [← x.1] at aE)
      have bI := P
      have bH := O
      (try rw [← o.1] at z)
      (try rw [← x.1] at z)
      (try rw [← o.1] at A)
      (try rw [← x.1] at A)
      cases dw
      replace O := bt_ HB O
      replace P := bt_ HB P
      replace z := bt_ HB z
      replace A := bt_ HB A
      replace Q := bt_ HB Q
      replace p := bt_ HB p
      replace R := bt_ HB R
      replace q := bt_ HB q
      have bT := Q_ be
      have dp := Q_ bi
      clear be bi
      have bU := Q_ bf
      have dq := Q_ bj
      clear bf bj
      replace ch := eq_true ch
      replace cj := eq_true cj
      have ci : 0 ≤ (a : Int) := dt_
      have ck : a < (i.length : Int) := dt_
      obtain ⟨c, aM, aQ, aN, aR, dx, T, U, B, D, V, s, W, t, bk, bg, bl, bh⟩ := at_T57 bx.1 a ci ck
      have bS := t
      have bR := W
      have bQ := s
      have bP := V
      have aH := D
      (try rw [← o.1] at aH)
      (try rw [← x.1] at aH)
      have aG := B
      (try rw [← o.1] at aG)
      (try rw [← x.1] at aG)
      have bO := U
      have bN := T
      (try rw [← o.1] at B)
      (try rw [← x.1] at B)
      (try rw [← o.1] at D)
      (try rw [← x.1] at D)
      cases dx
      replace T := bt_ HB T
      replace U := bt_ HB U
      replace B := bt_ HB B
      replace D := bt_ HB D
      replace V := bt_ HB V
      replace s := bt_ HB s
      replace W := bt_ HB W
      replace t := bt_ HB t
      have bV := Q_ bg
      have dr := Q_ bk
      clear bg bk
      have bW := Q_ bh
      have dt := Q_ bl
      clear bh bl
      replace ci := eq_true ci
      replace ck := eq_true ck
      have cH : 0 ≤ (a : Int) := dt_
      have cJ : a < (j.length : Int) := dt_
      obtain ⟨dm, eu, ey, ev, ez, dM, ao, ap, E, F, aq, X, ar, Y, bD, bz, bE, bA⟩ := at_T57 bw.1 a cH cJ
      have ca := Y
      have b9 := ar
      have b8 := X
      have b7 := aq
      have aT := F
      (try rw [← o.1] at aT)
      (try rw [← x.1] at aT)
      have aS := E
      (try rw [← o.1] at aS)
      (try rw [← x.1] at aS)
      have b6 := ap
      have b5 := ao
      (try rw [← o.1] at E)
      (try rw [← x.1] at E)
      (try rw [← o.1] at F)
      (try rw [← x.1] at F)
      obtain rfl : b = dm := (by injection dM)
      replace ao := bt_ HB ao
      replace ap := bt_ HB ap
      replace E := bt_ HB E
      replace F := bt_ HB F
      replace aq := bt_ HB aq
      replace X := bt_ HB X
      replace ar := bt_ HB ar
      replace Y := bt_ HB Y
      have cr := Q_ bz
      have dI := Q_ bD
      clear bz bD
      have cs := Q_ bA
      have dJ := Q_ bE
      clear bA bE
      replace cH := eq_true cH
      replace cJ := eq_true cJ
      have ea_ := Option.some.inj (p.symm.trans X)
      injection ea_ with ea_ en_ ec_
      subst ea_
      subst ec_
      clear en_
      have ea_ := Option.some.inj (q.symm.trans Y)
      injection ea_ with ea_ en_ ec_
      subst ea_
      subst ec_
      clear en_
      have cI : 0 ≤ (a : Int) := dt_
      have cK : a < (i.length : Int) := dt_
      obtain ⟨dn, ew, eA, ex, eB, dN, au, av, G, I, aw, Z, ax, aa, bF, bB, bG, bC⟩ := at_T57 bx.1 a cI cK
      have cg := aa
      have cf := ax
      have ce := Z
      have cd := aw
      have aV := I
      (try rw [← o.1] at aV)
      (try rw [← x.1] at aV)
      have aU := G
      (try rw [← o.1] at aU)
      (try rw [← x.1] at aU)
      have cc := av
      have cb := au
      (try rw [← o.1] at G)
      (try rw [← x.1] at G)
      (try rw [← o.1] at I)
      (try rw [← x.1] at I)
      obtain rfl : c = dn := (by injection dN)
      replace au := bt_ HB au
      replace av := bt_ HB av
      replace G := bt_ HB G
      replace I := bt_ HB I
      replace aw := bt_ HB aw
      replace Z := bt_ HB Z
      replace ax := bt_ HB ax
      replace aa := bt_ HB aa
      have ct := Q_ bB
      have dK := Q_ bF
      clear bB bF
      have cu := Q_ bC
      have dL := Q_ bG
      clear bC bG
      replace cI := eq_true cI
      replace cK := eq_true cK
      have ea_ := Option.some.inj (s.symm.trans Z)
      injection ea_ with ea_ en_ ec_
      subst ea_
      subst ec_
      clear en_
      have ea_ := Option.some.inj (t.symm.trans aa)
      injection ea_ with ea_ en_ ec_
      subst ea_
      subst ec_
      clear en_
      have c3 : 0 ≤ (a : Int) := dt_
      have c5 : a < (j.length : Int) := dt_
      obtain ⟨dG, eM, eQ, eN, eR, eI, aW, aX, ae, af, aY, ay, aZ, az, b1, bX, b2, bY⟩ := at_T57 bw.1 a c3 c5
      have cA := az
      have cz := aZ
      have cy := ay
      have cx := aY
      have bn := af
      (try rw [← o.1] at bn)
      (try rw [← x.1] at bn)
      have bm := ae
      (try rw [← o.1] at bm)
      (try rw [← x.1] at bm)
      have cw := aX
      have cv := aW
      (try rw [← o.1] at ae)
      (try rw [← x.1] at ae)
      (try rw [← o.1] at af)
      (try rw [← x.1] at af)
      obtain rfl : b = dG := (by injection eI)
      replace aW := bt_ HB aW
      replace aX := bt_ HB aX
      replace ae := bt_ HB ae
      replace af := bt_ HB af
      replace aY := bt_ HB aY
      replace ay := bt_ HB ay
      replace aZ := bt_ HB aZ
      replace az := bt_ HB az
      have cT := Q_ bX
      have eC := Q_ b1
      clear bX b1
      have cU := Q_ bY
      have eD := Q_ b2
      clear bY b2
      replace c3 := eq_true c3
      replace c5 := eq_true c5
      have ea_ := Option.some.inj (p.symm.trans ay)
      injection ea_ with ea_ en_ ec_
      subst ea_
      subst ec_
      clear en_
      have ea_ := Option.some.inj (q.symm.trans az)
      injection ea_ with ea_ en_ ec_
      subst ea_
      subst ec_
      clear en_
      have c4 : 0 ≤ (a : Int) := dt_
      have c7 : a < (i.length : Int) := dt_
      obtain ⟨dH, eO, eS, eP, eT, eJ, a0, a1, ag, ah, a2, aA, a3, aB, b3, bZ, b4, b0⟩ := at_T57 bx.1 a c4 c7
      have cG := aB
      have cF := a3
      have cE := aA
      have cD := a2
      have bp := ah
      (try rw [← o.1] at bp)
      (try rw [← x.1] at bp)
      have bo := ag
      (try rw [← o.1] at bo)
      (try rw [← x.1] at bo)
      have cC := a1
      have cB := a0
      (try rw [← o.1] at ag)
      (try rw [← x.1] at ag)
      (try rw [← o.1] at ah)
      (try rw [← x.1] at ah)
      obtain rfl : c = dH := (by injection eJ)
      replace a0 := bt_ HB a0
      replace a1 := bt_ HB a1
      replace ag := bt_ HB ag
      replace ah := bt_ HB ah
      replace a2 := bt_ HB a2
      replace aA := bt_ HB aA
      replace a3 := bt_ HB a3
      replace aB := bt_ HB aB
      have cV := Q_ bZ
      have eE := Q_ b3
      clear bZ b3
      have cW := Q_ b0
      have eF := Q_ b4
      clear b0 b4
      replace c4 := eq_true c4
      replace c7 := eq_true c7
      have ea_ := Option.some.inj (s.symm.trans aA)
      injection ea_ with ea_ en_ ec_
      subst ea_
      subst ec_
      clear en_
      have ea_ := Option.some.inj (t.symm.trans aB)
      injection ea_ with ea_ en_ ec_
      subst ea_
      subst ec_
      clear en_
      as_aux_lemma =>
       refine start_ (n := 59) (S := fun w' => w'.cell? ⟨l, 0, none⟩ = some (.slice cL aI.length cN) ∧ w'.cell? ⟨l, 1, none⟩ = some (.slice cP ba.length cX) ∧ w'.cell? ⟨l, 2, none⟩ = some (.int .i64 a4) ∧ w'.cell? ⟨l, 3, none⟩ = some (.slice c8 ab.length cY) ∧ w'.cell? ⟨l, 4, none⟩ = some (.int .i64 bq) ∧ w'.cell? ⟨l, 5, none⟩ = some (.slice cQ bc.length cZ) ∧ w'.cell? ⟨l, 6, none⟩ = some (.int .i64 br) ∧ w'.cell? ⟨l, 7, none⟩ = some (.bool bs) ∧ w'.cell? ⟨l, 8, none⟩ = some (.int .i64 a5) ∧ w'.cell? ⟨l, 9, none⟩ = some (.int .i64 a6) ∧ w'.cell? ⟨l, 10, none⟩ = some (.slice cp u.length cl) ∧ w'.cell? ⟨l, 11, none⟩ = some (.slice (some b) j.length cm) ∧ w'.cell? ⟨l, 12, none⟩ = some (.int .i64 aj) ∧ w'.cell? ⟨l, 13, none⟩ = some (.int .i64 ak) ∧ w'.cell? ⟨l, 14, none⟩ = some (.int .i64 aC) ∧ w'.cell? ⟨m, 0, none⟩ = some (.slice cM aJ.length cO) ∧ w'.cell? ⟨m, 1, none⟩ = some (.slice cR bb.length c0) ∧ w'.cell? ⟨m, 2, none⟩ = some (.int .i64 a7) ∧ w'.cell? ⟨m, 3, none⟩ = some (.slice c9 ac.length c1) ∧ w'.cell? ⟨m, 4, none⟩ = some (.int .i64 bt) ∧ w'.cell? ⟨m, 5, none⟩ = some (.slice cS bd.length c2) ∧ w'.cell? ⟨m, 6, none⟩ = some (.int .i64 bu) ∧ w'.cell? ⟨m, 7, none⟩ = some (.bool bv) ∧ w'.cell? ⟨m, 8, none⟩ = some (.int .i64 a8) ∧ w'.cell? ⟨m, 9, none⟩ = some (.int .i64 a9) ∧ w'.cell? ⟨m, 10, none⟩ = some (.slice cq v.length cn) ∧ w'.cell? ⟨m, 11, none⟩ = some (.slice (some c) i.length co) ∧ w'.cell? ⟨m, 12, none⟩ = some (.int .i64 al) ∧ w'.cell? ⟨m, 13, none⟩ = some (.int .i64 am) ∧ w'.cell? ⟨m, 14, none⟩ = some (.int .i64 aD) ∧ w'.cell? (b.add ((a).toNat * 8)) = some (.int .i64 ((rd_T57 j a).f0)) ∧ w'.cell? ⟨(b.add ((a).toNat * 8)).block, (b.add ((a).toNat * 8)).off + 1, none⟩ = some (.int .i64 ((rd_T57 j a).f1)) ∧ w'.cell? ⟨(b.add ((a).toNat * 8)).block, (b.add ((a).toNat * 8)).off + 2, none⟩ = some (.bool false) ∧ w'.cell? ⟨(b.add ((a).toNat * 8)).block, (b.add ((a).toNat * 8)).off + 3, none⟩ = some (.bool ((rd_T57 j a).f3.f0.f0)) ∧ w'.cell? ⟨(b.add ((a).toNat * 8)).block, (b.add ((a).toNat * 8)).off + 4, none⟩ = some (.int .i64 ((rd_T57 j a).f3.f0.f1)) ∧ w'.cell? ⟨(b.add ((a).toNat * 8)).block, (b.add ((a).toNat * 8)).off + 5, none⟩ = some (.slice aK ((rd_T57 j a).f3.f0.f2).length aO) ∧ w'.cell? ⟨(b.add ((a).toNat * 8)).block, (b.add ((a).toNat * 8)).off + 6, none⟩ = some (.int .i64 ((rd_T57 j a).f3.f1)) ∧ w'.cell? ⟨(b.add ((a).toNat * 8)).block, (b.add ((a).toNat * 8)).off + 7, none⟩ = some (.slice aL ((rd_T57 j a).f3.f2).length aP) ∧ w'.cell? (c.add ((a).toNat * 8)) = some (.int .i64 ((rd_T57 i a).f0)) ∧ w'.cell? ⟨(c.add ((a).toNat * 8)).block, (c.add ((a).toNat * 8)).off + 1, none⟩ = some (.int .i64 ((rd_T57 i a).f1)) ∧ w'.cell? ⟨(c.add ((a).toNat * 8)).block, (c.add ((a).toNat * 8)).off + 2, none⟩ = some (.bool true) ∧ w'.cell? ⟨(c.add ((a).toNat * 8)).block, (c.add ((a).toNat * 8)).off + 3, none⟩ = some (.bool ((rd_T57 i a).f3.f0.f0)) ∧ w'.cell? ⟨(c.add ((a).toNat * 8)).block, (c.add ((a).toNat * 8)).off + 4, none⟩ = some (.int .i64 ((rd_T57 i a).f3.f0.f1)) ∧ w'.cell? ⟨(c.add ((a).toNat * 8)).block, (c.add ((a).toNat * 8)).off + 5, none⟩ = some (.slice aM ((rd_T57 i a).f3.f0.f2).length aQ) ∧ w'.cell? ⟨(c.add ((a).toNat * 8)).block, (c.add ((a).toNat * 8)).off + 6, none⟩ = some (.int .i64 ((rd_T57 i a).f3.f1)) ∧ w'.cell? ⟨(c.add ((a).toNat * 8)).block, (c.add ((a).toNat * 8)).off + 7, none⟩ = some (.slice aN ((rd_T57 i a).f3.f2).length aR) ∧ w'.cell? (b.add ((a).toNat * 8)) = some (.int .i64 ((rd_T57 j a).f0)) ∧ w'.cell? ⟨(b.add ((a).toNat * 8)).block, (b.add ((a).toNat * 8)).off + 1, none⟩ = some (.int .i64 ((rd_T57 j a).f1)) ∧ w'.cell? ⟨(b.add ((a).toNat * 8)).block, (b.add ((a).toNat * 8)).off + 2, none⟩ = some (.bool false) ∧ w'.cell? ⟨(b.add ((a).toNat * 8)).block, (b.add ((a).toNat * 8)).off + 3, none⟩ = some (.bool ((rd_T57 j a).f3.f0.f0)) ∧ w'.cell? ⟨(b.add ((a).toNat * 8)).block, (b.add ((a).toNat * 8)).off + 4, none⟩ = some (.int .i64 ((rd_T57 j a).f3.f0.f1)) ∧ w'.cell? ⟨(b.add ((a).toNat * 8)).block, (b.add ((a).toNat * 8)).off + 5, none⟩ = some (.slice aK ((rd_T57 j a).f3.f0.f2).length aO) ∧ w'.cell? ⟨(b.add ((a).toNat * 8)).block, (b.add ((a).toNat * 8)).off + 6, none⟩ = some (.int .i64 ((rd_T57 j a).f3.f1)) ∧ w'.cell? ⟨(b.add ((a).toNat * 8)).block, (b.add ((a).toNat * 8)).off + 7, none⟩ = some (.slice aL ((rd_T57 j a).f3.f2).length aP) ∧ w'.cell? (c.add ((a).toNat * 8)) = some (.int .i64 ((rd_T57 i a).f0)) ∧ w'.cell? ⟨(c.add ((a).toNat * 8)).block, (c.add ((a).toNat * 8)).off + 1, none⟩ = some (.int .i64 ((rd_T57 i a).f1)) ∧ w'.cell? ⟨(c.add ((a).toNat * 8)).block, (c.add ((a).toNat * 8)).off + 2, none⟩ = some (.bool true) ∧ w'.cell? ⟨(c.add ((a).toNat * 8)).block, (c.add ((a).toNat * 8)).off + 3, none⟩ = some (.bool ((rd_T57 i a).f3.f0.f0)) ∧ w'.cell? ⟨(c.add ((a).toNat * 8)).block, (c.add ((a).toNat * 8)).off + 4, none⟩ = some (.int .i64 ((rd_T57 i a).f3.f0.f1)) ∧ w'.cell? ⟨(c.add ((a).toNat * 8)).block, (c.add ((a).toNat * 8)).off + 5, none⟩ = some (.slice aM ((rd_T57 i a).f3.f0.f2).length aQ) ∧ w'.cell? ⟨(c.add ((a).toNat * 8)).block, (c.add ((a).toNat * 8)).off + 6, none⟩ = some (.int .i64 ((rd_T57 i a).f3.f1)) ∧ w'.cell? ⟨(c.add ((a).toNat * 8)).block, (c.add ((a).toNat * 8)).off + 7, none⟩ = some (.slice aN ((rd_T57 i a).f3.f2).length aR) ∧ w'.cell? (b.add ((a).toNat * 8)) = some (.int .i64 ((rd_T57 j a).f0)) ∧ w'.cell? ⟨(b.add ((a).toNat * 8)).block, (b.add ((a).toNat * 8)).off + 1, none⟩ = some (.int .i64 ((rd_T57 j a).f1)) ∧ w'.cell? ⟨(b.add ((a).toNat * 8)).block, (b.add ((a).toNat * 8)).off + 2, none⟩ = some (.bool false) ∧ w'.cell? ⟨(b.add ((a).toNat * 8)).block, (b.add ((a).toNat * 8)).off + 3, none⟩ = some (.bool ((rd_T57 j a).f3.f0.f0)) ∧ w'.cell? ⟨(b.add ((a).toNat * 8)).block, (b.add ((a).toNat * 8)).off + 4, none⟩ = some (.int .i64 ((rd_T57 j a).f3.f0.f1)) ∧ w'.cell? ⟨(b.add ((a).toNat * 8)).block, (b.add ((a).toNat * 8)).off + 5, none⟩ = some (.slice aK ((rd_T57 j a).f3.f0.f2).length aO) ∧ w'.cell? ⟨(b.add ((a).toNat * 8)).block, (b.add ((a).toNat * 8)).off + 6, none⟩ = some (.int .i64 ((rd_T57 j a).f3.f1)) ∧ w'.cell? ⟨(b.add ((a).toNat * 8)).block, (b.add ((a).toNat * 8)).off + 7, none⟩ = some (.slice aL ((rd_T57 j a).f3.f2).length aP) ∧ w'.cell? (c.add ((a).toNat * 8)) = some (.int .i64 ((rd_T57 i a).f0)) ∧ w'.cell? ⟨(c.add ((a).toNat * 8)).block, (c.add ((a).toNat * 8)).off + 1, none⟩ = some (.int .i64 ((rd_T57 i a).f1)) ∧ w'.cell? ⟨(c.add ((a).toNat * 8)).block, (c.add ((a).toNat * 8)).off + 2, none⟩ = some (.bool true) ∧ w'.cell? ⟨(c.add ((a).toNat * 8)).block, (c.add ((a).toNat * 8)).off + 3, none⟩ = some (.bool ((rd_T57 i a).f3.f0.f0)) ∧ w'.cell? ⟨(c.add ((a).toNat * 8)).block, (c.add ((a).toNat * 8)).off + 4, none⟩ = some (.int .i64 ((rd_T57 i a).f3.f0.f1)) ∧ w'.cell? ⟨(c.add ((a).toNat * 8)).block, (c.add ((a).toNat * 8)).off + 5, none⟩ = some (.slice aM ((rd_T57 i a).f3.f0.f2).length aQ) ∧ w'.cell? ⟨(c.add ((a).toNat * 8)).block, (c.add ((a).toNat * 8)).off + 6, none⟩ = some (.int .i64 ((rd_T57 i a).f3.f1)) ∧ w'.cell? ⟨(c.add ((a).toNat * 8)).block, (c.add ((a).toNat * 8)).off + 7, none⟩ = some (.slice aN ((rd_T57 i a).f3.f2).length aR)) (ds := []) (tf_ 0 59) (by kernel_rfl) rfl rfl ⟨(blk_cell d.1 0).trans rfl, (blk_cell d.1 1).trans rfl, (blk_cell d.1 2).trans rfl, (blk_cell d.1 3).trans rfl, (blk_cell d.1 4).trans rfl, (blk_cell d.1 5).trans rfl, (blk_cell d.1 6).trans rfl, (blk_cell d.1 7).trans rfl, (blk_cell d.1 8).trans rfl, (blk_cell d.1 9).trans rfl, (blk_cell d.1 10).trans rfl, (blk_cell d.1 11).trans rfl, (blk_cell d.1 12).trans rfl, (blk_cell d.1 13).trans rfl, (blk_cell d.1 14).trans rfl, (blk_cell g.1 0).trans rfl, (blk_cell g.1 1).trans rfl, (blk_cell g.1 2).trans rfl, (blk_cell g.1 3).trans rfl, (blk_cell g.1 4).trans rfl, (blk_cell g.1 5).trans rfl, (blk_cell g.1 6).trans rfl, (blk_cell g.1 7).trans rfl, (blk_cell g.1 8).trans rfl, (blk_cell g.1 9).trans rfl, (blk_cell g.1 10).trans rfl, (blk_cell g.1 11).trans rfl, (blk_cell g.1 12).trans rfl, (blk_cell g.1 13).trans rfl, (blk_cell g.1 14).trans rfl, (bt_ HB bH), (bt_ HB bI), (bt_ HB aE), (bt_ HB aF), (bt_ HB bJ), (bt_ HB bK), (bt_ HB bL), (bt_ HB bM), (bt_ HB bN), (bt_ HB bO), (bt_ HB aG), (bt_ HB aH), (bt_ HB bP), (bt_ HB bQ), (bt_ HB bR), (bt_ HB bS), (bt_ HB b5), (bt_ HB b6), (bt_ HB aS), (bt_ HB aT), (bt_ HB b7), (bt_ HB b8), (bt_ HB b9), (bt_ HB ca), (bt_ HB cb), (bt_ HB cc), (bt_ HB aU), (bt_ HB aV), (bt_ HB cd), (bt_ HB ce), (bt_ HB cf), (bt_ HB cg), (bt_ HB cv), (bt_ HB cw), (bt_ HB bm), (bt_ HB bn), (bt_ HB cx), (bt_ HB cy), (bt_ HB cz), (bt_ HB cA), (bt_ HB cB), (bt_ HB cC), (bt_ HB bo), (bt_ HB bp), (bt_ HB cD), (bt_ HB cE), (bt_ HB cF), (bt_ HB cG)⟩ (fun hHeld => ?_); refine with_tabW spec_EqualWorlds.tab16 spec_EqualWorlds.bits16 (fun HT_ HW_ => ?_)
       generalize wr.drew = kJ at d g HB bT bU bV bW cr cs ct cu cT cU cV cW O P z A Q p R q T U B D V s W t ao ap E F aq X ar Y au av G I aw Z ax aa aW aX ae af aY ay aZ az a0 a1 ag ah a2 aA a3 aB hHeld ⊢
       refine pu1_ 0 120 59 1 ?_
       refine pu1_ 2 122 59 5 ?_
       refine pu1_ 6 126 59 69 ?_
       refine pu1_ 8 128 59 325 ?_
       refine ta1_ 1 121 59 327 hHeld ?_
       refine pu1_ 3 123 59 335 ?_
       refine pu1_ 4 124 59 351 ?_
       refine ta1_ 5 125 59 383 hHeld ?_
       refine ta1_ 7 127 59 511 hHeld ?_
       refine pu1_ 9 129 59 1023 ?_
       refine pu1_ 10 130 59 2047 ?_
       refine ta1_ 11 131 59 4095 hHeld ?_
       refine pu1_ 12 132 59 8191 ?_
       refine pu1_ 13 133 59 16383 ?_
       refine pu1_ 14 134 59 32767 ?_
       refine pu1_ 16 136 59 98303 ?_
       refine pu1_ 20 140 59 1146879 ?_
       refine pu1_ 22 142 59 5341183 ?_
       refine ta1_ 15 135 59 5373951 hHeld ?_
       refine pu1_ 17 137 59 5505023 ?_
       refine pu1_ 18 138 59 5767167 ?_
       refine ta1_ 19 139 59 6291455 hHeld ?_
       refine ta1_ 21 141 59 8388607 hHeld ?_
       refine pu1_ 23 143 59 16777215 ?_
       refine pu1_ 24 144 59 33554431 ?_
       refine ta1_ 25 145 59 67108863 hHeld ?_
       refine pu1_ 26 146 59 134217727 ?_
       refine pu1_ 27 147 59 268435455 ?_
       refine pu1_ 28 148 59 536870911 ?_
       refine pu1_ 29 149 59 1073741823 ?_
       refine pu1_ 31 151 59 3221225471 ?_
       refine pu1_ 35 155 59 37580963839 ?_
       refine pu1_ 37 157 59 175019917311 ?_
       refine ta1_ 30 150 59 176093659135 hHeld ?_
       refine pu1_ 32 152 59 180388626431 ?_
       refine pu1_ 33 153 59 188978561023 ?_
       refine ta1_ 34 154 59 206158430207 hHeld ?_
       refine ta1_ 36 156 59 274877906943 hHeld ?_
       refine pu1_ 38 158 59 549755813887 ?_
       refine pu1_ 39 159 59 1099511627775 ?_
       refine ta1_ 40 160 59 2199023255551 hHeld ?_
       refine pu1_ 41 161 59 4398046511103 ?_
       refine pu1_ 42 162 59 8796093022207 ?_
       refine pu1_ 43 163 59 17592186044415 ?_
       refine pn1_ 44 164 59 35184372088831 ?_
       refine pn1_ 45 165 59 70368744177663 ?_
       refine pn1_ 46 166 59 140737488355327 ?_
       refine pn1_ 47 167 59 281474976710655 ?_
       refine pn1_ 48 168 59 562949953421311 ?_
       refine pn1_ 49 169 59 1125899906842623 ?_
       refine pn1_ 50 170 59 2251799813685247 ?_
       refine pn1_ 51 171 59 4503599627370495 ?_
       refine pn1_ 52 172 59 9007199254740991 ?_
       refine pn1_ 53 173 59 18014398509481983 ?_
       refine pn1_ 54 174 59 36028797018963967 ?_
       refine pn1_ 55 175 59 72057594037927935 ?_
       refine pn1_ 56 176 59 144115188075855871 ?_
       refine pn1_ 57 177 59 288230376151711743 ?_
       refine pu1_ 58 178 59 576460752303423487 ?_
       refine done_ (done_of HT_.1 (by kernel_rfl)) ?_
       try go_wp2
       go_ret
       exact ⟨er_, pb2_ HB.1 ad.1 ai.1⟩
     replace hG := bf_ hG
     subst hG
     rw [if_neg ff_] at H
     obtain ⟨eL, je, H⟩ := bs_ H
     (try dsimp only at H)
     have HS_ := Q_ H
     clear H
     have j7 := J.1
     have kr := M.1
     have jN := bc15_ d.1
     try go_wp2
     have _ := Q_ (blk_drew d.1)
     have _ := Q_ (blk_drew g.1)
     have _ := Q_ (below_drew1 HB.1)
     clear d g HB
     rename_i d g HB
     have ch : 0 ≤ (a : Int) := dt_
     have cj : a < (j.length : Int) := dt_
     obtain ⟨b, aK, aO, aL, aP, dw, O, P, z, A, Q, p, R, q, bi, be, bj, bf⟩ := at_T57 bw.1 a ch cj
     have bM := q
     have bL := R
     have bK := p
     have bJ := Q
     have aF := A
     (try rw [← o.1] at aF)
     (try rw [← x.1] at aF)
     have aE := z
     (try rw [← o.1] at aE)
     (try rw [← x.1] at aE)
     have bI := P
     have bH := O
     (try rw [← o.1] at z)
     (try rw [← x.1] at z)
     (try rw [← o.1] at A)
     (try rw [← x.1] at A)
     cases dw
     replace O := bt_ HB O
     replace P := bt_ HB P
     replace z := bt_ HB z
     replace A := bt_ HB A
     replace Q := bt_ HB Q
     replace p := bt_ HB p
     replace R := bt_ HB R
     replace q := bt_ HB q
     have bT := Q_ be
     have dp := Q_ bi
     clear be bi
     have bU := Q_ bf
     have dq := Q_ bj
     clear bf bj
     replace ch := eq_true ch
     replace cj := eq_true cj
     have ci : 0 ≤ (a : Int) := dt_
     have ck : a < (i.length : Int) := dt_
     obtain ⟨c, aM, aQ, aN, aR, dx, T, U, B, D, V, s, W, t, bk, bg, bl, bh⟩ := at_T57 bx.1 a ci ck
     have bS := t
     have bR := W
     have bQ := s
     have bP := V
     have aH := D
     (try rw [← o.1] at aH)
     (try rw [← x.1] at aH)
     have aG := B
     (try rw [← o.1] at aG)
     (try rw [← x.1] at aG)
     have bO := U
     have bN := T
     (try rw [← o.1] at B)
     (try rw [← x.1] at B)
     (try rw [← o.1] at D)
     (try rw [← x.1] at D)
     cases dx
     replace T := bt_ HB T
     replace U := bt_ HB U
     replace B := bt_ HB B
     replace D := bt_ HB D
     replace V := bt_ HB V
     replace s := bt_ HB s
     replace W := bt_ HB W
     replace t := bt_ HB t
     have bV := Q_ bg
     have dr := Q_ bk
     clear bg bk
     have bW := Q_ bh
     have dt := Q_ bl
     clear bh bl
     replace ci := eq_true ci
     replace ck := eq_true ck
     have cH : 0 ≤ (a : Int) := dt_
     have cJ : a < (j.length : Int) := dt_
     obtain ⟨dm, eu, ey, ev, ez, dM, ao, ap, E, F, aq, X, ar, Y, bD, bz, bE, bA⟩ := at_T57 bw.1 a cH cJ
     have ca := Y
     have b9 := ar
     have b8 := X
     have b7 := aq
     have aT := F
     (try rw [← o.1] at aT)
     (try rw [← x.1] at aT)
     have aS := E
     (try rw [← o.1] at aS)
     (try rw [← x.1] at aS)
     have b6 := ap
     have b5 := ao
     (try rw [← o.1] at E)
     (try rw [← x.1] at E)
     (try rw [← o.1] at F)
     (try rw [← x.1] at F)
     obtain rfl : b = dm := (by injection dM)
     replace ao := bt_ HB ao
     replace ap := bt_ HB ap
     replace E := bt_ HB E
     replace F := bt_ HB F
     replace aq := bt_ HB aq
     replace X := bt_ HB X
     replace ar := bt_ HB ar
     replace Y := bt_ HB Y
     have cr := Q_ bz
     have dI := Q_ bD
     clear bz bD
     have cs := Q_ bA
     have dJ := Q_ bE
     clear bA bE
     replace cH := eq_true cH
     replace cJ := eq_true cJ
     have ea_ := Option.some.inj (p.symm.trans X)
     injection ea_ with ea_ en_ ec_
     subst ea_
     subst ec_
     clear en_
     have ea_ := Option.some.inj (q.symm.trans Y)
     injection ea_ with ea_ en_ ec_
     subst ea_
     subst ec_
     clear en_
     have cI : 0 ≤ (a : Int) := dt_
     have cK : a < (i.length : Int) := dt_
     obtain ⟨dn, ew, eA, ex, eB, dN, au, av, G, I, aw, Z, ax, aa, bF, bB, bG, bC⟩ := at_T57 bx.1 a cI cK
     have cg := aa
     have cf := ax
     have ce := Z
     have cd := aw
     have aV := I
     (try rw [← o.1] at aV)
     (try rw [← x.1] at aV)
     have aU := G
     (try rw [← o.1] at aU)
     (try rw [← x.1] at aU)
     have cc := av
     have cb := au
     (try rw [← o.1] at G)
     (try rw [← x.1] at G)
     (try rw [← o.1] at I)
     (try rw [← x.1] at I)
     obtain rfl : c = dn := (by injection dN)
     replace au := bt_ HB au
     replace av := bt_ HB av
     replace G := bt_ HB G
     replace I := bt_ HB I
     replace aw := bt_ HB aw
     replace Z := bt_ HB Z
     replace ax := bt_ HB ax
     replace aa := bt_ HB aa
     have ct := Q_ bB
     have dK := Q_ bF
     clear bB bF
     have cu := Q_ bC
     have dL := Q_ bG
     clear bC bG
     replace cI := eq_true cI
     replace cK := eq_true cK
     have ea_ := Option.some.inj (s.symm.trans Z)
     injection ea_ with ea_ en_ ec_
     subst ea_
     subst ec_
     clear en_
     have ea_ := Option.some.inj (t.symm.trans aa)
     injection ea_ with ea_ en_ ec_
     subst ea_
     subst ec_
     clear en_
     have c3 : 0 ≤ (a : Int) := dt_
     have c5 : a < (j.length : Int) := dt_
     obtain ⟨dG, eM, eQ, eN, eR, eI, aW, aX, ae, af, aY, ay, aZ, az, b1, bX, b2, bY⟩ := at_T57 bw.1 a c3 c5
     have cA := az
     have cz := aZ
     have cy := ay
     have cx := aY
     have bn := af
     (try rw [← o.1] at bn)
     (try rw [← x.1] at bn)
     have bm := ae
     (try rw [← o.1] at bm)
     (try rw [← x.1] at bm)
     have cw := aX
     have cv := aW
     (try rw [← o.1] at ae)
     (try rw [← x.1] at ae)
     (try rw [← o.1] at af)
     (try rw [← x.1] at af)
     obtain rfl : b = dG := (by injection eI)
     replace aW := bt_ HB aW
     replace aX := bt_ HB aX
     replace ae := bt_ HB ae
     replace af := bt_ HB af
     replace aY := bt_ HB aY
     replace ay := bt_ HB ay
     replace aZ := bt_ HB aZ
     replace az := bt_ HB az
     have cT := Q_ bX
     have eC := Q_ b1
     clear bX b1
     have cU := Q_ bY
     have eD := Q_ b2
     clear bY b2
     replace c3 := eq_true c3
     replace c5 := eq_true c5
     have ea_ := Option.some.inj (p.symm.trans ay)
     injection ea_ with ea_ en_ ec_
     subst ea_
     subst ec_
     clear en_
     have ea_ := Option.some.inj (q.symm.trans az)
     injection ea_ with ea_ en_ ec_
     subst ea_
     subst ec_
     clear en_
     have c4 : 0 ≤ (a : Int) := dt_
     have c7 : a < (i.length : Int) := dt_
     obtain ⟨dH, eO, eS, eP, eT, eJ, a0, a1, ag, ah, a2, aA, a3, aB, b3, bZ, b4, b0⟩ := at_T57 bx.1 a c4 c7
     have cG := aB
     have cF := a3
     have cE := aA
     have cD := a2
     have bp := ah
     (try rw [← o.1] at bp)
     (try rw [← x.1] at bp)
     have bo := ag
     (try rw [← o.1] at bo)
     (try rw [← x.1] at bo)
     have cC := a1
     have cB := a0
     (try rw [← o.1] at ag)
     (try rw [← x.1] at ag)
     (try rw [← o.1] at ah)
     (try rw [← x.1] at ah)
     obtain rfl : c = dH := (by injection eJ)
     replace a0 := bt_ HB a0
     replace a1 := bt_ HB a1
     replace ag := bt_ HB ag
     replace ah := bt_ HB ah
     replace a2 := bt_ HB a2
     replace aA := bt_ HB aA
     replace a3 := bt_ HB a3
     replace aB := bt_ HB aB
     have cV := Q_ bZ
     have eE := Q_ b3
     clear bZ b3
     have cW := Q_ b0
     have eF := Q_ b4
     clear b0 b4
     replace c4 := eq_true c4
     replace c7 := eq_true c7
     have ea_ := Option.some.inj (s.symm.trans aA)
     injection ea_ with ea_ en_ ec_
     subst ea_
     subst ec_
     clear en_
     have ea_ := Option.some.inj (t.symm.trans aB)
     injection ea_ with ea_ en_ ec_
     subst ea_
     subst ec_
     clear en_
     have hn : 0 ≤ (a : Int) := dt_
     have hv : a < (j.length : Int) := dt_
     obtain ⟨h5, iP, i3, iQ, i4, iH, em, en, dg, dh, eo, dC, ep, dD, gY, fb, gZ, fc⟩ := at_U57 bw.1 a hn hv
     have fQ := dD
     have fP := ep
     have fO := dC
     have fN := eo
     have dT := dh
     (try rw [← o.1] at dT)
     (try rw [← x.1] at dT)
     have dS := dg
     (try rw [← o.1] at dS)
     (try rw [← x.1] at dS)
     have fM := en
     have fL := em
     (try rw [← o.1] at dg)
     (try rw [← x.1] at dg)
     (try rw [← o.1] at dh)
     (try rw [← x.1] at dh)
     obtain rfl : b = h5 := (by injection iH)
     replace em := bt_ HB em
     replace en := bt_ HB en
     replace dg := bt_ HB dg
     replace dh := bt_ HB dh
     replace eo := bt_ HB eo
     replace dC := bt_ HB dC
     replace ep := bt_ HB ep
     replace dD := bt_ HB dD
     replace hn := eq_true hn
     replace hv := eq_true hv
     have ea_ := Option.some.inj (p.symm.trans dC)
     injection ea_ with ea_ en_ ec_
     subst ea_
     subst ec_
     clear en_
     have ea_ := Option.some.inj (q.symm.trans dD)
     injection ea_ with ea_ en_ ec_
     subst ea_
     subst ec_
     clear en_
     have ho : 0 ≤ (a : Int) := dt_
     have hw : a < (i.length : Int) := dt_
     obtain ⟨h6, iR, i5, iS, i6, iI, eq, er, di, dj, es, dE, et, dF, g0, fd, g1, fe⟩ := at_U57 bx.1 a ho hw
     have fW := dF
     have fV := et
     have fU := dE
     have fT := es
     have dV := dj
     (try rw [← o.1] at dV)
     (try rw [← x.1] at dV)
     have dU := di
     (try rw [← o.1] at dU)
     (try rw [← x.1] at dU)
     have fS := er
     have fR := eq
     (try rw [← o.1] at di)
     (try rw [← x.1] at di)
     (try rw [← o.1] at dj)
     (try rw [← x.1] at dj)
     obtain rfl : c = h6 := (by injection iI)
     replace eq := bt_ HB eq
     replace er := bt_ HB er
     replace di := bt_ HB di
     replace dj := bt_ HB dj
     replace es := bt_ HB es
     replace dE := bt_ HB dE
     replace et := bt_ HB et
     replace dF := bt_ HB dF
     replace ho := eq_true ho
     replace hw := eq_true hw
     have ea_ := Option.some.inj (s.symm.trans dE)
     injection ea_ with ea_ en_ ec_
     subst ea_
     subst ec_
     clear en_
     have ea_ := Option.some.inj (t.symm.trans dF)
     injection ea_ with ea_ en_ ec_
     subst ea_
     subst ec_
     clear en_
     as_aux_lemma =>
      refine start_ (n := 59) (S := fun w' => w'.cell? ⟨l, 0, none⟩ = some (.slice cL aI.length cN) ∧ w'.cell? ⟨l, 1, none⟩ = some (.slice cP ba.length cX) ∧ w'.cell? ⟨l, 2, none⟩ = some (.int .i64 a4) ∧ w'.cell? ⟨l, 3, none⟩ = some (.slice c8 ab.length cY) ∧ w'.cell? ⟨l, 4, none⟩ = some (.int .i64 bq) ∧ w'.cell? ⟨l, 5, none⟩ = some (.slice cQ bc.length cZ) ∧ w'.cell? ⟨l, 6, none⟩ = some (.int .i64 br) ∧ w'.cell? ⟨l, 7, none⟩ = some (.bool bs) ∧ w'.cell? ⟨l, 8, none⟩ = some (.int .i64 a5) ∧ w'.cell? ⟨l, 9, none⟩ = some (.int .i64 a6) ∧ w'.cell? ⟨l, 10, none⟩ = some (.slice cp u.length cl) ∧ w'.cell? ⟨l, 11, none⟩ = some (.slice (some b) j.length cm) ∧ w'.cell? ⟨l, 12, none⟩ = some (.int .i64 aj) ∧ w'.cell? ⟨l, 13, none⟩ = some (.int .i64 ak) ∧ w'.cell? ⟨l, 14, none⟩ = some (.int .i64 aC) ∧ w'.cell? ⟨m, 0, none⟩ = some (.slice cM aJ.length cO) ∧ w'.cell? ⟨m, 1, none⟩ = some (.slice cR bb.length c0) ∧ w'.cell? ⟨m, 2, none⟩ = some (.int .i64 a7) ∧ w'.cell? ⟨m, 3, none⟩ = some (.slice c9 ac.length c1) ∧ w'.cell? ⟨m, 4, none⟩ = some (.int .i64 bt) ∧ w'.cell? ⟨m, 5, none⟩ = some (.slice cS bd.length c2) ∧ w'.cell? ⟨m, 6, none⟩ = some (.int .i64 bu) ∧ w'.cell? ⟨m, 7, none⟩ = some (.bool bv) ∧ w'.cell? ⟨m, 8, none⟩ = some (.int .i64 a8) ∧ w'.cell? ⟨m, 9, none⟩ = some (.int .i64 a9) ∧ w'.cell? ⟨m, 10, none⟩ = some (.slice cq v.length cn) ∧ w'.cell? ⟨m, 11, none⟩ = some (.slice (some c) i.length co) ∧ w'.cell? ⟨m, 12, none⟩ = some (.int .i64 al) ∧ w'.cell? ⟨m, 13, none⟩ = some (.int .i64 am) ∧ w'.cell? ⟨m, 14, none⟩ = some (.int .i64 aD) ∧ w'.cell? (b.add ((a).toNat * 8)) = some (.int .i64 ((rd_T57 j a).f0)) ∧ w'.cell? ⟨(b.add ((a).toNat * 8)).block, (b.add ((a).toNat * 8)).off + 1, none⟩ = some (.int .i64 ((rd_T57 j a).f1)) ∧ w'.cell? ⟨(b.add ((a).toNat * 8)).block, (b.add ((a).toNat * 8)).off + 2, none⟩ = some (.bool false) ∧ w'.cell? ⟨(b.add ((a).toNat * 8)).block, (b.add ((a).toNat * 8)).off + 3, none⟩ = some (.bool ((rd_T57 j a).f3.f0.f0)) ∧ w'.cell? ⟨(b.add ((a).toNat * 8)).block, (b.add ((a).toNat * 8)).off + 4, none⟩ = some (.int .i64 ((rd_T57 j a).f3.f0.f1)) ∧ w'.cell? ⟨(b.add ((a).toNat * 8)).block, (b.add ((a).toNat * 8)).off + 5, none⟩ = some (.slice aK ((rd_T57 j a).f3.f0.f2).length aO) ∧ w'.cell? ⟨(b.add ((a).toNat * 8)).block, (b.add ((a).toNat * 8)).off + 6, none⟩ = some (.int .i64 ((rd_T57 j a).f3.f1)) ∧ w'.cell? ⟨(b.add ((a).toNat * 8)).block, (b.add ((a).toNat * 8)).off + 7, none⟩ = some (.slice aL ((rd_T57 j a).f3.f2).length aP) ∧ w'.cell? (c.add ((a).toNat * 8)) = some (.int .i64 ((rd_T57 i a).f0)) ∧ w'.cell? ⟨(c.add ((a).toNat * 8)).block, (c.add ((a).toNat * 8)).off + 1, none⟩ = some (.int .i64 ((rd_T57 i a).f1)) ∧ w'.cell? ⟨(c.add ((a).toNat * 8)).block, (c.add ((a).toNat * 8)).off + 2, none⟩ = some (.bool false) ∧ w'.cell? ⟨(c.add ((a).toNat * 8)).block, (c.add ((a).toNat * 8)).off + 3, none⟩ = some (.bool ((rd_T57 i a).f3.f0.f0)) ∧ w'.cell? ⟨(c.add ((a).toNat * 8)).block, (c.add ((a).toNat * 8)).off + 4, none⟩ = some (.int .i64 ((rd_T57 i a).f3.f0.f1)) ∧ w'.cell? ⟨(c.add ((a).toNat * 8)).block, (c.add ((a).toNat * 8)).off + 5, none⟩ = some (.slice aM ((rd_T57 i a).f3.f0.f2).length aQ) ∧ w'.cell? ⟨(c.add ((a).toNat * 8)).block, (c.add ((a).toNat * 8)).off + 6, none⟩ = some (.int .i64 ((rd_T57 i a).f3.f1)) ∧ w'.cell? ⟨(c.add ((a).toNat * 8)).block, (c.add ((a).toNat * 8)).off + 7, none⟩ = some (.slice aN ((rd_T57 i a).f3.f2).length aR) ∧ w'.cell? (b.add ((a).toNat * 8)) = some (.int .i64 ((rd_T57 j a).f0)) ∧ w'.cell? ⟨(b.add ((a).toNat * 8)).block, (b.add ((a).toNat * 8)).off + 1, none⟩ = some (.int .i64 ((rd_T57 j a).f1)) ∧ w'.cell? ⟨(b.add ((a).toNat * 8)).block, (b.add ((a).toNat * 8)).off + 2, none⟩ = some (.bool false) ∧ w'.cell? ⟨(b.add ((a).toNat * 8)).block, (b.add ((a).toNat * 8)).off + 3, none⟩ = some (.bool ((rd_T57 j a).f3.f0.f0)) ∧ w'.cell? ⟨(b.add ((a).toNat * 8)).block, (b.add ((a).toNat * 8)).off + 4, none⟩ = some (.int .i64 ((rd_T57 j a).f3.f0.f1)) ∧ w'.cell? ⟨(b.add ((a).toNat * 8)).block, (b.add ((a).toNat * 8)).off + 5, none⟩ = some (.slice aK ((rd_T57 j a).f3.f0.f2).length aO) ∧ w'.cell? ⟨(b.add ((a).toNat * 8)).block, (b.add ((a).toNat * 8)).off + 6, none⟩ = some (.int .i64 ((rd_T57 j a).f3.f1)) ∧ w'.cell? ⟨(b.add ((a).toNat * 8)).block, (b.add ((a).toNat * 8)).off + 7, none⟩ = some (.slice aL ((rd_T57 j a).f3.f2).length aP) ∧ w'.cell? (c.add ((a).toNat * 8)) = some (.int .i64 ((rd_T57 i a).f0)) ∧ w'.cell? ⟨(c.add ((a).toNat * 8)).block, (c.add ((a).toNat * 8)).off + 1, none⟩ = some (.int .i64 ((rd_T57 i a).f1)) ∧ w'.cell? ⟨(c.add ((a).toNat * 8)).block, (c.add ((a).toNat * 8)).off + 2, none⟩ = some (.bool false) ∧ w'.cell? ⟨(c.add ((a).toNat * 8)).block, (c.add ((a).toNat * 8)).off + 3, none⟩ = some (.bool ((rd_T57 i a).f3.f0.f0)) ∧ w'.cell? ⟨(c.add ((a).toNat * 8)).block, (c.add ((a).toNat * 8)).off + 4, none⟩ = some (.int .i64 ((rd_T57 i a).f3.f0.f1)) ∧ w'.cell? ⟨(c.add ((a).toNat * 8)).block, (c.add ((a).toNat * 8)).off + 5, none⟩ = some (.slice aM ((rd_T57 i a).f3.f0.f2).length aQ) ∧ w'.cell? ⟨(c.add ((a).toNat * 8)).block, (c.add ((a).toNat * 8)).off + 6, none⟩ = some (.int .i64 ((rd_T57 i a).f3.f1)) ∧ w'.cell? ⟨(c.add ((a).toNat * 8)).block, (c.add ((a).toNat * 8)).off + 7, none⟩ = some (.slice aN ((rd_T57 i a).f3.f2).length aR) ∧ w'.cell? (b.add ((a).toNat * 8)) = some (.int .i64 ((rd_T57 j a).f0)) ∧ w'.cell? ⟨(b.add ((a).toNat * 8)).block, (b.add ((a).toNat * 8)).off + 1, none⟩ = some (.int .i64 ((rd_T57 j a).f1)) ∧ w'.cell? ⟨(b.add ((a).toNat * 8)).block, (b.add ((a).toNat * 8)).off + 2, none⟩ = some (.bool false) ∧ w'.cell? ⟨(b.add ((a).toNat * 8)).block, (b.add ((a).toNat * 8)).off + 3, none⟩ = some (.bool ((rd_T57 j a).f3.f0.f0)) ∧ w'.cell? ⟨(b.add ((a).toNat * 8)).block, (b.add ((a).toNat * 8)).off + 4, none⟩ = some (.int .i64 ((rd_T57 j a).f3.f0.f1)) ∧ w'.cell? ⟨(b.add ((a).toNat * 8)).block, (b.add ((a).toNat * 8)).off + 5, none⟩ = some (.slice aK ((rd_T57 j a).f3.f0.f2).length aO) ∧ w'.cell? ⟨(b.add ((a).toNat * 8)).block, (b.add ((a).toNat * 8)).off + 6, none⟩ = some (.int .i64 ((rd_T57 j a).f3.f1)) ∧ w'.cell? ⟨(b.add ((a).toNat * 8)).block, (b.add ((a).toNat * 8)).off + 7, none⟩ = some (.slice aL ((rd_T57 j a).f3.f2).length aP) ∧ w'.cell? (c.add ((a).toNat * 8)) = some (.int .i64 ((rd_T57 i a).f0)) ∧ w'.cell? ⟨(c.add ((a).toNat * 8)).block, (c.add ((a).toNat * 8)).off + 1, none⟩ = some (.int .i64 ((rd_T57 i a).f1)) ∧ w'.cell? ⟨(c.add ((a).toNat * 8)).block, (c.add ((a).toNat * 8)).off + 2, none⟩ = some (.bool false) ∧ w'.cell? ⟨(c.add ((a).toNat * 8)).block, (c.add ((a).toNat * 8)).off + 3, none⟩ = some (.bool ((rd_T57 i a).f3.f0.f0)) ∧ w'.cell? ⟨(c.add ((a).toNat * 8)).block, (c.add ((a).toNat * 8)).off + 4, none⟩ = some (.int .i64 ((rd_T57 i a).f3.f0.f1)) ∧ w'.cell? ⟨(c.add ((a).toNat * 8)).block, (c.add ((a).toNat * 8)).off + 5, none⟩ = some (.slice aM ((rd_T57 i a).f3.f0.f2).length aQ) ∧ w'.cell? ⟨(c.add ((a).toNat * 8)).block, (c.add ((a).toNat * 8)).off + 6, none⟩ = some (.int .i64 ((rd_T57 i a).f3.f1)) ∧ w'.cell? ⟨(c.add ((a).toNat * 8)).block, (c.add ((a).toNat * 8)).off + 7, none⟩ = some (.slice aN ((rd_T57 i a).f3.f2).length aR) ∧ w'.cell? (b.add ((a).toNat * 8)) = some (.int .i64 ((rd_T57 j a).f0)) ∧ w'.cell? ⟨(b.add ((a).toNat * 8)).block, (b.add ((a).toNat * 8)).off + 1, none⟩ = some (.int .i64 ((rd_T57 j a).f1)) ∧ w'.cell? ⟨(b.add ((a).toNat * 8)).block, (b.add ((a).toNat * 8)).off + 2, none⟩ = some (.bool (false)) ∧ w'.cell? ⟨(b.add ((a).toNat * 8)).block, (b.add ((a).toNat * 8)).off + 3, none⟩ = some (.bool ((rd_T57 j a).f3.f0.f0)) ∧ w'.cell? ⟨(b.add ((a).toNat * 8)).block, (b.add ((a).toNat * 8)).off + 4, none⟩ = some (.int .i64 ((rd_T57 j a).f3.f0.f1)) ∧ w'.cell? ⟨(b.add ((a).toNat * 8)).block, (b.add ((a).toNat * 8)).off + 5, none⟩ = some (.slice aK ((rd_T57 j a).f3.f0.f2).length aO) ∧ w'.cell? ⟨(b.add ((a).toNat * 8)).block, (b.add ((a).toNat * 8)).off + 6, none⟩ = some (.int .i64 ((rd_T57 j a).f3.f1)) ∧ w'.cell? ⟨(b.add ((a).toNat * 8)).block, (b.add ((a).toNat * 8)).off + 7, none⟩ = some (.slice aL ((rd_T57 j a).f3.f2).length aP) ∧ w'.cell? (c.add ((a).toNat * 8)) = some (.int .i64 ((rd_T57 i a).f0)) ∧ w'.cell? ⟨(c.add ((a).toNat * 8)).block, (c.add ((a).toNat * 8)).off + 1, none⟩ = some (.int .i64 ((rd_T57 i a).f1)) ∧ w'.cell? ⟨(c.add ((a).toNat * 8)).block, (c.add ((a).toNat * 8)).off + 2, none⟩ = some (.bool (false)) ∧ w'.cell? ⟨(c.add ((a).toNat * 8)).block, (c.add ((a).toNat * 8)).off + 3, none⟩ = some (.bool ((rd_T57 i a).f3.f0.f0)) ∧ w'.cell? ⟨(c.add ((a).toNat * 8)).block, (c.add ((a).toNat * 8)).off + 4, none⟩ = some (.int .i64 ((rd_T57 i a).f3.f0.f1)) ∧ w'.cell? ⟨(c.add ((a).toNat * 8)).block, (c.add ((a).toNat * 8)).off + 5, none⟩ = some (.slice aM ((rd_T57 i a).f3.f0.f2).length aQ) ∧ w'.cell? ⟨(c.add ((a).toNat * 8)).block, (c.add ((a).toNat * 8)).off + 6, none⟩ = some (.int .i64 ((rd_T57 i a).f3.f1)) ∧ w'.cell? ⟨(c.add ((a).toNat * 8)).block, (c.add ((a).toNat * 8)).off + 7, none⟩ = some (.slice aN ((rd_T57 i a).f3.f2).length aR)) (ds := []) (tf_ 0 59) (by kernel_rfl) rfl rfl ⟨(blk_cell d.1 0).trans rfl, (blk_cell d.1 1).trans rfl, (blk_cell d.1 2).trans rfl, (blk_cell d.1 3).trans rfl, (blk_cell d.1 4).trans rfl, (blk_cell d.1 5).trans rfl, (blk_cell d.1 6).trans rfl, (blk_cell d.1 7).trans rfl, (blk_cell d.1 8).trans rfl, (blk_cell d.1 9).trans rfl, (blk_cell d.1 10).trans rfl, (blk_cell d.1 11).trans rfl, (blk_cell d.1 12).trans rfl, (blk_cell d.1 13).trans rfl, (blk_cell d.1 14).trans rfl, (blk_cell g.1 0).trans rfl, (blk_cell g.1 1).trans rfl, (blk_cell g.1 2).trans rfl, (blk_cell g.1 3).trans rfl, (blk_cell g.1 4).trans rfl, (blk_cell g.1 5).trans rfl, (blk_cell g.1 6).trans rfl, (blk_cell g.1 7).trans rfl, (blk_cell g.1 8).trans rfl, (blk_cell g.1 9).trans rfl, (blk_cell g.1 10).trans rfl, (blk_cell g.1 11).trans rfl, (blk_cell g.1 12).trans rfl, (blk_cell g.1 13).trans rfl, (blk_cell g.1 14).trans rfl, (bt_ HB bH), (bt_ HB bI), (bt_ HB aE), (bt_ HB aF), (bt_ HB bJ), (bt_ HB bK), (bt_ HB bL), (bt_ HB bM), (bt_ HB bN), (bt_ HB bO), (bt_ HB aG), (bt_ HB aH), (bt_ HB bP), (bt_ HB bQ), (bt_ HB bR), (bt_ HB bS), (bt_ HB b5), (bt_ HB b6), (bt_ HB aS), (bt_ HB aT), (bt_ HB b7), (bt_ HB b8), (bt_ HB b9), (bt_ HB ca), (bt_ HB cb), (bt_ HB cc), (bt_ HB aU), (bt_ HB aV), (bt_ HB cd), (bt_ HB ce), (bt_ HB cf), (bt_ HB cg), (bt_ HB cv), (bt_ HB cw), (bt_ HB bm), (bt_ HB bn), (bt_ HB cx), (bt_ HB cy), (bt_ HB cz), (bt_ HB cA), (bt_ HB cB), (bt_ HB cC), (bt_ HB bo), (bt_ HB bp), (bt_ HB cD), (bt_ HB cE), (bt_ HB cF), (bt_ HB cG), (bt_ HB fL), (bt_ HB fM), (bt_ HB dS), (bt_ HB dT), (bt_ HB fN), (bt_ HB fO), (bt_ HB fP), (bt_ HB fQ), (bt_ HB fR), (bt_ HB fS), (bt_ HB dU), (bt_ HB dV), (bt_ HB fT), (bt_ HB fU), (bt_ HB fV), (bt_ HB fW)⟩ (fun hHeld => ?_); refine with_tabW spec_EqualWorlds.tab16 spec_EqualWorlds.bits16 (fun HT_ HW_ => ?_)
      generalize wr.drew = kK at d g HB bT bU bV bW cr cs ct cu cT cU cV cW fb fc fd fe O P z A Q p R q T U B D V s W t ao ap E F aq X ar Y au av G I aw Z ax aa aW aX ae af aY ay aZ az a0 a1 ag ah a2 aA a3 aB em en dg dh eo dC ep dD eq er di dj es dE et dF hHeld ⊢
      refine pu1_ 0 120 59 1 ?_
      refine pu1_ 2 122 59 5 ?_
      refine pu1_ 6 126 59 69 ?_
      refine pu1_ 8 128 59 325 ?_
      refine ta1_ 1 121 59 327 hHeld ?_
      refine pu1_ 3 123 59 335 ?_
      refine pu1_ 4 124 59 351 ?_
      refine ta1_ 5 125 59 383 hHeld ?_
      refine ta1_ 7 127 59 511 hHeld ?_
      refine pu1_ 9 129 59 1023 ?_
      refine pu1_ 10 130 59 2047 ?_
      refine ta1_ 11 131 59 4095 hHeld ?_
      refine pu1_ 12 132 59 8191 ?_
      refine pu1_ 13 133 59 16383 ?_
      refine pu1_ 14 134 59 32767 ?_
      refine pu1_ 16 136 59 98303 ?_
      refine pu1_ 20 140 59 1146879 ?_
      refine pu1_ 22 142 59 5341183 ?_
      refine ta1_ 15 135 59 5373951 hHeld ?_
      refine pu1_ 17 137 59 5505023 ?_
      refine pu1_ 18 138 59 5767167 ?_
      refine ta1_ 19 139 59 6291455 hHeld ?_
      refine ta1_ 21 141 59 8388607 hHeld ?_
      refine pu1_ 23 143 59 16777215 ?_
      refine pu1_ 24 144 59 33554431 ?_
      refine ta1_ 25 145 59 67108863 hHeld ?_
      refine pu1_ 26 146 59 134217727 ?_
      refine pu1_ 27 147 59 268435455 ?_
      refine pu1_ 28 148 59 536870911 ?_
      refine pu1_ 29 149 59 1073741823 ?_
      refine pu1_ 31 151 59 3221225471 ?_
      refine pu1_ 35 155 59 37580963839 ?_
      refine pu1_ 37 157 59 175019917311 ?_
      refine ta1_ 30 150 59 176093659135 hHeld ?_
      refine pu1_ 32 152 59 180388626431 ?_
      refine pu1_ 33 153 59 188978561023 ?_
      refine ta1_ 34 154 59 206158430207 hHeld ?_
      refine ta1_ 36 156 59 274877906943 hHeld ?_
      refine pu1_ 38 158 59 549755813887 ?_
      refine pu1_ 39 159 59 1099511627775 ?_
      refine ta1_ 40 160 59 2199023255551 hHeld ?_
      refine pu1_ 41 161 59 4398046511103 ?_
      refine pu1_ 42 162 59 8796093022207 ?_
      refine pu1_ 43 163 59 17592186044415 ?_
      refine pu1_ 44 164 59 35184372088831 ?_
      refine pu1_ 46 166 59 105553116266495 ?_
      refine pu1_ 50 170 59 1231453023109119 ?_
      refine pu1_ 52 172 59 5735052650479615 ?_
      refine ta1_ 45 165 59 5770237022568447 hHeld ?_
      refine pu1_ 47 167 59 5910974510923775 ?_
      refine pu1_ 48 168 59 6192449487634431 ?_
      refine ta1_ 49 169 59 6755399441055743 hHeld ?_
      refine ta1_ 51 171 59 9007199254740991 hHeld ?_
      refine pu1_ 53 173 59 18014398509481983 ?_
      refine pu1_ 54 174 59 36028797018963967 ?_
      refine ta1_ 55 175 59 72057594037927935 hHeld ?_
      refine on_ 56 (some 176) (tf_ 57 59) HT_ (fun K hK => ?_)
      refine goes_ Try.func18 (by kernel_rfl) rfl #[.agg #[.bool ((rd_T57 j a).f3.f0.f0), .int .i64 ((rd_T57 j a).f3.f0.f1), .slice aK ((rd_T57 j a).f3.f0.f2).length aO, .int .i64 ((rd_T57 j a).f3.f1), .slice aL ((rd_T57 j a).f3.f2).length aP], .agg #[.bool ((rd_T57 i a).f3.f0.f0), .int .i64 ((rd_T57 i a).f3.f0.f1), .slice aM ((rd_T57 i a).f3.f0.f2).length aQ, .int .i64 ((rd_T57 i a).f3.f1), .slice aN ((rd_T57 i a).f3.f2).length aR]] (by rfl) rfl rfl mp_ ?_
      with_reducible refine (spec_EqualDialed.calls k4 ((rd_T57 j a).f3.f0.f0) ((rd_T57 j a).f3.f0.f1) _ _ ((rd_T57 j a).f3.f0.f2) ((rd_T57 j a).f3.f1) _ _ ((rd_T57 j a).f3.f2) ((rd_T57 i a).f3.f0.f0) ((rd_T57 i a).f3.f0.f1) _ _ ((rd_T57 i a).f3.f0.f2) ((rd_T57 i a).f3.f1) _ _ ((rd_T57 i a).f3.f2) eL _ (cb_ fb HB) gY.1 (cb_ fc HB) gZ.1 (cb_ fd HB) g0.1 (cb_ fe HB) g1.1 je.1).mono ?_
      rintro e kL ⟨rfl, hb⟩
      refine ⟨_, rfl, ?_⟩
      have _ := Q_ (bb_ d.1 hb)
      have _ := Q_ (bb_ g.1 hb)
      have _ := Q_ (below_step (pb2_ HB.1 ad.1 ai.1) hb)
      clear d g HB
      rename_i d g HB
      (try clear hb)
      refine hK.out _ _ ⟨(blk_cell d.1 0).trans rfl, (blk_cell d.1 1).trans rfl, (blk_cell d.1 2).trans rfl, (blk_cell d.1 3).trans rfl, (blk_cell d.1 4).trans rfl, (blk_cell d.1 5).trans rfl, (blk_cell d.1 6).trans rfl, (blk_cell d.1 7).trans rfl, (blk_cell d.1 8).trans rfl, (blk_cell d.1 9).trans rfl, (blk_cell d.1 10).trans rfl, (blk_cell d.1 11).trans rfl, (blk_cell d.1 12).trans rfl, (blk_cell d.1 13).trans rfl, (blk_cell d.1 14).trans rfl, (blk_cell g.1 0).trans rfl, (blk_cell g.1 1).trans rfl, (blk_cell g.1 2).trans rfl, (blk_cell g.1 3).trans rfl, (blk_cell g.1 4).trans rfl, (blk_cell g.1 5).trans rfl, (blk_cell g.1 6).trans rfl, (blk_cell g.1 7).trans rfl, (blk_cell g.1 8).trans rfl, (blk_cell g.1 9).trans rfl, (blk_cell g.1 10).trans rfl, (blk_cell g.1 11).trans rfl, (blk_cell g.1 12).trans rfl, (blk_cell g.1 13).trans rfl, (blk_cell g.1 14).trans rfl, (bt_ HB bH), (bt_ HB bI), (bt_ HB aE), (bt_ HB aF), (bt_ HB bJ), (bt_ HB bK), (bt_ HB bL), (bt_ HB bM), (bt_ HB bN), (bt_ HB bO), (bt_ HB aG), (bt_ HB aH), (bt_ HB bP), (bt_ HB bQ), (bt_ HB bR), (bt_ HB bS), (bt_ HB b5), (bt_ HB b6), (bt_ HB aS), (bt_ HB aT), (bt_ HB b7), (bt_ HB b8), (bt_ HB b9), (bt_ HB ca), (bt_ HB cb), (bt_ HB cc), (bt_ HB aU), (bt_ HB aV), (bt_ HB cd), (bt_ HB ce), (bt_ HB cf), (bt_ HB cg), (bt_ HB cv), (bt_ HB cw), (bt_ HB bm), (bt_ HB bn), (bt_ HB cx), (bt_ HB cy), (bt_ HB cz), (bt_ HB cA), (bt_ HB cB), (bt_ HB cC), (bt_ HB bo), (bt_ HB bp), (bt_ HB cD), (bt_ HB cE), (bt_ HB cF), (bt_ HB cG), (bt_ HB fL), (bt_ HB fM), (bt_ HB dS), (bt_ HB dT), (bt_ HB fN), (bt_ HB fO), (bt_ HB fP), (bt_ HB fQ), (bt_ HB fR), (bt_ HB fS), (bt_ HB dU), (bt_ HB dV), (bt_ HB fT), (bt_ HB fU), (bt_ HB fV), (bt_ HB fW)⟩ (fun hHeld => ?_)
      clear hK K
      refine no_ (some 176) ?_
      refine pu1_ 57 177 59 288230376151711743 ?_
      refine pu1_ 58 178 59 576460752303423487 ?_
      refine done_ (done_of HT_.1 (by kernel_rfl)) ?_
      go_upto_if 178 with (fail)
      have H := HS_.1
      clear HS_
      by_cases hH : eL = true
      rotate_left
      ·replace hH := bf_ hH
       subst hH
       rw [if_neg ff_] at H
       obtain rfl := Option.some.inj H
       go_wp2
       go_ret
       exact ⟨er_, pb2_ HB.1 ad.1 ai.1⟩
      subst hH
      rw [if_pos rfl] at H
      have H' := Q_ H
      clear H
      go_wp2
      go_roundg k4
      case measure => have := eV.1; have := eW.1; have := gF.1; have := hx.1; omega
      case rel => (try rw [← o.1]); (try rw [← x.1]); exact ⟨(wrap64 (a + 1)), el_, H', ⟨by have := eV.1; have := eW.1; have := gF.1; have := hx.1; omega⟩, ⟨pk_ d.1⟩, ⟨pk_ g.1⟩, ⟨pb2_ HB.1 ad.1 ai.1⟩⟩
    subst hF
    rw [if_pos rfl] at H
    obtain ⟨hP, hbq87⟩ : ∃ b_ : Bool, b_ = ((rd_T57 i a).f2) := ⟨_, rfl⟩
    replace H : (if hP = true then ((spec_EqualDialed.f k4 ((rd_T57 j a).f3.f0.f0) ((rd_T57 j a).f3.f0.f1) ((rd_T57 j a).f3.f0.f2) ((rd_T57 j a).f3.f1) ((rd_T57 j a).f3.f2) ((rd_T57 i a).f3.f0.f0) ((rd_T57 i a).f3.f0.f1) ((rd_T57 i a).f3.f0.f2) ((rd_T57 i a).f3.f1) ((rd_T57 i a).f3.f2)).bind fun eK => (if eK = true then (spec_EqualWorlds.l2 k4 (wrap64 (a + 1)) aI ba a4 ab bq bc br bs a5 a6 u j aj ak aC aJ bb a7 ac bt bd bu bv a8 a9 v i al am aD) else (some false))) else (some false)) = some r := by rw [← hbq87] at H; exact H
    have y := Q_ hbq87
    clear hbq87
    by_cases hI : hP = true
    rotate_left
    ·replace hI := bf_ hI
     subst hI
     rw [if_neg ff_] at H
     obtain rfl := Option.some.inj H
     have j8 := J.1
     have ks := M.1
     have jO := bc15_ d.1
     try go_wp2
     have _ := Q_ (blk_drew d.1)
     have _ := Q_ (blk_drew g.1)
     have _ := Q_ (below_drew1 HB.1)
     clear d g HB
     rename_i d g HB
     have ch : 0 ≤ (a : Int) := dt_
     have cj : a < (j.length : Int) := dt_
     obtain ⟨b, aK, aO, aL, aP, dw, O, P, z, A, Q, p, R, q, bi, be, bj, bf⟩ := at_T57 bw.1 a ch cj
     have bM := q
     have bL := R
     have bK := p
     have bJ := Q
     have aF := A
     (try rw [← o.1] at aF)
     (try rw [← y.1] at aF)
     have aE := z
     (try rw [← o.1] at aE)
     (try rw [← y.1] at aE)
     have bI := P
     have bH := O
     (try rw [← o.1] at z)
     (try rw [← y.1] at z)
     (try rw [← o.1] at A)
     (try rw [← y.1] at A)
     cases dw
     replace O := bt_ HB O
     replace P := bt_ HB P
     replace z := bt_ HB z
     replace A := bt_ HB A
     replace Q := bt_ HB Q
     replace p := bt_ HB p
     replace R := bt_ HB R
     replace q := bt_ HB q
     have bT := Q_ be
     have dp := Q_ bi
     clear be bi
     have bU := Q_ bf
     have dq := Q_ bj
     clear bf bj
     replace ch := eq_true ch
     replace cj := eq_true cj
     have ci : 0 ≤ (a : Int) := dt_
     have ck : a < (i.length : Int) := dt_
     obtain ⟨c, aM, aQ, aN, aR, dx, T, U, B, D, V, s, W, t, bk, bg, bl, bh⟩ := at_T57 bx.1 a ci ck
     have bS := t
     have bR := W
     have bQ := s
     have bP := V
     have aH := D
     (try rw [← o.1] at aH)
     (try rw [← y.1] at aH)
     have aG := B
     (try rw [← o.1] at aG)
     (try rw [← y.1] at aG)
     have bO := U
     have bN := T
     (try rw [← o.1] at B)
     (try rw [← y.1] at B)
     (try rw [← o.1] at D)
     (try rw [← y.1] at D)
     cases dx
     replace T := bt_ HB T
     replace U := bt_ HB U
     replace B := bt_ HB B
     replace D := bt_ HB D
     replace V := bt_ HB V
     replace s := bt_ HB s
     replace W := bt_ HB W
     replace t := bt_ HB t
     have bV := Q_ bg
     have dr := Q_ bk
     clear bg bk
     have bW := Q_ bh
     have dt := Q_ bl
     clear bh bl
     replace ci := eq_true ci
     replace ck := eq_true ck
     have cH : 0 ≤ (a : Int) := dt_
     have cJ : a < (j.length : Int) := dt_
     obtain ⟨dm, eu, ey, ev, ez, dM, ao, ap, E, F, aq, X, ar, Y, bD, bz, bE, bA⟩ := at_T57 bw.1 a cH cJ
     have ca := Y
     have b9 := ar
     have b8 := X
     have b7 := aq
     have aT := F
     (try rw [← o.1] at aT)
     (try rw [← y.1] at aT)
     have aS := E
     (try rw [← o.1] at aS)
     (try rw [← y.1] at aS)
     have b6 := ap
     have b5 := ao
     (try rw [← o.1] at E)
     (try rw [← y.1] at E)
     (try rw [← o.1] at F)
     (try rw [← y.1] at F)
     obtain rfl : b = dm := (by injection dM)
     replace ao := bt_ HB ao
     replace ap := bt_ HB ap
     replace E := bt_ HB E
     replace F := bt_ HB F
     replace aq := bt_ HB aq
     replace X := bt_ HB X
     replace ar := bt_ HB ar
     replace Y := bt_ HB Y
     have cr := Q_ bz
     have dI := Q_ bD
     clear bz bD
     have cs := Q_ bA
     have dJ := Q_ bE
     clear bA bE
     replace cH := eq_true cH
     replace cJ := eq_true cJ
     have ea_ := Option.some.inj (p.symm.trans X)
     injection ea_ with ea_ en_ ec_
     subst ea_
     subst ec_
     clear en_
     have ea_ := Option.some.inj (q.symm.trans Y)
     injection ea_ with ea_ en_ ec_
     subst ea_
     subst ec_
     clear en_
     have cI : 0 ≤ (a : Int) := dt_
     have cK : a < (i.length : Int) := dt_
     obtain ⟨dn, ew, eA, ex, eB, dN, au, av, G, I, aw, Z, ax, aa, bF, bB, bG, bC⟩ := at_T57 bx.1 a cI cK
     have cg := aa
     have cf := ax
     have ce := Z
     have cd := aw
     have aV := I
     (try rw [← o.1] at aV)
     (try rw [← y.1] at aV)
     have aU := G
     (try rw [← o.1] at aU)
     (try rw [← y.1] at aU)
     have cc := av
     have cb := au
     (try rw [← o.1] at G)
     (try rw [← y.1] at G)
     (try rw [← o.1] at I)
     (try rw [← y.1] at I)
     obtain rfl : c = dn := (by injection dN)
     replace au := bt_ HB au
     replace av := bt_ HB av
     replace G := bt_ HB G
     replace I := bt_ HB I
     replace aw := bt_ HB aw
     replace Z := bt_ HB Z
     replace ax := bt_ HB ax
     replace aa := bt_ HB aa
     have ct := Q_ bB
     have dK := Q_ bF
     clear bB bF
     have cu := Q_ bC
     have dL := Q_ bG
     clear bC bG
     replace cI := eq_true cI
     replace cK := eq_true cK
     have ea_ := Option.some.inj (s.symm.trans Z)
     injection ea_ with ea_ en_ ec_
     subst ea_
     subst ec_
     clear en_
     have ea_ := Option.some.inj (t.symm.trans aa)
     injection ea_ with ea_ en_ ec_
     subst ea_
     subst ec_
     clear en_
     have c3 : 0 ≤ (a : Int) := dt_
     have c5 : a < (j.length : Int) := dt_
     obtain ⟨dG, eM, eQ, eN, eR, eI, aW, aX, ae, af, aY, ay, aZ, az, b1, bX, b2, bY⟩ := at_T57 bw.1 a c3 c5
     have cA := az
     have cz := aZ
     have cy := ay
     have cx := aY
     have bn := af
     (try rw [← o.1] at bn)
     (try rw [← y.1] at bn)
     have bm := ae
     (try rw [← o.1] at bm)
     (try rw [← y.1] at bm)
     have cw := aX
     have cv := aW
     (try rw [← o.1] at ae)
     (try rw [← y.1] at ae)
     (try rw [← o.1] at af)
     (try rw [← y.1] at af)
     obtain rfl : b = dG := (by injection eI)
     replace aW := bt_ HB aW
     replace aX := bt_ HB aX
     replace ae := bt_ HB ae
     replace af := bt_ HB af
     replace aY := bt_ HB aY
     replace ay := bt_ HB ay
     replace aZ := bt_ HB aZ
     replace az := bt_ HB az
     have cT := Q_ bX
     have eC := Q_ b1
     clear bX b1
     have cU := Q_ bY
     have eD := Q_ b2
     clear bY b2
     replace c3 := eq_true c3
     replace c5 := eq_true c5
     have ea_ := Option.some.inj (p.symm.trans ay)
     injection ea_ with ea_ en_ ec_
     subst ea_
     subst ec_
     clear en_
     have ea_ := Option.some.inj (q.symm.trans az)
     injection ea_ with ea_ en_ ec_
     subst ea_
     subst ec_
     clear en_
     have c4 : 0 ≤ (a : Int) := dt_
     have c7 : a < (i.length : Int) := dt_
     obtain ⟨dH, eO, eS, eP, eT, eJ, a0, a1, ag, ah, a2, aA, a3, aB, b3, bZ, b4, b0⟩ := at_T57 bx.1 a c4 c7
     have cG := aB
     have cF := a3
     have cE := aA
     have cD := a2
     have bp := ah
     (try rw [← o.1] at bp)
     (try rw [← y.1] at bp)
     have bo := ag
     (try rw [← o.1] at bo)
     (try rw [← y.1] at bo)
     have cC := a1
     have cB := a0
     (try rw [← o.1] at ag)
     (try rw [← y.1] at ag)
     (try rw [← o.1] at ah)
     (try rw [← y.1] at ah)
     obtain rfl : c = dH := (by injection eJ)
     replace a0 := bt_ HB a0
     replace a1 := bt_ HB a1
     replace ag := bt_ HB ag
     replace ah := bt_ HB ah
     replace a2 := bt_ HB a2
     replace aA := bt_ HB aA
     replace a3 := bt_ HB a3
     replace aB := bt_ HB aB
     have cV := Q_ bZ
     have eE := Q_ b3
     clear bZ b3
     have cW := Q_ b0
     have eF := Q_ b4
     clear b0 b4
     replace c4 := eq_true c4
     replace c7 := eq_true c7
     have ea_ := Option.some.inj (s.symm.trans aA)
     injection ea_ with ea_ en_ ec_
     subst ea_
     subst ec_
     clear en_
     have ea_ := Option.some.inj (t.symm.trans aB)
     injection ea_ with ea_ en_ ec_
     subst ea_
     subst ec_
     clear en_
     as_aux_lemma =>
      refine start_ (n := 59) (S := fun w' => w'.cell? ⟨l, 0, none⟩ = some (.slice cL aI.length cN) ∧ w'.cell? ⟨l, 1, none⟩ = some (.slice cP ba.length cX) ∧ w'.cell? ⟨l, 2, none⟩ = some (.int .i64 a4) ∧ w'.cell? ⟨l, 3, none⟩ = some (.slice c8 ab.length cY) ∧ w'.cell? ⟨l, 4, none⟩ = some (.int .i64 bq) ∧ w'.cell? ⟨l, 5, none⟩ = some (.slice cQ bc.length cZ) ∧ w'.cell? ⟨l, 6, none⟩ = some (.int .i64 br) ∧ w'.cell? ⟨l, 7, none⟩ = some (.bool bs) ∧ w'.cell? ⟨l, 8, none⟩ = some (.int .i64 a5) ∧ w'.cell? ⟨l, 9, none⟩ = some (.int .i64 a6) ∧ w'.cell? ⟨l, 10, none⟩ = some (.slice cp u.length cl) ∧ w'.cell? ⟨l, 11, none⟩ = some (.slice (some b) j.length cm) ∧ w'.cell? ⟨l, 12, none⟩ = some (.int .i64 aj) ∧ w'.cell? ⟨l, 13, none⟩ = some (.int .i64 ak) ∧ w'.cell? ⟨l, 14, none⟩ = some (.int .i64 aC) ∧ w'.cell? ⟨m, 0, none⟩ = some (.slice cM aJ.length cO) ∧ w'.cell? ⟨m, 1, none⟩ = some (.slice cR bb.length c0) ∧ w'.cell? ⟨m, 2, none⟩ = some (.int .i64 a7) ∧ w'.cell? ⟨m, 3, none⟩ = some (.slice c9 ac.length c1) ∧ w'.cell? ⟨m, 4, none⟩ = some (.int .i64 bt) ∧ w'.cell? ⟨m, 5, none⟩ = some (.slice cS bd.length c2) ∧ w'.cell? ⟨m, 6, none⟩ = some (.int .i64 bu) ∧ w'.cell? ⟨m, 7, none⟩ = some (.bool bv) ∧ w'.cell? ⟨m, 8, none⟩ = some (.int .i64 a8) ∧ w'.cell? ⟨m, 9, none⟩ = some (.int .i64 a9) ∧ w'.cell? ⟨m, 10, none⟩ = some (.slice cq v.length cn) ∧ w'.cell? ⟨m, 11, none⟩ = some (.slice (some c) i.length co) ∧ w'.cell? ⟨m, 12, none⟩ = some (.int .i64 al) ∧ w'.cell? ⟨m, 13, none⟩ = some (.int .i64 am) ∧ w'.cell? ⟨m, 14, none⟩ = some (.int .i64 aD) ∧ w'.cell? (b.add ((a).toNat * 8)) = some (.int .i64 ((rd_T57 j a).f0)) ∧ w'.cell? ⟨(b.add ((a).toNat * 8)).block, (b.add ((a).toNat * 8)).off + 1, none⟩ = some (.int .i64 ((rd_T57 j a).f1)) ∧ w'.cell? ⟨(b.add ((a).toNat * 8)).block, (b.add ((a).toNat * 8)).off + 2, none⟩ = some (.bool true) ∧ w'.cell? ⟨(b.add ((a).toNat * 8)).block, (b.add ((a).toNat * 8)).off + 3, none⟩ = some (.bool ((rd_T57 j a).f3.f0.f0)) ∧ w'.cell? ⟨(b.add ((a).toNat * 8)).block, (b.add ((a).toNat * 8)).off + 4, none⟩ = some (.int .i64 ((rd_T57 j a).f3.f0.f1)) ∧ w'.cell? ⟨(b.add ((a).toNat * 8)).block, (b.add ((a).toNat * 8)).off + 5, none⟩ = some (.slice aK ((rd_T57 j a).f3.f0.f2).length aO) ∧ w'.cell? ⟨(b.add ((a).toNat * 8)).block, (b.add ((a).toNat * 8)).off + 6, none⟩ = some (.int .i64 ((rd_T57 j a).f3.f1)) ∧ w'.cell? ⟨(b.add ((a).toNat * 8)).block, (b.add ((a).toNat * 8)).off + 7, none⟩ = some (.slice aL ((rd_T57 j a).f3.f2).length aP) ∧ w'.cell? (c.add ((a).toNat * 8)) = some (.int .i64 ((rd_T57 i a).f0)) ∧ w'.cell? ⟨(c.add ((a).toNat * 8)).block, (c.add ((a).toNat * 8)).off + 1, none⟩ = some (.int .i64 ((rd_T57 i a).f1)) ∧ w'.cell? ⟨(c.add ((a).toNat * 8)).block, (c.add ((a).toNat * 8)).off + 2, none⟩ = some (.bool false) ∧ w'.cell? ⟨(c.add ((a).toNat * 8)).block, (c.add ((a).toNat * 8)).off + 3, none⟩ = some (.bool ((rd_T57 i a).f3.f0.f0)) ∧ w'.cell? ⟨(c.add ((a).toNat * 8)).block, (c.add ((a).toNat * 8)).off + 4, none⟩ = some (.int .i64 ((rd_T57 i a).f3.f0.f1)) ∧ w'.cell? ⟨(c.add ((a).toNat * 8)).block, (c.add ((a).toNat * 8)).off + 5, none⟩ = some (.slice aM ((rd_T57 i a).f3.f0.f2).length aQ) ∧ w'.cell? ⟨(c.add ((a).toNat * 8)).block, (c.add ((a).toNat * 8)).off + 6, none⟩ = some (.int .i64 ((rd_T57 i a).f3.f1)) ∧ w'.cell? ⟨(c.add ((a).toNat * 8)).block, (c.add ((a).toNat * 8)).off + 7, none⟩ = some (.slice aN ((rd_T57 i a).f3.f2).length aR) ∧ w'.cell? (b.add ((a).toNat * 8)) = some (.int .i64 ((rd_T57 j a).f0)) ∧ w'.cell? ⟨(b.add ((a).toNat * 8)).block, (b.add ((a).toNat * 8)).off + 1, none⟩ = some (.int .i64 ((rd_T57 j a).f1)) ∧ w'.cell? ⟨(b.add ((a).toNat * 8)).block, (b.add ((a).toNat * 8)).off + 2, none⟩ = some (.bool true) ∧ w'.cell? ⟨(b.add ((a).toNat * 8)).block, (b.add ((a).toNat * 8)).off + 3, none⟩ = some (.bool ((rd_T57 j a).f3.f0.f0)) ∧ w'.cell? ⟨(b.add ((a).toNat * 8)).block, (b.add ((a).toNat * 8)).off + 4, none⟩ = some (.int .i64 ((rd_T57 j a).f3.f0.f1)) ∧ w'.cell? ⟨(b.add ((a).toNat * 8)).block, (b.add ((a).toNat * 8)).off + 5, none⟩ = some (.slice aK ((rd_T57 j a).f3.f0.f2).length aO) ∧ w'.cell? ⟨(b.add ((a).toNat * 8)).block, (b.add ((a).toNat * 8)).off + 6, none⟩ = some (.int .i64 ((rd_T57 j a).f3.f1)) ∧ w'.cell? ⟨(b.add ((a).toNat * 8)).block, (b.add ((a).toNat * 8)).off + 7, none⟩ = some (.slice aL ((rd_T57 j a).f3.f2).length aP) ∧ w'.cell? (c.add ((a).toNat * 8)) = some (.int .i64 ((rd_T57 i a).f0)) ∧ w'.cell? ⟨(c.add ((a).toNat * 8)).block, (c.add ((a).toNat * 8)).off + 1, none⟩ = some (.int .i64 ((rd_T57 i a).f1)) ∧ w'.cell? ⟨(c.add ((a).toNat * 8)).block, (c.add ((a).toNat * 8)).off + 2, none⟩ = some (.bool false) ∧ w'.cell? ⟨(c.add ((a).toNat * 8)).block, (c.add ((a).toNat * 8)).off + 3, none⟩ = some (.bool ((rd_T57 i a).f3.f0.f0)) ∧ w'.cell? ⟨(c.add ((a).toNat * 8)).block, (c.add ((a).toNat * 8)).off + 4, none⟩ = some (.int .i64 ((rd_T57 i a).f3.f0.f1)) ∧ w'.cell? ⟨(c.add ((a).toNat * 8)).block, (c.add ((a).toNat * 8)).off + 5, none⟩ = some (.slice aM ((rd_T57 i a).f3.f0.f2).length aQ) ∧ w'.cell? ⟨(c.add ((a).toNat * 8)).block, (c.add ((a).toNat * 8)).off + 6, none⟩ = some (.int .i64 ((rd_T57 i a).f3.f1)) ∧ w'.cell? ⟨(c.add ((a).toNat * 8)).block, (c.add ((a).toNat * 8)).off + 7, none⟩ = some (.slice aN ((rd_T57 i a).f3.f2).length aR) ∧ w'.cell? (b.add ((a).toNat * 8)) = some (.int .i64 ((rd_T57 j a).f0)) ∧ w'.cell? ⟨(b.add ((a).toNat * 8)).block, (b.add ((a).toNat * 8)).off + 1, none⟩ = some (.int .i64 ((rd_T57 j a).f1)) ∧ w'.cell? ⟨(b.add ((a).toNat * 8)).block, (b.add ((a).toNat * 8)).off + 2, none⟩ = some (.bool true) ∧ w'.cell? ⟨(b.add ((a).toNat * 8)).block, (b.add ((a).toNat * 8)).off + 3, none⟩ = some (.bool ((rd_T57 j a).f3.f0.f0)) ∧ w'.cell? ⟨(b.add ((a).toNat * 8)).block, (b.add ((a).toNat * 8)).off + 4, none⟩ = some (.int .i64 ((rd_T57 j a).f3.f0.f1)) ∧ w'.cell? ⟨(b.add ((a).toNat * 8)).block, (b.add ((a).toNat * 8)).off + 5, none⟩ = some (.slice aK ((rd_T57 j a).f3.f0.f2).length aO) ∧ w'.cell? ⟨(b.add ((a).toNat * 8)).block, (b.add ((a).toNat * 8)).off + 6, none⟩ = some (.int .i64 ((rd_T57 j a).f3.f1)) ∧ w'.cell? ⟨(b.add ((a).toNat * 8)).block, (b.add ((a).toNat * 8)).off + 7, none⟩ = some (.slice aL ((rd_T57 j a).f3.f2).length aP) ∧ w'.cell? (c.add ((a).toNat * 8)) = some (.int .i64 ((rd_T57 i a).f0)) ∧ w'.cell? ⟨(c.add ((a).toNat * 8)).block, (c.add ((a).toNat * 8)).off + 1, none⟩ = some (.int .i64 ((rd_T57 i a).f1)) ∧ w'.cell? ⟨(c.add ((a).toNat * 8)).block, (c.add ((a).toNat * 8)).off + 2, none⟩ = some (.bool false) ∧ w'.cell? ⟨(c.add ((a).toNat * 8)).block, (c.add ((a).toNat * 8)).off + 3, none⟩ = some (.bool ((rd_T57 i a).f3.f0.f0)) ∧ w'.cell? ⟨(c.add ((a).toNat * 8)).block, (c.add ((a).toNat * 8)).off + 4, none⟩ = some (.int .i64 ((rd_T57 i a).f3.f0.f1)) ∧ w'.cell? ⟨(c.add ((a).toNat * 8)).block, (c.add ((a).toNat * 8)).off + 5, none⟩ = some (.slice aM ((rd_T57 i a).f3.f0.f2).length aQ) ∧ w'.cell? ⟨(c.add ((a).toNat * 8)).block, (c.add ((a).toNat * 8)).off + 6, none⟩ = some (.int .i64 ((rd_T57 i a).f3.f1)) ∧ w'.cell? ⟨(c.add ((a).toNat * 8)).block, (c.add ((a).toNat * 8)).off + 7, none⟩ = some (.slice aN ((rd_T57 i a).f3.f2).length aR)) (ds := []) (tf_ 0 59) (by kernel_rfl) rfl rfl ⟨(blk_cell d.1 0).trans rfl, (blk_cell d.1 1).trans rfl, (blk_cell d.1 2).trans rfl, (blk_cell d.1 3).trans rfl, (blk_cell d.1 4).trans rfl, (blk_cell d.1 5).trans rfl, (blk_cell d.1 6).trans rfl, (blk_cell d.1 7).trans rfl, (blk_cell d.1 8).trans rfl, (blk_cell d.1 9).trans rfl, (blk_cell d.1 10).trans rfl, (blk_cell d.1 11).trans rfl, (blk_cell d.1 12).trans rfl, (blk_cell d.1 13).trans rfl, (blk_cell d.1 14).trans rfl, (blk_cell g.1 0).trans rfl, (blk_cell g.1 1).trans rfl, (blk_cell g.1 2).trans rfl, (blk_cell g.1 3).trans rfl, (blk_cell g.1 4).trans rfl, (blk_cell g.1 5).trans rfl, (blk_cell g.1 6).trans rfl, (blk_cell g.1 7).trans rfl, (blk_cell g.1 8).trans rfl, (blk_cell g.1 9).trans rfl, (blk_cell g.1 10).trans rfl, (blk_cell g.1 11).trans rfl, (blk_cell g.1 12).trans rfl, (blk_cell g.1 13).trans rfl, (blk_cell g.1 14).trans rfl, (bt_ HB bH), (bt_ HB bI), (bt_ HB aE), (bt_ HB aF), (bt_ HB bJ), (bt_ HB bK), (bt_ HB bL), (bt_ HB bM), (bt_ HB bN), (bt_ HB bO), (bt_ HB aG), (bt_ HB aH), (bt_ HB bP), (bt_ HB bQ), (bt_ HB bR), (bt_ HB bS), (bt_ HB b5), (bt_ HB b6), (bt_ HB aS), (bt_ HB aT), (bt_ HB b7), (bt_ HB b8), (bt_ HB b9), (bt_ HB ca), (bt_ HB cb), (bt_ HB cc), (bt_ HB aU), (bt_ HB aV), (bt_ HB cd), (bt_ HB ce), (bt_ HB cf), (bt_ HB cg), (bt_ HB cv), (bt_ HB cw), (bt_ HB bm), (bt_ HB bn), (bt_ HB cx), (bt_ HB cy), (bt_ HB cz), (bt_ HB cA), (bt_ HB cB), (bt_ HB cC), (bt_ HB bo), (bt_ HB bp), (bt_ HB cD), (bt_ HB cE), (bt_ HB cF), (bt_ HB cG)⟩ (fun hHeld => ?_); refine with_tabW spec_EqualWorlds.tab16 spec_EqualWorlds.bits16 (fun HT_ HW_ => ?_)
      generalize wr.drew = kM at d g HB bT bU bV bW cr cs ct cu cT cU cV cW O P z A Q p R q T U B D V s W t ao ap E F aq X ar Y au av G I aw Z ax aa aW aX ae af aY ay aZ az a0 a1 ag ah a2 aA a3 aB hHeld ⊢
      refine pu1_ 0 120 59 1 ?_
      refine pu1_ 2 122 59 5 ?_
      refine pu1_ 6 126 59 69 ?_
      refine pu1_ 8 128 59 325 ?_
      refine ta1_ 1 121 59 327 hHeld ?_
      refine pu1_ 3 123 59 335 ?_
      refine pu1_ 4 124 59 351 ?_
      refine ta1_ 5 125 59 383 hHeld ?_
      refine ta1_ 7 127 59 511 hHeld ?_
      refine pu1_ 9 129 59 1023 ?_
      refine pu1_ 10 130 59 2047 ?_
      refine ta1_ 11 131 59 4095 hHeld ?_
      refine pu1_ 12 132 59 8191 ?_
      refine pu1_ 13 133 59 16383 ?_
      refine pu1_ 14 134 59 32767 ?_
      refine pu1_ 16 136 59 98303 ?_
      refine pu1_ 20 140 59 1146879 ?_
      refine pu1_ 22 142 59 5341183 ?_
      refine ta1_ 15 135 59 5373951 hHeld ?_
      refine pu1_ 17 137 59 5505023 ?_
      refine pu1_ 18 138 59 5767167 ?_
      refine ta1_ 19 139 59 6291455 hHeld ?_
      refine ta1_ 21 141 59 8388607 hHeld ?_
      refine pu1_ 23 143 59 16777215 ?_
      refine pu1_ 24 144 59 33554431 ?_
      refine ta1_ 25 145 59 67108863 hHeld ?_
      refine pu1_ 26 146 59 134217727 ?_
      refine pu1_ 27 147 59 268435455 ?_
      refine pu1_ 28 148 59 536870911 ?_
      refine pu1_ 29 149 59 1073741823 ?_
      refine pu1_ 31 151 59 3221225471 ?_
      refine pu1_ 35 155 59 37580963839 ?_
      refine pu1_ 37 157 59 175019917311 ?_
      refine ta1_ 30 150 59 176093659135 hHeld ?_
      refine pu1_ 32 152 59 180388626431 ?_
      refine pu1_ 33 153 59 188978561023 ?_
      refine ta1_ 34 154 59 206158430207 hHeld ?_
      refine ta1_ 36 156 59 274877906943 hHeld ?_
      refine pu1_ 38 158 59 549755813887 ?_
      refine pu1_ 39 159 59 1099511627775 ?_
      refine ta1_ 40 160 59 2199023255551 hHeld ?_
      refine pu1_ 41 161 59 4398046511103 ?_
      refine pu1_ 42 162 59 8796093022207 ?_
      refine pu1_ 43 163 59 17592186044415 ?_
      refine pn1_ 44 164 59 35184372088831 ?_
      refine pn1_ 45 165 59 70368744177663 ?_
      refine pn1_ 46 166 59 140737488355327 ?_
      refine pn1_ 47 167 59 281474976710655 ?_
      refine pn1_ 48 168 59 562949953421311 ?_
      refine pn1_ 49 169 59 1125899906842623 ?_
      refine pn1_ 50 170 59 2251799813685247 ?_
      refine pn1_ 51 171 59 4503599627370495 ?_
      refine pn1_ 52 172 59 9007199254740991 ?_
      refine pn1_ 53 173 59 18014398509481983 ?_
      refine pn1_ 54 174 59 36028797018963967 ?_
      refine pn1_ 55 175 59 72057594037927935 ?_
      refine pn1_ 56 176 59 144115188075855871 ?_
      refine pn1_ 57 177 59 288230376151711743 ?_
      refine pu1_ 58 178 59 576460752303423487 ?_
      refine done_ (done_of HT_.1 (by kernel_rfl)) ?_
      try go_wp2
      go_ret
      exact ⟨er_, pb2_ HB.1 ad.1 ai.1⟩
    subst hI
    rw [if_pos rfl] at H
    obtain ⟨eK, jf, H⟩ := bs_ H
    (try dsimp only at H)
    have HS_ := Q_ H
    clear H
    have j9 := J.1
    have kt := M.1
    have jP := bc15_ d.1
    try go_wp2
    have _ := Q_ (blk_drew d.1)
    have _ := Q_ (blk_drew g.1)
    have _ := Q_ (below_drew1 HB.1)
    clear d g HB
    rename_i d g HB
    have ch : 0 ≤ (a : Int) := dt_
    have cj : a < (j.length : Int) := dt_
    obtain ⟨b, aK, aO, aL, aP, dw, O, P, z, A, Q, p, R, q, bi, be, bj, bf⟩ := at_T57 bw.1 a ch cj
    have bM := q
    have bL := R
    have bK := p
    have bJ := Q
    have aF := A
    (try rw [← o.1] at aF)
    (try rw [← y.1] at aF)
    have aE := z
    (try rw [← o.1] at aE)
    (try rw [← y.1] at aE)
    have bI := P
    have bH := O
    (try rw [← o.1] at z)
    (try rw [← y.1] at z)
    (try rw [← o.1] at A)
    (try rw [← y.1] at A)
    cases dw
    replace O := bt_ HB O
    replace P := bt_ HB P
    replace z := bt_ HB z
    replace A := bt_ HB A
    replace Q := bt_ HB Q
    replace p := bt_ HB p
    replace R := bt_ HB R
    replace q := bt_ HB q
    have bT := Q_ be
    have dp := Q_ bi
    clear be bi
    have bU := Q_ bf
    have dq := Q_ bj
    clear bf bj
    replace ch := eq_true ch
    replace cj := eq_true cj
    have ci : 0 ≤ (a : Int) := dt_
    have ck : a < (i.length : Int) := dt_
    obtain ⟨c, aM, aQ, aN, aR, dx, T, U, B, D, V, s, W, t, bk, bg, bl, bh⟩ := at_T57 bx.1 a ci ck
    have bS := t
    have bR := W
    have bQ := s
    have bP := V
    have aH := D
    (try rw [← o.1] at aH)
    (try rw [← y.1] at aH)
    have aG := B
    (try rw [← o.1] at aG)
    (try rw [← y.1] at aG)
    have bO := U
    have bN := T
    (try rw [← o.1] at B)
    (try rw [← y.1] at B)
    (try rw [← o.1] at D)
    (try rw [← y.1] at D)
    cases dx
    replace T := bt_ HB T
    replace U := bt_ HB U
    replace B := bt_ HB B
    replace D := bt_ HB D
    replace V := bt_ HB V
    replace s := bt_ HB s
    replace W := bt_ HB W
    replace t := bt_ HB t
    have bV := Q_ bg
    have dr := Q_ bk
    clear bg bk
    have bW := Q_ bh
    have dt := Q_ bl
    clear bh bl
    replace ci := eq_true ci
    replace ck := eq_true ck
    have cH : 0 ≤ (a : Int) := dt_
    have cJ : a < (j.length : Int) := dt_
    obtain ⟨dm, eu, ey, ev, ez, dM, ao, ap, E, F, aq, X, ar, Y, bD, bz, bE, bA⟩ := at_T57 bw.1 a cH cJ
    have ca := Y
    have b9 := ar
    have b8 := X
    have b7 := aq
    have aT := F
    (try rw [← o.1] at aT)
    (try rw [← y.1] at aT)
    have aS := E
    (try rw [← o.1] at aS)
    (try rw [← y.1] at aS)
    have b6 := ap
    have b5 := ao
    (try rw [← o.1] at E)
    (try rw [← y.1] at E)
    (try rw [← o.1] at F)
    (try rw [← y.1] at F)
    obtain rfl : b = dm := (by injection dM)
    replace ao := bt_ HB ao
    replace ap := bt_ HB ap
    replace E := bt_ HB E
    replace F := bt_ HB F
    replace aq := bt_ HB aq
    replace X := bt_ HB X
    replace ar := bt_ HB ar
    replace Y := bt_ HB Y
    have cr := Q_ bz
    have dI := Q_ bD
    clear bz bD
    have cs := Q_ bA
    have dJ := Q_ bE
    clear bA bE
    replace cH := eq_true cH
    replace cJ := eq_true cJ
    have ea_ := Option.some.inj (p.symm.trans X)
    injection ea_ with ea_ en_ ec_
    subst ea_
    subst ec_
    clear en_
    have ea_ := Option.some.inj (q.symm.trans Y)
    injection ea_ with ea_ en_ ec_
    subst ea_
    subst ec_
    clear en_
    have cI : 0 ≤ (a : Int) := dt_
    have cK : a < (i.length : Int) := dt_
    obtain ⟨dn, ew, eA, ex, eB, dN, au, av, G, I, aw, Z, ax, aa, bF, bB, bG, bC⟩ := at_T57 bx.1 a cI cK
    have cg := aa
    have cf := ax
    have ce := Z
    have cd := aw
    have aV := I
    (try rw [← o.1] at aV)
    (try rw [← y.1] at aV)
    have aU := G
    (try rw [← o.1] at aU)
    (try rw [← y.1] at aU)
    have cc := av
    have cb := au
    (try rw [← o.1] at G)
    (try rw [← y.1] at G)
    (try rw [← o.1] at I)
    (try rw [← y.1] at I)
    obtain rfl : c = dn := (by injection dN)
    replace au := bt_ HB au
    replace av := bt_ HB av
    replace G := bt_ HB G
    replace I := bt_ HB I
    replace aw := bt_ HB aw
    replace Z := bt_ HB Z
    replace ax := bt_ HB ax
    replace aa := bt_ HB aa
    have ct := Q_ bB
    have dK := Q_ bF
    clear bB bF
    have cu := Q_ bC
    have dL := Q_ bG
    clear bC bG
    replace cI := eq_true cI
    replace cK := eq_true cK
    have ea_ := Option.some.inj (s.symm.trans Z)
    injection ea_ with ea_ en_ ec_
    subst ea_
    subst ec_
    clear en_
    have ea_ := Option.some.inj (t.symm.trans aa)
    injection ea_ with ea_ en_ ec_
    subst ea_
    subst ec_
    clear en_
    have c3 : 0 ≤ (a : Int) := dt_
    have c5 : a < (j.length : Int) := dt_
    obtain ⟨dG, eM, eQ, eN, eR, eI, aW, aX, ae, af, aY, ay, aZ, az, b1, bX, b2, bY⟩ := at_T57 bw.1 a c3 c5
    have cA := az
    have cz := aZ
    have cy := ay
    have cx := aY
    have bn := af
    (try rw [← o.1] at bn)
    (try rw [← y.1] at bn)
    have bm := ae
    (try rw [← o.1] at bm)
    (try rw [← y.1] at bm)
    have cw := aX
    have cv := aW
    (try rw [← o.1] at ae)
    (try rw [← y.1] at ae)
    (try rw [← o.1] at af)
    (try rw [← y.1] at af)
    obtain rfl : b = dG := (by injection eI)
    replace aW := bt_ HB aW
    replace aX := bt_ HB aX
    replace ae := bt_ HB ae
    replace af := bt_ HB af
    replace aY := bt_ HB aY
    replace ay := bt_ HB ay
    replace aZ := bt_ HB aZ
    replace az := bt_ HB az
    have cT := Q_ bX
    have eC := Q_ b1
    clear bX b1
    have cU := Q_ bY
    have eD := Q_ b2
    clear bY b2
    replace c3 := eq_true c3
    replace c5 := eq_true c5
    have ea_ := Option.some.inj (p.symm.trans ay)
    injection ea_ with ea_ en_ ec_
    subst ea_
    subst ec_
    clear en_
    have ea_ := Option.some.inj (q.symm.trans az)
    injection ea_ with ea_ en_ ec_
    subst ea_
    subst ec_
    clear en_
    have c4 : 0 ≤ (a : Int) := dt_
    have c7 : a < (i.length : Int) := dt_
    obtain ⟨dH, eO, eS, eP, eT, eJ, a0, a1, ag, ah, a2, aA, a3, aB, b3, bZ, b4, b0⟩ := at_T57 bx.1 a c4 c7
    have cG := aB
    have cF := a3
    have cE := aA
    have cD := a2
    have bp := ah
    (try rw [← o.1] at bp)
    (try rw [← y.1] at bp)
    have bo := ag
    (try rw [← o.1] at bo)
    (try rw [← y.1] at bo)
    have cC := a1
    have cB := a0
    (try rw [← o.1] at ag)
    (try rw [← y.1] at ag)
    (try rw [← o.1] at ah)
    (try rw [← y.1] at ah)
    obtain rfl : c = dH := (by injection eJ)
    replace a0 := bt_ HB a0
    replace a1 := bt_ HB a1
    replace ag := bt_ HB ag
    replace ah := bt_ HB ah
    replace a2 := bt_ HB a2
    replace aA := bt_ HB aA
    replace a3 := bt_ HB a3
    replace aB := bt_ HB aB
    have cV := Q_ bZ
    have eE := Q_ b3
    clear bZ b3
    have cW := Q_ b0
    have eF := Q_ b4
    clear b0 b4
    replace c4 := eq_true c4
    replace c7 := eq_true c7
    have ea_ := Option.some.inj (s.symm.trans aA)
    injection ea_ with ea_ en_ ec_
    subst ea_
    subst ec_
    clear en_
    have ea_ := Option.some.inj (t.symm.trans aB)
    injection ea_ with ea_ en_ ec_
    subst ea_
    subst ec_
    clear en_
    have hl : 0 ≤ (a : Int) := dt_
    have ht : a < (j.length : Int) := dt_
    obtain ⟨h3, iL, iZ, iM, i0, iF, ee, ef, dc, dd, eg, dy, eh, dz, gU, e7, gV, e8⟩ := at_U57 bw.1 a hl ht
    have fE := dz
    have fD := eh
    have fC := dy
    have fB := eg
    have dP := dd
    (try rw [← o.1] at dP)
    (try rw [← y.1] at dP)
    have dO := dc
    (try rw [← o.1] at dO)
    (try rw [← y.1] at dO)
    have fA := ef
    have fz := ee
    (try rw [← o.1] at dc)
    (try rw [← y.1] at dc)
    (try rw [← o.1] at dd)
    (try rw [← y.1] at dd)
    obtain rfl : b = h3 := (by injection iF)
    replace ee := bt_ HB ee
    replace ef := bt_ HB ef
    replace dc := bt_ HB dc
    replace dd := bt_ HB dd
    replace eg := bt_ HB eg
    replace dy := bt_ HB dy
    replace eh := bt_ HB eh
    replace dz := bt_ HB dz
    replace hl := eq_true hl
    replace ht := eq_true ht
    have ea_ := Option.some.inj (p.symm.trans dy)
    injection ea_ with ea_ en_ ec_
    subst ea_
    subst ec_
    clear en_
    have ea_ := Option.some.inj (q.symm.trans dz)
    injection ea_ with ea_ en_ ec_
    subst ea_
    subst ec_
    clear en_
    have hm : 0 ≤ (a : Int) := dt_
    have hu : a < (i.length : Int) := dt_
    obtain ⟨h4, iN, i1, iO, i2, iG, ei, ej, de, df, ek, dA, el, dB, gW, e9, gX, fa⟩ := at_U57 bx.1 a hm hu
    have fK := dB
    have fJ := el
    have fI := dA
    have fH := ek
    have dR := df
    (try rw [← o.1] at dR)
    (try rw [← y.1] at dR)
    have dQ := de
    (try rw [← o.1] at dQ)
    (try rw [← y.1] at dQ)
    have fG := ej
    have fF := ei
    (try rw [← o.1] at de)
    (try rw [← y.1] at de)
    (try rw [← o.1] at df)
    (try rw [← y.1] at df)
    obtain rfl : c = h4 := (by injection iG)
    replace ei := bt_ HB ei
    replace ej := bt_ HB ej
    replace de := bt_ HB de
    replace df := bt_ HB df
    replace ek := bt_ HB ek
    replace dA := bt_ HB dA
    replace el := bt_ HB el
    replace dB := bt_ HB dB
    replace hm := eq_true hm
    replace hu := eq_true hu
    have ea_ := Option.some.inj (s.symm.trans dA)
    injection ea_ with ea_ en_ ec_
    subst ea_
    subst ec_
    clear en_
    have ea_ := Option.some.inj (t.symm.trans dB)
    injection ea_ with ea_ en_ ec_
    subst ea_
    subst ec_
    clear en_
    as_aux_lemma =>
     refine start_ (n := 59) (S := fun w' => w'.cell? ⟨l, 0, none⟩ = some (.slice cL aI.length cN) ∧ w'.cell? ⟨l, 1, none⟩ = some (.slice cP ba.length cX) ∧ w'.cell? ⟨l, 2, none⟩ = some (.int .i64 a4) ∧ w'.cell? ⟨l, 3, none⟩ = some (.slice c8 ab.length cY) ∧ w'.cell? ⟨l, 4, none⟩ = some (.int .i64 bq) ∧ w'.cell? ⟨l, 5, none⟩ = some (.slice cQ bc.length cZ) ∧ w'.cell? ⟨l, 6, none⟩ = some (.int .i64 br) ∧ w'.cell? ⟨l, 7, none⟩ = some (.bool bs) ∧ w'.cell? ⟨l, 8, none⟩ = some (.int .i64 a5) ∧ w'.cell? ⟨l, 9, none⟩ = some (.int .i64 a6) ∧ w'.cell? ⟨l, 10, none⟩ = some (.slice cp u.length cl) ∧ w'.cell? ⟨l, 11, none⟩ = some (.slice (some b) j.length cm) ∧ w'.cell? ⟨l, 12, none⟩ = some (.int .i64 aj) ∧ w'.cell? ⟨l, 13, none⟩ = some (.int .i64 ak) ∧ w'.cell? ⟨l, 14, none⟩ = some (.int .i64 aC) ∧ w'.cell? ⟨m, 0, none⟩ = some (.slice cM aJ.length cO) ∧ w'.cell? ⟨m, 1, none⟩ = some (.slice cR bb.length c0) ∧ w'.cell? ⟨m, 2, none⟩ = some (.int .i64 a7) ∧ w'.cell? ⟨m, 3, none⟩ = some (.slice c9 ac.length c1) ∧ w'.cell? ⟨m, 4, none⟩ = some (.int .i64 bt) ∧ w'.cell? ⟨m, 5, none⟩ = some (.slice cS bd.length c2) ∧ w'.cell? ⟨m, 6, none⟩ = some (.int .i64 bu) ∧ w'.cell? ⟨m, 7, none⟩ = some (.bool bv) ∧ w'.cell? ⟨m, 8, none⟩ = some (.int .i64 a8) ∧ w'.cell? ⟨m, 9, none⟩ = some (.int .i64 a9) ∧ w'.cell? ⟨m, 10, none⟩ = some (.slice cq v.length cn) ∧ w'.cell? ⟨m, 11, none⟩ = some (.slice (some c) i.length co) ∧ w'.cell? ⟨m, 12, none⟩ = some (.int .i64 al) ∧ w'.cell? ⟨m, 13, none⟩ = some (.int .i64 am) ∧ w'.cell? ⟨m, 14, none⟩ = some (.int .i64 aD) ∧ w'.cell? (b.add ((a).toNat * 8)) = some (.int .i64 ((rd_T57 j a).f0)) ∧ w'.cell? ⟨(b.add ((a).toNat * 8)).block, (b.add ((a).toNat * 8)).off + 1, none⟩ = some (.int .i64 ((rd_T57 j a).f1)) ∧ w'.cell? ⟨(b.add ((a).toNat * 8)).block, (b.add ((a).toNat * 8)).off + 2, none⟩ = some (.bool true) ∧ w'.cell? ⟨(b.add ((a).toNat * 8)).block, (b.add ((a).toNat * 8)).off + 3, none⟩ = some (.bool ((rd_T57 j a).f3.f0.f0)) ∧ w'.cell? ⟨(b.add ((a).toNat * 8)).block, (b.add ((a).toNat * 8)).off + 4, none⟩ = some (.int .i64 ((rd_T57 j a).f3.f0.f1)) ∧ w'.cell? ⟨(b.add ((a).toNat * 8)).block, (b.add ((a).toNat * 8)).off + 5, none⟩ = some (.slice aK ((rd_T57 j a).f3.f0.f2).length aO) ∧ w'.cell? ⟨(b.add ((a).toNat * 8)).block, (b.add ((a).toNat * 8)).off + 6, none⟩ = some (.int .i64 ((rd_T57 j a).f3.f1)) ∧ w'.cell? ⟨(b.add ((a).toNat * 8)).block, (b.add ((a).toNat * 8)).off + 7, none⟩ = some (.slice aL ((rd_T57 j a).f3.f2).length aP) ∧ w'.cell? (c.add ((a).toNat * 8)) = some (.int .i64 ((rd_T57 i a).f0)) ∧ w'.cell? ⟨(c.add ((a).toNat * 8)).block, (c.add ((a).toNat * 8)).off + 1, none⟩ = some (.int .i64 ((rd_T57 i a).f1)) ∧ w'.cell? ⟨(c.add ((a).toNat * 8)).block, (c.add ((a).toNat * 8)).off + 2, none⟩ = some (.bool true) ∧ w'.cell? ⟨(c.add ((a).toNat * 8)).block, (c.add ((a).toNat * 8)).off + 3, none⟩ = some (.bool ((rd_T57 i a).f3.f0.f0)) ∧ w'.cell? ⟨(c.add ((a).toNat * 8)).block, (c.add ((a).toNat * 8)).off + 4, none⟩ = some (.int .i64 ((rd_T57 i a).f3.f0.f1)) ∧ w'.cell? ⟨(c.add ((a).toNat * 8)).block, (c.add ((a).toNat * 8)).off + 5, none⟩ = some (.slice aM ((rd_T57 i a).f3.f0.f2).length aQ) ∧ w'.cell? ⟨(c.add ((a).toNat * 8)).block, (c.add ((a).toNat * 8)).off + 6, none⟩ = some (.int .i64 ((rd_T57 i a).f3.f1)) ∧ w'.cell? ⟨(c.add ((a).toNat * 8)).block, (c.add ((a).toNat * 8)).off + 7, none⟩ = some (.slice aN ((rd_T57 i a).f3.f2).length aR) ∧ w'.cell? (b.add ((a).toNat * 8)) = some (.int .i64 ((rd_T57 j a).f0)) ∧ w'.cell? ⟨(b.add ((a).toNat * 8)).block, (b.add ((a).toNat * 8)).off + 1, none⟩ = some (.int .i64 ((rd_T57 j a).f1)) ∧ w'.cell? ⟨(b.add ((a).toNat * 8)).block, (b.add ((a).toNat * 8)).off + 2, none⟩ = some (.bool true) ∧ w'.cell? ⟨(b.add ((a).toNat * 8)).block, (b.add ((a).toNat * 8)).off + 3, none⟩ = some (.bool ((rd_T57 j a).f3.f0.f0)) ∧ w'.cell? ⟨(b.add ((a).toNat * 8)).block, (b.add ((a).toNat * 8)).off + 4, none⟩ = some (.int .i64 ((rd_T57 j a).f3.f0.f1)) ∧ w'.cell? ⟨(b.add ((a).toNat * 8)).block, (b.add ((a).toNat * 8)).off + 5, none⟩ = some (.slice aK ((rd_T57 j a).f3.f0.f2).length aO) ∧ w'.cell? ⟨(b.add ((a).toNat * 8)).block, (b.add ((a).toNat * 8)).off + 6, none⟩ = some (.int .i64 ((rd_T57 j a).f3.f1)) ∧ w'.cell? ⟨(b.add ((a).toNat * 8)).block, (b.add ((a).toNat * 8)).off + 7, none⟩ = some (.slice aL ((rd_T57 j a).f3.f2).length aP) ∧ w'.cell? (c.add ((a).toNat * 8)) = some (.int .i64 ((rd_T57 i a).f0)) ∧ w'.cell? ⟨(c.add ((a).toNat * 8)).block, (c.add ((a).toNat * 8)).off + 1, none⟩ = some (.int .i64 ((rd_T57 i a).f1)) ∧ w'.cell? ⟨(c.add ((a).toNat * 8)).block, (c.add ((a).toNat * 8)).off + 2, none⟩ = some (.bool true) ∧ w'.cell? ⟨(c.add ((a).toNat * 8)).block, (c.add ((a).toNat * 8)).off + 3, none⟩ = some (.bool ((rd_T57 i a).f3.f0.f0)) ∧ w'.cell? ⟨(c.add ((a).toNat * 8)).block, (c.add ((a).toNat * 8)).off + 4, none⟩ = some (.int .i64 ((rd_T57 i a).f3.f0.f1)) ∧ w'.cell? ⟨(c.add ((a).toNat * 8)).block, (c.add ((a).toNat * 8)).off + 5, none⟩ = some (.slice aM ((rd_T57 i a).f3.f0.f2).length aQ) ∧ w'.cell? ⟨(c.add ((a).toNat * 8)).block, (c.add ((a).toNat * 8)).off + 6, none⟩ = some (.int .i64 ((rd_T57 i a).f3.f1)) ∧ w'.cell? ⟨(c.add ((a).toNat * 8)).block, (c.add ((a).toNat * 8)).off + 7, none⟩ = some (.slice aN ((rd_T57 i a).f3.f2).length aR) ∧ w'.cell? (b.add ((a).toNat * 8)) = some (.int .i64 ((rd_T57 j a).f0)) ∧ w'.cell? ⟨(b.add ((a).toNat * 8)).block, (b.add ((a).toNat * 8)).off + 1, none⟩ = some (.int .i64 ((rd_T57 j a).f1)) ∧ w'.cell? ⟨(b.add ((a).toNat * 8)).block, (b.add ((a).toNat * 8)).off + 2, none⟩ = some (.bool true) ∧ w'.cell? ⟨(b.add ((a).toNat * 8)).block, (b.add ((a).toNat * 8)).off + 3, none⟩ = some (.bool ((rd_T57 j a).f3.f0.f0)) ∧ w'.cell? ⟨(b.add ((a).toNat * 8)).block, (b.add ((a).toNat * 8)).off + 4, none⟩ = some (.int .i64 ((rd_T57 j a).f3.f0.f1)) ∧ w'.cell? ⟨(b.add ((a).toNat * 8)).block, (b.add ((a).toNat * 8)).off + 5, none⟩ = some (.slice aK ((rd_T57 j a).f3.f0.f2).length aO) ∧ w'.cell? ⟨(b.add ((a).toNat * 8)).block, (b.add ((a).toNat * 8)).off + 6, none⟩ = some (.int .i64 ((rd_T57 j a).f3.f1)) ∧ w'.cell? ⟨(b.add ((a).toNat * 8)).block, (b.add ((a).toNat * 8)).off + 7, none⟩ = some (.slice aL ((rd_T57 j a).f3.f2).length aP) ∧ w'.cell? (c.add ((a).toNat * 8)) = some (.int .i64 ((rd_T57 i a).f0)) ∧ w'.cell? ⟨(c.add ((a).toNat * 8)).block, (c.add ((a).toNat * 8)).off + 1, none⟩ = some (.int .i64 ((rd_T57 i a).f1)) ∧ w'.cell? ⟨(c.add ((a).toNat * 8)).block, (c.add ((a).toNat * 8)).off + 2, none⟩ = some (.bool true) ∧ w'.cell? ⟨(c.add ((a).toNat * 8)).block, (c.add ((a).toNat * 8)).off + 3, none⟩ = some (.bool ((rd_T57 i a).f3.f0.f0)) ∧ w'.cell? ⟨(c.add ((a).toNat * 8)).block, (c.add ((a).toNat * 8)).off + 4, none⟩ = some (.int .i64 ((rd_T57 i a).f3.f0.f1)) ∧ w'.cell? ⟨(c.add ((a).toNat * 8)).block, (c.add ((a).toNat * 8)).off + 5, none⟩ = some (.slice aM ((rd_T57 i a).f3.f0.f2).length aQ) ∧ w'.cell? ⟨(c.add ((a).toNat * 8)).block, (c.add ((a).toNat * 8)).off + 6, none⟩ = some (.int .i64 ((rd_T57 i a).f3.f1)) ∧ w'.cell? ⟨(c.add ((a).toNat * 8)).block, (c.add ((a).toNat * 8)).off + 7, none⟩ = some (.slice aN ((rd_T57 i a).f3.f2).length aR) ∧ w'.cell? (b.add ((a).toNat * 8)) = some (.int .i64 ((rd_T57 j a).f0)) ∧ w'.cell? ⟨(b.add ((a).toNat * 8)).block, (b.add ((a).toNat * 8)).off + 1, none⟩ = some (.int .i64 ((rd_T57 j a).f1)) ∧ w'.cell? ⟨(b.add ((a).toNat * 8)).block, (b.add ((a).toNat * 8)).off + 2, none⟩ = some (.bool (true)) ∧ w'.cell? ⟨(b.add ((a).toNat * 8)).block, (b.add ((a).toNat * 8)).off + 3, none⟩ = some (.bool ((rd_T57 j a).f3.f0.f0)) ∧ w'.cell? ⟨(b.add ((a).toNat * 8)).block, (b.add ((a).toNat * 8)).off + 4, none⟩ = some (.int .i64 ((rd_T57 j a).f3.f0.f1)) ∧ w'.cell? ⟨(b.add ((a).toNat * 8)).block, (b.add ((a).toNat * 8)).off + 5, none⟩ = some (.slice aK ((rd_T57 j a).f3.f0.f2).length aO) ∧ w'.cell? ⟨(b.add ((a).toNat * 8)).block, (b.add ((a).toNat * 8)).off + 6, none⟩ = some (.int .i64 ((rd_T57 j a).f3.f1)) ∧ w'.cell? ⟨(b.add ((a).toNat * 8)).block, (b.add ((a).toNat * 8)).off + 7, none⟩ = some (.slice aL ((rd_T57 j a).f3.f2).length aP) ∧ w'.cell? (c.add ((a).toNat * 8)) = some (.int .i64 ((rd_T57 i a).f0)) ∧ w'.cell? ⟨(c.add ((a).toNat * 8)).block, (c.add ((a).toNat * 8)).off + 1, none⟩ = some (.int .i64 ((rd_T57 i a).f1)) ∧ w'.cell? ⟨(c.add ((a).toNat * 8)).block, (c.add ((a).toNat * 8)).off + 2, none⟩ = some (.bool (true)) ∧ w'.cell? ⟨(c.add ((a).toNat * 8)).block, (c.add ((a).toNat * 8)).off + 3, none⟩ = some (.bool ((rd_T57 i a).f3.f0.f0)) ∧ w'.cell? ⟨(c.add ((a).toNat * 8)).block, (c.add ((a).toNat * 8)).off + 4, none⟩ = some (.int .i64 ((rd_T57 i a).f3.f0.f1)) ∧ w'.cell? ⟨(c.add ((a).toNat * 8)).block, (c.add ((a).toNat * 8)).off + 5, none⟩ = some (.slice aM ((rd_T57 i a).f3.f0.f2).length aQ) ∧ w'.cell? ⟨(c.add ((a).toNat * 8)).block, (c.add ((a).toNat * 8)).off + 6, none⟩ = some (.int .i64 ((rd_T57 i a).f3.f1)) ∧ w'.cell? ⟨(c.add ((a).toNat * 8)).block, (c.add ((a).toNat * 8)).off + 7, none⟩ = some (.slice aN ((rd_T57 i a).f3.f2).length aR)) (ds := []) (tf_ 0 59) (by kernel_rfl) rfl rfl ⟨(blk_cell d.1 0).trans rfl, (blk_cell d.1 1).trans rfl, (blk_cell d.1 2).trans rfl, (blk_cell d.1 3).trans rfl, (blk_cell d.1 4).trans rfl, (blk_cell d.1 5).trans rfl, (blk_cell d.1 6).trans rfl, (blk_cell d.1 7).trans rfl, (blk_cell d.1 8).trans rfl, (blk_cell d.1 9).trans rfl, (blk_cell d.1 10).trans rfl, (blk_cell d.1 11).trans rfl, (blk_cell d.1 12).trans rfl, (blk_cell d.1 13).trans rfl, (blk_cell d.1 14).trans rfl, (blk_cell g.1 0).trans rfl, (blk_cell g.1 1).trans rfl, (blk_cell g.1 2).trans rfl, (blk_cell g.1 3).trans rfl, (blk_cell g.1 4).trans rfl, (blk_cell g.1 5).trans rfl, (blk_cell g.1 6).trans rfl, (blk_cell g.1 7).trans rfl, (blk_cell g.1 8).trans rfl, (blk_cell g.1 9).trans rfl, (blk_cell g.1 10).trans rfl, (blk_cell g.1 11).trans rfl, (blk_cell g.1 12).trans rfl, (blk_cell g.1 13).trans rfl, (blk_cell g.1 14).trans rfl, (bt_ HB bH), (bt_ HB bI), (bt_ HB aE), (bt_ HB aF), (bt_ HB bJ), (bt_ HB bK), (bt_ HB bL), (bt_ HB bM), (bt_ HB bN), (bt_ HB bO), (bt_ HB aG), (bt_ HB aH), (bt_ HB bP), (bt_ HB bQ), (bt_ HB bR), (bt_ HB bS), (bt_ HB b5), (bt_ HB b6), (bt_ HB aS), (bt_ HB aT), (bt_ HB b7), (bt_ HB b8), (bt_ HB b9), (bt_ HB ca), (bt_ HB cb), (bt_ HB cc), (bt_ HB aU), (bt_ HB aV), (bt_ HB cd), (bt_ HB ce), (bt_ HB cf), (bt_ HB cg), (bt_ HB cv), (bt_ HB cw), (bt_ HB bm), (bt_ HB bn), (bt_ HB cx), (bt_ HB cy), (bt_ HB cz), (bt_ HB cA), (bt_ HB cB), (bt_ HB cC), (bt_ HB bo), (bt_ HB bp), (bt_ HB cD), (bt_ HB cE), (bt_ HB cF), (bt_ HB cG), (bt_ HB fz), (bt_ HB fA), (bt_ HB dO), (bt_ HB dP), (bt_ HB fB), (bt_ HB fC), (bt_ HB fD), (bt_ HB fE), (bt_ HB fF), (bt_ HB fG), (bt_ HB dQ), (bt_ HB dR), (bt_ HB fH), (bt_ HB fI), (bt_ HB fJ), (bt_ HB fK)⟩ (fun hHeld => ?_); refine with_tabW spec_EqualWorlds.tab16 spec_EqualWorlds.bits16 (fun HT_ HW_ => ?_)
     generalize wr.drew = kN at d g HB bT bU bV bW cr cs ct cu cT cU cV cW e7 e8 e9 fa O P z A Q p R q T U B D V s W t ao ap E F aq X ar Y au av G I aw Z ax aa aW aX ae af aY ay aZ az a0 a1 ag ah a2 aA a3 aB ee ef dc dd eg dy eh dz ei ej de df ek dA el dB hHeld ⊢
     refine pu1_ 0 120 59 1 ?_
     refine pu1_ 2 122 59 5 ?_
     refine pu1_ 6 126 59 69 ?_
     refine pu1_ 8 128 59 325 ?_
     refine ta1_ 1 121 59 327 hHeld ?_
     refine pu1_ 3 123 59 335 ?_
     refine pu1_ 4 124 59 351 ?_
     refine ta1_ 5 125 59 383 hHeld ?_
     refine ta1_ 7 127 59 511 hHeld ?_
     refine pu1_ 9 129 59 1023 ?_
     refine pu1_ 10 130 59 2047 ?_
     refine ta1_ 11 131 59 4095 hHeld ?_
     refine pu1_ 12 132 59 8191 ?_
     refine pu1_ 13 133 59 16383 ?_
     refine pu1_ 14 134 59 32767 ?_
     refine pu1_ 16 136 59 98303 ?_
     refine pu1_ 20 140 59 1146879 ?_
     refine pu1_ 22 142 59 5341183 ?_
     refine ta1_ 15 135 59 5373951 hHeld ?_
     refine pu1_ 17 137 59 5505023 ?_
     refine pu1_ 18 138 59 5767167 ?_
     refine ta1_ 19 139 59 6291455 hHeld ?_
     refine ta1_ 21 141 59 8388607 hHeld ?_
     refine pu1_ 23 143 59 16777215 ?_
     refine pu1_ 24 144 59 33554431 ?_
     refine ta1_ 25 145 59 67108863 hHeld ?_
     refine pu1_ 26 146 59 134217727 ?_
     refine pu1_ 27 147 59 268435455 ?_
     refine pu1_ 28 148 59 536870911 ?_
     refine pu1_ 29 149 59 1073741823 ?_
     refine pu1_ 31 151 59 3221225471 ?_
     refine pu1_ 35 155 59 37580963839 ?_
     refine pu1_ 37 157 59 175019917311 ?_
     refine ta1_ 30 150 59 176093659135 hHeld ?_
     refine pu1_ 32 152 59 180388626431 ?_
     refine pu1_ 33 153 59 188978561023 ?_
     refine ta1_ 34 154 59 206158430207 hHeld ?_
     refine ta1_ 36 156 59 274877906943 hHeld ?_
     refine pu1_ 38 158 59 549755813887 ?_
     refine pu1_ 39 159 59 1099511627775 ?_
     refine ta1_ 40 160 59 2199023255551 hHeld ?_
     refine pu1_ 41 161 59 4398046511103 ?_
     refine pu1_ 42 162 59 8796093022207 ?_
     refine pu1_ 43 163 59 17592186044415 ?_
     refine pu1_ 44 164 59 35184372088831 ?_
     refine pu1_ 46 166 59 105553116266495 ?_
     refine pu1_ 50 170 59 1231453023109119 ?_
     refine pu1_ 52 172 59 5735052650479615 ?_
     refine ta1_ 45 165 59 5770237022568447 hHeld ?_
     refine pu1_ 47 167 59 5910974510923775 ?_
     refine pu1_ 48 168 59 6192449487634431 ?_
     refine ta1_ 49 169 59 6755399441055743 hHeld ?_
     refine ta1_ 51 171 59 9007199254740991 hHeld ?_
     refine pu1_ 53 173 59 18014398509481983 ?_
     refine pu1_ 54 174 59 36028797018963967 ?_
     refine ta1_ 55 175 59 72057594037927935 hHeld ?_
     refine on_ 56 (some 176) (tf_ 57 59) HT_ (fun K hK => ?_)
     refine goes_ Try.func18 (by kernel_rfl) rfl #[.agg #[.bool ((rd_T57 j a).f3.f0.f0), .int .i64 ((rd_T57 j a).f3.f0.f1), .slice aK ((rd_T57 j a).f3.f0.f2).length aO, .int .i64 ((rd_T57 j a).f3.f1), .slice aL ((rd_T57 j a).f3.f2).length aP], .agg #[.bool ((rd_T57 i a).f3.f0.f0), .int .i64 ((rd_T57 i a).f3.f0.f1), .slice aM ((rd_T57 i a).f3.f0.f2).length aQ, .int .i64 ((rd_T57 i a).f3.f1), .slice aN ((rd_T57 i a).f3.f2).length aR]] (by rfl) rfl rfl mp_ ?_
     with_reducible refine (spec_EqualDialed.calls k4 ((rd_T57 j a).f3.f0.f0) ((rd_T57 j a).f3.f0.f1) _ _ ((rd_T57 j a).f3.f0.f2) ((rd_T57 j a).f3.f1) _ _ ((rd_T57 j a).f3.f2) ((rd_T57 i a).f3.f0.f0) ((rd_T57 i a).f3.f0.f1) _ _ ((rd_T57 i a).f3.f0.f2) ((rd_T57 i a).f3.f1) _ _ ((rd_T57 i a).f3.f2) eK _ (cb_ e7 HB) gU.1 (cb_ e8 HB) gV.1 (cb_ e9 HB) gW.1 (cb_ fa HB) gX.1 jf.1).mono ?_
     rintro e kO ⟨rfl, hb⟩
     refine ⟨_, rfl, ?_⟩
     have _ := Q_ (bb_ d.1 hb)
     have _ := Q_ (bb_ g.1 hb)
     have _ := Q_ (below_step (pb2_ HB.1 ad.1 ai.1) hb)
     clear d g HB
     rename_i d g HB
     (try clear hb)
     refine hK.out _ _ ⟨(blk_cell d.1 0).trans rfl, (blk_cell d.1 1).trans rfl, (blk_cell d.1 2).trans rfl, (blk_cell d.1 3).trans rfl, (blk_cell d.1 4).trans rfl, (blk_cell d.1 5).trans rfl, (blk_cell d.1 6).trans rfl, (blk_cell d.1 7).trans rfl, (blk_cell d.1 8).trans rfl, (blk_cell d.1 9).trans rfl, (blk_cell d.1 10).trans rfl, (blk_cell d.1 11).trans rfl, (blk_cell d.1 12).trans rfl, (blk_cell d.1 13).trans rfl, (blk_cell d.1 14).trans rfl, (blk_cell g.1 0).trans rfl, (blk_cell g.1 1).trans rfl, (blk_cell g.1 2).trans rfl, (blk_cell g.1 3).trans rfl, (blk_cell g.1 4).trans rfl, (blk_cell g.1 5).trans rfl, (blk_cell g.1 6).trans rfl, (blk_cell g.1 7).trans rfl, (blk_cell g.1 8).trans rfl, (blk_cell g.1 9).trans rfl, (blk_cell g.1 10).trans rfl, (blk_cell g.1 11).trans rfl, (blk_cell g.1 12).trans rfl, (blk_cell g.1 13).trans rfl, (blk_cell g.1 14).trans rfl, (bt_ HB bH), (bt_ HB bI), (bt_ HB aE), (bt_ HB aF), (bt_ HB bJ), (bt_ HB bK), (bt_ HB bL), (bt_ HB bM), (bt_ HB bN), (bt_ HB bO), (bt_ HB aG), (bt_ HB aH), (bt_ HB bP), (bt_ HB bQ), (bt_ HB bR), (bt_ HB bS), (bt_ HB b5), (bt_ HB b6), (bt_ HB aS), (bt_ HB aT), (bt_ HB b7), (bt_ HB b8), (bt_ HB b9), (bt_ HB ca), (bt_ HB cb), (bt_ HB cc), (bt_ HB aU), (bt_ HB aV), (bt_ HB cd), (bt_ HB ce), (bt_ HB cf), (bt_ HB cg), (bt_ HB cv), (bt_ HB cw), (bt_ HB bm), (bt_ HB bn), (bt_ HB cx), (bt_ HB cy), (bt_ HB cz), (bt_ HB cA), (bt_ HB cB), (bt_ HB cC), (bt_ HB bo), (bt_ HB bp), (bt_ HB cD), (bt_ HB cE), (bt_ HB cF), (bt_ HB cG), (bt_ HB fz), (bt_ HB fA), (bt_ HB dO), (bt_ HB dP), (bt_ HB fB), (bt_ HB fC), (bt_ HB fD), (bt_ HB fE), (bt_ HB fF), (bt_ HB fG), (bt_ HB dQ), (bt_ HB dR), (bt_ HB fH), (bt_ HB fI), (bt_ HB fJ), (bt_ HB fK)⟩ (fun hHeld => ?_)
     clear hK K
     refine no_ (some 176) ?_
     refine pu1_ 57 177 59 288230376151711743 ?_
     refine pu1_ 58 178 59 576460752303423487 ?_
     refine done_ (done_of HT_.1 (by kernel_rfl)) ?_
     go_upto_if 178 with (fail)
     have H := HS_.1
     clear HS_
     by_cases hJ : eK = true
     rotate_left
     ·replace hJ := bf_ hJ
      subst hJ
      rw [if_neg ff_] at H
      obtain rfl := Option.some.inj H
      go_wp2
      go_ret
      exact ⟨er_, pb2_ HB.1 ad.1 ai.1⟩
     subst hJ
     rw [if_pos rfl] at H
     have H' := Q_ H
     clear H
     go_wp2
     go_roundg k4
     case measure => have := eV.1; have := eW.1; have := gF.1; have := hx.1; omega
     case rel => (try rw [← o.1]); (try rw [← y.1]); exact ⟨(wrap64 (a + 1)), el_, H', ⟨by have := eV.1; have := eW.1; have := gF.1; have := hx.1; omega⟩, ⟨pk_ d.1⟩, ⟨pk_ g.1⟩, ⟨pb2_ HB.1 ad.1 ai.1⟩⟩
   rw [if_pos gH] at H
   have ir := decide_eq_true gH
   clear gH
   by_cases hL : 0 ≤ L
   rotate_left
   ·rw [if_neg hL] at H
    exact nn_ H
   rw [if_pos hL] at H
   have jk := decide_eq_true hL
   clear hL
   by_cases hM : L < (v.length : Int)
   rotate_left
   ·rw [if_neg hM] at H
    exact nn_ H
   rw [if_pos hM] at H
   have jl := decide_eq_true hM
   clear hM
   obtain ⟨hR, iy, H⟩ := bs_ H
   (try dsimp only at H)
   have HS_ := Q_ H
   clear H
   have i9 := J.1
   have jb := M.1
   have i7 := bc15_ d.1
   try go_wp2
   have _ := Q_ (blk_drew d.1)
   have _ := Q_ (blk_drew g.1)
   have _ := Q_ (below_drew1 HB.1)
   clear d g HB
   rename_i d g HB
   have hj : 0 ≤ (L : Int) := dt_
   have hr : L < (u.length : Int) := dt_
   obtain ⟨da, gi, gx, gj, gy, iD, d4, d5, d6, d7, d8, gQ, e3, gR, e4⟩ := at_U55 hy.1 L hj hr
   have ft := d8
   have fs := d7
   have fr := d6
   have fq := d5
   have fp := d4
   cases iD
   replace d4 := bt_ HB d4
   replace d5 := bt_ HB d5
   replace d6 := bt_ HB d6
   replace d7 := bt_ HB d7
   replace d8 := bt_ HB d8
   replace hj := eq_true hj
   replace hr := eq_true hr
   have hk : 0 ≤ (L : Int) := dt_
   have hs : L < (v.length : Int) := dt_
   obtain ⟨db, gl, gz, gm, gA, iE, d9, ea, eb, ec, ed, gS, e5, gT, e6⟩ := at_U55 hz.1 L hk hs
   have fy := ed
   have fx := ec
   have fw := eb
   have fv := ea
   have fu := d9
   cases iE
   replace d9 := bt_ HB d9
   replace ea := bt_ HB ea
   replace eb := bt_ HB eb
   replace ec := bt_ HB ec
   replace ed := bt_ HB ed
   replace hk := eq_true hk
   replace hs := eq_true hs
   as_aux_lemma =>
    refine start_ (n := 12) (S := fun w' => w'.cell? ⟨l, 0, none⟩ = some (.slice cL aI.length cN) ∧ w'.cell? ⟨l, 1, none⟩ = some (.slice cP ba.length cX) ∧ w'.cell? ⟨l, 2, none⟩ = some (.int .i64 a4) ∧ w'.cell? ⟨l, 3, none⟩ = some (.slice c8 ab.length cY) ∧ w'.cell? ⟨l, 4, none⟩ = some (.int .i64 bq) ∧ w'.cell? ⟨l, 5, none⟩ = some (.slice cQ bc.length cZ) ∧ w'.cell? ⟨l, 6, none⟩ = some (.int .i64 br) ∧ w'.cell? ⟨l, 7, none⟩ = some (.bool bs) ∧ w'.cell? ⟨l, 8, none⟩ = some (.int .i64 a5) ∧ w'.cell? ⟨l, 9, none⟩ = some (.int .i64 a6) ∧ w'.cell? ⟨l, 10, none⟩ = some (.slice (some da) u.length cl) ∧ w'.cell? ⟨l, 11, none⟩ = some (.slice dk j.length cm) ∧ w'.cell? ⟨l, 12, none⟩ = some (.int .i64 aj) ∧ w'.cell? ⟨l, 13, none⟩ = some (.int .i64 ak) ∧ w'.cell? ⟨l, 14, none⟩ = some (.int .i64 aC) ∧ w'.cell? ⟨m, 0, none⟩ = some (.slice cM aJ.length cO) ∧ w'.cell? ⟨m, 1, none⟩ = some (.slice cR bb.length c0) ∧ w'.cell? ⟨m, 2, none⟩ = some (.int .i64 a7) ∧ w'.cell? ⟨m, 3, none⟩ = some (.slice c9 ac.length c1) ∧ w'.cell? ⟨m, 4, none⟩ = some (.int .i64 bt) ∧ w'.cell? ⟨m, 5, none⟩ = some (.slice cS bd.length c2) ∧ w'.cell? ⟨m, 6, none⟩ = some (.int .i64 bu) ∧ w'.cell? ⟨m, 7, none⟩ = some (.bool bv) ∧ w'.cell? ⟨m, 8, none⟩ = some (.int .i64 a8) ∧ w'.cell? ⟨m, 9, none⟩ = some (.int .i64 a9) ∧ w'.cell? ⟨m, 10, none⟩ = some (.slice (some db) v.length cn) ∧ w'.cell? ⟨m, 11, none⟩ = some (.slice dl i.length co) ∧ w'.cell? ⟨m, 12, none⟩ = some (.int .i64 al) ∧ w'.cell? ⟨m, 13, none⟩ = some (.int .i64 am) ∧ w'.cell? ⟨m, 14, none⟩ = some (.int .i64 aD) ∧ w'.cell? (da.add ((L).toNat * 5)) = some (.bool ((rd_T55 u L).f0.f0)) ∧ w'.cell? ⟨(da.add ((L).toNat * 5)).block, (da.add ((L).toNat * 5)).off + 1, none⟩ = some (.int .i64 ((rd_T55 u L).f0.f1)) ∧ w'.cell? ⟨(da.add ((L).toNat * 5)).block, (da.add ((L).toNat * 5)).off + 2, none⟩ = some (.slice gi ((rd_T55 u L).f0.f2).length gx) ∧ w'.cell? ⟨(da.add ((L).toNat * 5)).block, (da.add ((L).toNat * 5)).off + 3, none⟩ = some (.int .i64 ((rd_T55 u L).f1)) ∧ w'.cell? ⟨(da.add ((L).toNat * 5)).block, (da.add ((L).toNat * 5)).off + 4, none⟩ = some (.slice gj ((rd_T55 u L).f2).length gy) ∧ w'.cell? (db.add ((L).toNat * 5)) = some (.bool ((rd_T55 v L).f0.f0)) ∧ w'.cell? ⟨(db.add ((L).toNat * 5)).block, (db.add ((L).toNat * 5)).off + 1, none⟩ = some (.int .i64 ((rd_T55 v L).f0.f1)) ∧ w'.cell? ⟨(db.add ((L).toNat * 5)).block, (db.add ((L).toNat * 5)).off + 2, none⟩ = some (.slice gl ((rd_T55 v L).f0.f2).length gz) ∧ w'.cell? ⟨(db.add ((L).toNat * 5)).block, (db.add ((L).toNat * 5)).off + 3, none⟩ = some (.int .i64 ((rd_T55 v L).f1)) ∧ w'.cell? ⟨(db.add ((L).toNat * 5)).block, (db.add ((L).toNat * 5)).off + 4, none⟩ = some (.slice gm ((rd_T55 v L).f2).length gA)) (ds := []) (tf_ 0 12) (by kernel_rfl) rfl rfl ⟨(blk_cell d.1 0).trans rfl, (blk_cell d.1 1).trans rfl, (blk_cell d.1 2).trans rfl, (blk_cell d.1 3).trans rfl, (blk_cell d.1 4).trans rfl, (blk_cell d.1 5).trans rfl, (blk_cell d.1 6).trans rfl, (blk_cell d.1 7).trans rfl, (blk_cell d.1 8).trans rfl, (blk_cell d.1 9).trans rfl, (blk_cell d.1 10).trans rfl, (blk_cell d.1 11).trans rfl, (blk_cell d.1 12).trans rfl, (blk_cell d.1 13).trans rfl, (blk_cell d.1 14).trans rfl, (blk_cell g.1 0).trans rfl, (blk_cell g.1 1).trans rfl, (blk_cell g.1 2).trans rfl, (blk_cell g.1 3).trans rfl, (blk_cell g.1 4).trans rfl, (blk_cell g.1 5).trans rfl, (blk_cell g.1 6).trans rfl, (blk_cell g.1 7).trans rfl, (blk_cell g.1 8).trans rfl, (blk_cell g.1 9).trans rfl, (blk_cell g.1 10).trans rfl, (blk_cell g.1 11).trans rfl, (blk_cell g.1 12).trans rfl, (blk_cell g.1 13).trans rfl, (blk_cell g.1 14).trans rfl, (bt_ HB fp), (bt_ HB fq), (bt_ HB fr), (bt_ HB fs), (bt_ HB ft), (bt_ HB fu), (bt_ HB fv), (bt_ HB fw), (bt_ HB fx), (bt_ HB fy)⟩ (fun hHeld => ?_); refine with_tabW spec_EqualWorlds.tab11 spec_EqualWorlds.bits11 (fun HT_ HW_ => ?_)
    generalize wr.drew = kz at d g HB e3 e4 e5 e6 d4 d5 d6 d7 d8 d9 ea eb ec ed hHeld ⊢
    refine pu1_ 0 101 12 1 ?_
    refine pu1_ 2 103 12 5 ?_
    refine pu1_ 5 106 12 37 ?_
    refine pu1_ 7 108 12 165 ?_
    refine ta1_ 1 102 12 167 hHeld ?_
    refine pu1_ 3 104 12 175 ?_
    refine ta1_ 4 105 12 191 hHeld ?_
    refine ta1_ 6 107 12 255 hHeld ?_
    refine pu1_ 8 109 12 511 ?_
    refine ta1_ 9 110 12 1023 hHeld ?_
    refine on_ 10 (some 111) (tf_ 11 12) HT_ (fun K hK => ?_)
    refine goes_ Try.func18 (by kernel_rfl) rfl #[.agg #[.bool ((rd_T55 u L).f0.f0), .int .i64 ((rd_T55 u L).f0.f1), .slice gi ((rd_T55 u L).f0.f2).length gx, .int .i64 ((rd_T55 u L).f1), .slice gj ((rd_T55 u L).f2).length gy], .agg #[.bool ((rd_T55 v L).f0.f0), .int .i64 ((rd_T55 v L).f0.f1), .slice gl ((rd_T55 v L).f0.f2).length gz, .int .i64 ((rd_T55 v L).f1), .slice gm ((rd_T55 v L).f2).length gA]] (by rfl) rfl rfl mp_ ?_
    with_reducible refine (spec_EqualDialed.calls k3 ((rd_T55 u L).f0.f0) ((rd_T55 u L).f0.f1) _ _ ((rd_T55 u L).f0.f2) ((rd_T55 u L).f1) _ _ ((rd_T55 u L).f2) ((rd_T55 v L).f0.f0) ((rd_T55 v L).f0.f1) _ _ ((rd_T55 v L).f0.f2) ((rd_T55 v L).f1) _ _ ((rd_T55 v L).f2) hR _ (cb_ e3 HB) gQ.1 (cb_ e4 HB) gR.1 (cb_ e5 HB) gS.1 (cb_ e6 HB) gT.1 iy.1).mono ?_
    rintro e kA ⟨rfl, hb⟩
    refine ⟨_, rfl, ?_⟩
    have _ := Q_ (bb_ d.1 hb)
    have _ := Q_ (bb_ g.1 hb)
    have _ := Q_ (below_step (pb2_ HB.1 ad.1 ai.1) hb)
    clear d g HB
    rename_i d g HB
    (try clear hb)
    refine hK.out _ _ ⟨(blk_cell d.1 0).trans rfl, (blk_cell d.1 1).trans rfl, (blk_cell d.1 2).trans rfl, (blk_cell d.1 3).trans rfl, (blk_cell d.1 4).trans rfl, (blk_cell d.1 5).trans rfl, (blk_cell d.1 6).trans rfl, (blk_cell d.1 7).trans rfl, (blk_cell d.1 8).trans rfl, (blk_cell d.1 9).trans rfl, (blk_cell d.1 10).trans rfl, (blk_cell d.1 11).trans rfl, (blk_cell d.1 12).trans rfl, (blk_cell d.1 13).trans rfl, (blk_cell d.1 14).trans rfl, (blk_cell g.1 0).trans rfl, (blk_cell g.1 1).trans rfl, (blk_cell g.1 2).trans rfl, (blk_cell g.1 3).trans rfl, (blk_cell g.1 4).trans rfl, (blk_cell g.1 5).trans rfl, (blk_cell g.1 6).trans rfl, (blk_cell g.1 7).trans rfl, (blk_cell g.1 8).trans rfl, (blk_cell g.1 9).trans rfl, (blk_cell g.1 10).trans rfl, (blk_cell g.1 11).trans rfl, (blk_cell g.1 12).trans rfl, (blk_cell g.1 13).trans rfl, (blk_cell g.1 14).trans rfl, (bt_ HB fp), (bt_ HB fq), (bt_ HB fr), (bt_ HB fs), (bt_ HB ft), (bt_ HB fu), (bt_ HB fv), (bt_ HB fw), (bt_ HB fx), (bt_ HB fy)⟩ (fun hHeld => ?_)
    clear hK K
    refine no_ (some 111) ?_
    refine pu1_ 11 112 12 4095 ?_
    refine done_ (done_of HT_.1 (by kernel_rfl)) ?_
    go_upto_if 112 with (fail)
    have H := HS_.1
    clear HS_
    by_cases gn : hR = true
    rotate_left
    ·replace gn := bf_ gn
     subst gn
     rw [if_neg ff_] at H
     obtain rfl := Option.some.inj H
     go_wp2
     go_ret
     exact ⟨er_, pb2_ HB.1 ad.1 ai.1⟩
    subst gn
    rw [if_pos rfl] at H
    have H' := Q_ H
    clear H
    go_wp2
    go_roundg k3
    case measure => have := eV.1; have := eW.1; have := gF.1; omega
    case rel => exact ⟨(wrap64 (L + 1)), el_, H', ⟨by have := eV.1; have := eW.1; have := gF.1; omega⟩, ⟨pk_ d.1⟩, ⟨pk_ g.1⟩, ⟨pb2_ HB.1 ad.1 ai.1⟩⟩
  rw [if_pos gG] at H
  have iq := decide_eq_true gG
  clear gG
  by_cases go : 0 ≤ an
  rotate_left
  ·rw [if_neg go] at H
   exact nn_ H
  rw [if_pos go] at H
  have iX := decide_eq_true go
  clear go
  by_cases gp : an < (ac.length : Int)
  rotate_left
  ·rw [if_neg gp] at H
   exact nn_ H
  rw [if_pos gp] at H
  have iY := decide_eq_true gp
  clear gp
  obtain ⟨hQ, iz, H⟩ := bs_ H
  (try dsimp only at H)
  have HS_ := Q_ H
  clear H
  have ja := J.1
  have jc := M.1
  have i8 := bc15_ d.1
  try go_wp2
  have _ := Q_ (blk_drew d.1)
  have _ := Q_ (blk_drew g.1)
  have _ := Q_ (below_drew1 HB.1)
  clear d g HB
  rename_i d g HB
  have hh : 0 ≤ (an : Int) := dt_
  have hp : an < (ab.length : Int) := dt_
  obtain ⟨du, gc, gr, gd, gs, ge, gt, iB, dW, dX, dY, dZ, gK, eX, gL, eY, gM, eZ⟩ := at_U50 hZ.1 an hh hp
  have fk := dZ
  have fj := dY
  have fi := dX
  have fh := dW
  cases iB
  replace dW := bt_ HB dW
  replace dX := bt_ HB dX
  replace dY := bt_ HB dY
  replace dZ := bt_ HB dZ
  replace hh := eq_true hh
  replace hp := eq_true hp
  have hi : 0 ≤ (an : Int) := dt_
  have hq : an < (ac.length : Int) := dt_
  obtain ⟨dv, gf, gu, gg, gv, gh, gw, iC, d0, d1, d2, d3, gN, e0, gO, e1, gP, e2⟩ := at_U50 h1.1 an hi hq
  have fo := d3
  have fn := d2
  have fm := d1
  have fl := d0
  cases iC
  replace d0 := bt_ HB d0
  replace d1 := bt_ HB d1
  replace d2 := bt_ HB d2
  replace d3 := bt_ HB d3
  replace hi := eq_true hi
  replace hq := eq_true hq
  as_aux_lemma =>
   refine start_ (n := 12) (S := fun w' => w'.cell? ⟨l, 0, none⟩ = some (.slice cL aI.length cN) ∧ w'.cell? ⟨l, 1, none⟩ = some (.slice cP ba.length cX) ∧ w'.cell? ⟨l, 2, none⟩ = some (.int .i64 a4) ∧ w'.cell? ⟨l, 3, none⟩ = some (.slice (some du) ab.length cY) ∧ w'.cell? ⟨l, 4, none⟩ = some (.int .i64 bq) ∧ w'.cell? ⟨l, 5, none⟩ = some (.slice cQ bc.length cZ) ∧ w'.cell? ⟨l, 6, none⟩ = some (.int .i64 br) ∧ w'.cell? ⟨l, 7, none⟩ = some (.bool bs) ∧ w'.cell? ⟨l, 8, none⟩ = some (.int .i64 a5) ∧ w'.cell? ⟨l, 9, none⟩ = some (.int .i64 a6) ∧ w'.cell? ⟨l, 10, none⟩ = some (.slice cp u.length cl) ∧ w'.cell? ⟨l, 11, none⟩ = some (.slice dk j.length cm) ∧ w'.cell? ⟨l, 12, none⟩ = some (.int .i64 aj) ∧ w'.cell? ⟨l, 13, none⟩ = some (.int .i64 ak) ∧ w'.cell? ⟨l, 14, none⟩ = some (.int .i64 aC) ∧ w'.cell? ⟨m, 0, none⟩ = some (.slice cM aJ.length cO) ∧ w'.cell? ⟨m, 1, none⟩ = some (.slice cR bb.length c0) ∧ w'.cell? ⟨m, 2, none⟩ = some (.int .i64 a7) ∧ w'.cell? ⟨m, 3, none⟩ = some (.slice (some dv) ac.length c1) ∧ w'.cell? ⟨m, 4, none⟩ = some (.int .i64 bt) ∧ w'.cell? ⟨m, 5, none⟩ = some (.slice cS bd.length c2) ∧ w'.cell? ⟨m, 6, none⟩ = some (.int .i64 bu) ∧ w'.cell? ⟨m, 7, none⟩ = some (.bool bv) ∧ w'.cell? ⟨m, 8, none⟩ = some (.int .i64 a8) ∧ w'.cell? ⟨m, 9, none⟩ = some (.int .i64 a9) ∧ w'.cell? ⟨m, 10, none⟩ = some (.slice cq v.length cn) ∧ w'.cell? ⟨m, 11, none⟩ = some (.slice dl i.length co) ∧ w'.cell? ⟨m, 12, none⟩ = some (.int .i64 al) ∧ w'.cell? ⟨m, 13, none⟩ = some (.int .i64 am) ∧ w'.cell? ⟨m, 14, none⟩ = some (.int .i64 aD) ∧ w'.cell? (du.add ((an).toNat * 4)) = some (.slice gc ((rd_T50 ab an).f0).length gr) ∧ w'.cell? ⟨(du.add ((an).toNat * 4)).block, (du.add ((an).toNat * 4)).off + 1, none⟩ = some (.slice gd ((rd_T50 ab an).f1).length gs) ∧ w'.cell? ⟨(du.add ((an).toNat * 4)).block, (du.add ((an).toNat * 4)).off + 2, none⟩ = some (.slice ge ((rd_T50 ab an).f2).length gt) ∧ w'.cell? ⟨(du.add ((an).toNat * 4)).block, (du.add ((an).toNat * 4)).off + 3, none⟩ = some (.int .i64 ((rd_T50 ab an).f3)) ∧ w'.cell? (dv.add ((an).toNat * 4)) = some (.slice gf ((rd_T50 ac an).f0).length gu) ∧ w'.cell? ⟨(dv.add ((an).toNat * 4)).block, (dv.add ((an).toNat * 4)).off + 1, none⟩ = some (.slice gg ((rd_T50 ac an).f1).length gv) ∧ w'.cell? ⟨(dv.add ((an).toNat * 4)).block, (dv.add ((an).toNat * 4)).off + 2, none⟩ = some (.slice gh ((rd_T50 ac an).f2).length gw) ∧ w'.cell? ⟨(dv.add ((an).toNat * 4)).block, (dv.add ((an).toNat * 4)).off + 3, none⟩ = some (.int .i64 ((rd_T50 ac an).f3))) (ds := []) (tf_ 0 12) (by kernel_rfl) rfl rfl ⟨(blk_cell d.1 0).trans rfl, (blk_cell d.1 1).trans rfl, (blk_cell d.1 2).trans rfl, (blk_cell d.1 3).trans rfl, (blk_cell d.1 4).trans rfl, (blk_cell d.1 5).trans rfl, (blk_cell d.1 6).trans rfl, (blk_cell d.1 7).trans rfl, (blk_cell d.1 8).trans rfl, (blk_cell d.1 9).trans rfl, (blk_cell d.1 10).trans rfl, (blk_cell d.1 11).trans rfl, (blk_cell d.1 12).trans rfl, (blk_cell d.1 13).trans rfl, (blk_cell d.1 14).trans rfl, (blk_cell g.1 0).trans rfl, (blk_cell g.1 1).trans rfl, (blk_cell g.1 2).trans rfl, (blk_cell g.1 3).trans rfl, (blk_cell g.1 4).trans rfl, (blk_cell g.1 5).trans rfl, (blk_cell g.1 6).trans rfl, (blk_cell g.1 7).trans rfl, (blk_cell g.1 8).trans rfl, (blk_cell g.1 9).trans rfl, (blk_cell g.1 10).trans rfl, (blk_cell g.1 11).trans rfl, (blk_cell g.1 12).trans rfl, (blk_cell g.1 13).trans rfl, (blk_cell g.1 14).trans rfl, (bt_ HB fh), (bt_ HB fi), (bt_ HB fj), (bt_ HB fk), (bt_ HB fl), (bt_ HB fm), (bt_ HB fn), (bt_ HB fo)⟩ (fun hHeld => ?_); refine with_tabW spec_EqualWorlds.tab6 spec_EqualWorlds.bits6 (fun HT_ HW_ => ?_)
   generalize wr.drew = kB at d g HB eX eY eZ e0 e1 e2 dW dX dY dZ d0 d1 d2 d3 hHeld ⊢
   refine pu1_ 0 82 12 1 ?_
   refine pu1_ 2 84 12 5 ?_
   refine pu1_ 5 87 12 37 ?_
   refine pu1_ 7 89 12 165 ?_
   refine ta1_ 1 83 12 167 hHeld ?_
   refine pu1_ 3 85 12 175 ?_
   refine ta1_ 4 86 12 191 hHeld ?_
   refine ta1_ 6 88 12 255 hHeld ?_
   refine pu1_ 8 90 12 511 ?_
   refine ta1_ 9 91 12 1023 hHeld ?_
   refine on_ 10 (some 92) (tf_ 11 12) HT_ (fun K hK => ?_)
   refine goes_ Try.func17 (by kernel_rfl) rfl #[.agg #[.slice gc ((rd_T50 ab an).f0).length gr, .slice gd ((rd_T50 ab an).f1).length gs, .slice ge ((rd_T50 ab an).f2).length gt, .int .i64 ((rd_T50 ab an).f3)], .agg #[.slice gf ((rd_T50 ac an).f0).length gu, .slice gg ((rd_T50 ac an).f1).length gv, .slice gh ((rd_T50 ac an).f2).length gw, .int .i64 ((rd_T50 ac an).f3)]] (by rfl) rfl rfl mp_ ?_
   with_reducible refine (spec_EqualEndpoints.calls k2 _ _ ((rd_T50 ab an).f0) _ _ ((rd_T50 ab an).f1) _ _ ((rd_T50 ab an).f2) ((rd_T50 ab an).f3) _ _ ((rd_T50 ac an).f0) _ _ ((rd_T50 ac an).f1) _ _ ((rd_T50 ac an).f2) ((rd_T50 ac an).f3) hQ _ (cb_ eX HB) gK.1 (cb_ eY HB) gL.1 (cb_ eZ HB) gM.1 (cb_ e0 HB) gN.1 (cb_ e1 HB) gO.1 (cb_ e2 HB) gP.1 iz.1).mono ?_
   rintro e kC ⟨rfl, hb⟩
   refine ⟨_, rfl, ?_⟩
   have _ := Q_ (bb_ d.1 hb)
   have _ := Q_ (bb_ g.1 hb)
   have _ := Q_ (below_step (pb2_ HB.1 ad.1 ai.1) hb)
   clear d g HB
   rename_i d g HB
   (try clear hb)
   refine hK.out _ _ ⟨(blk_cell d.1 0).trans rfl, (blk_cell d.1 1).trans rfl, (blk_cell d.1 2).trans rfl, (blk_cell d.1 3).trans rfl, (blk_cell d.1 4).trans rfl, (blk_cell d.1 5).trans rfl, (blk_cell d.1 6).trans rfl, (blk_cell d.1 7).trans rfl, (blk_cell d.1 8).trans rfl, (blk_cell d.1 9).trans rfl, (blk_cell d.1 10).trans rfl, (blk_cell d.1 11).trans rfl, (blk_cell d.1 12).trans rfl, (blk_cell d.1 13).trans rfl, (blk_cell d.1 14).trans rfl, (blk_cell g.1 0).trans rfl, (blk_cell g.1 1).trans rfl, (blk_cell g.1 2).trans rfl, (blk_cell g.1 3).trans rfl, (blk_cell g.1 4).trans rfl, (blk_cell g.1 5).trans rfl, (blk_cell g.1 6).trans rfl, (blk_cell g.1 7).trans rfl, (blk_cell g.1 8).trans rfl, (blk_cell g.1 9).trans rfl, (blk_cell g.1 10).trans rfl, (blk_cell g.1 11).trans rfl, (blk_cell g.1 12).trans rfl, (blk_cell g.1 13).trans rfl, (blk_cell g.1 14).trans rfl, (bt_ HB fh), (bt_ HB fi), (bt_ HB fj), (bt_ HB fk), (bt_ HB fl), (bt_ HB fm), (bt_ HB fn), (bt_ HB fo)⟩ (fun hHeld => ?_)
   clear hK K
   refine no_ (some 92) ?_
   refine pu1_ 11 93 12 4095 ?_
   refine done_ (done_of HT_.1 (by kernel_rfl)) ?_
   go_upto_if 93 with (fail)
   have H := HS_.1
   clear HS_
   by_cases gq : hQ = true
   rotate_left
   ·replace gq := bf_ gq
    subst gq
    rw [if_neg ff_] at H
    obtain rfl := Option.some.inj H
    go_wp2
    go_ret
    exact ⟨er_, pb2_ HB.1 ad.1 ai.1⟩
   subst gq
   rw [if_pos rfl] at H
   have H' := Q_ H
   clear H
   go_wp2
   go_roundg k2
   case measure => have := eV.1; have := eW.1; omega
   case rel => exact ⟨(wrap64 (an + 1)), el_, H', ⟨by have := eV.1; have := eW.1; omega⟩, ⟨pk_ d.1⟩, ⟨pk_ g.1⟩, ⟨pb2_ HB.1 ad.1 ai.1⟩⟩
 subst hA
 rw [if_pos rfl] at H
 obtain rfl := Option.some.inj H
 go_wp2
 go_ret
 exact ⟨er_, pb2_ HB.1 ad.1 ai.1⟩

end Go.Proofs.Ytchnkakjjbfklaa.Print
