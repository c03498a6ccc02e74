/- The marks that a law writes into a result and looks for again. Condition: at most 10 to the 12 numbers, and the first mark is small. -/
import Derived.Test.YtdoefkloanpliaaPlain
import Derived.Test.YtdoefkloanpliaaLim4
set_option linter.unusedSimpArgs false
set_option linter.unusedVariables false
namespace Go.Proofs.Ytdoefkloanpliaa.Plain
open Go.RowKit Go.Proofs.YtdoefkloanpliaaW.PrintWords Go.Proofs.Ytdoefkloanpliaa.Base Go.Proofs.Ytdoefkloanpliaa.Print

/-- The marks of so many places. -/
def marks (a : Int) : Nat → List Int
  | 0 => []
  | n + 1 => a :: marks (a + 1) n
theorem marks_len (n : Nat) : ∀ a, (marks a n).length = n := by
  induction n with
  | zero =>
    intro a
    rfl
  | succ n ih =>
    intro a
    simp [marks, ih]
theorem markIntS_l0 (suf : List Int) : ∀ (pre : List Int) (a : Int), (pre ++ suf).length ≤ 1000000000000 → 0 ≤ a → a + suf.length ≤ 4000000000000000000 →
    laws_markIntS.l0v (pre ++ suf) a (pre.length : Int) = some (a + suf.length, pre ++ marks a suf.length) := by
  induction suf with
  | nil =>
    intro pre a _ _ _
    rw [laws_markIntS.l0v_eq, if_neg (nlt_end pre)]
    simp [marks]
  | cons x suf ih =>
    intro pre a hl h0 ha
    have hn : pre.length < (pre ++ x :: suf).length := by simp
    simp only [List.length_cons, Int.natCast_succ] at ha
    rw [laws_markIntS.l0v_eq, if_pos (lt_mid pre suf x), if_pos (by omega), set_mid, up_mid pre x hn hl, w64 (by omega) (by omega)]
    rw [mid_snoc pre suf x] at hl
    have h1 := ih (pre ++ [a]) (a + 1) (by simpa using hl) (by omega) (by omega)
    simp only [List.length_append, List.length_cons, List.length_nil] at h1 ⊢
    rw [h1]
    simp [marks]
    omega
theorem heldIntS_l0 (n : Nat) : ∀ (pre : List Int) (a : Int), pre.length + n ≤ 1000000000000 → 0 ≤ a → a + n ≤ 4000000000000000000 →
    laws_heldIntS.l0v (pre ++ marks a n) a (pre.length : Int) = some (a + n) := by
  induction n with
  | zero =>
    intro pre a _ _ _
    rw [marks, laws_heldIntS.l0v_eq, if_neg (nlt_end pre)]
    simp
  | succ n ih =>
    intro pre a hl h0 ha
    have hl' : (pre ++ a :: marks (a + 1) n).length ≤ 1000000000000 := by
      simp only [List.length_append, List.length_cons, marks_len]
      omega
    have hn : pre.length < (pre ++ a :: marks (a + 1) n).length := by simp
    rw [marks, laws_heldIntS.l0v_eq, if_pos (lt_mid pre (marks (a + 1) n) a), if_pos (by omega), rd_mid, if_pos rfl, up_mid pre a hn hl', w64 (by omega) (by omega), mid_snoc pre (marks (a + 1) n) a]
    have h1 := ih (pre ++ [a]) (a + 1) (by simp; omega) (by omega) (by omega)
    rw [h1]
    congr 1
    omega
theorem markIntS_v (l : List Int) (a : Int) (hl : l.length ≤ 1000000000000) (h0 : 0 ≤ a) (ha : a ≤ 3000000000000000000) : laws_markIntS.fv l a = some (a + l.length, marks a l.length) := by
  rw [laws_markIntS.fv_eq]
  exact markIntS_l0 l [] a (by simpa using hl) h0 (by omega)
theorem heldIntS_v (n : Nat) (a : Int) (hl : n ≤ 1000000000000) (h0 : 0 ≤ a) (ha : a ≤ 3000000000000000000) : laws_heldIntS.fv (marks a n) a = some (a + n) := by
  rw [laws_heldIntS.fv_eq]
  exact heldIntS_l0 n [] a (by simpa using hl) h0 (by omega)
end Go.Proofs.Ytdoefkloanpliaa.Plain
