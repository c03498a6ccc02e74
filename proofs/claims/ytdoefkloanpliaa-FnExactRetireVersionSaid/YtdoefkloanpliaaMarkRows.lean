/- The marks that a law writes into slices of slices of whole numbers. Condition: at most 10 to the 12 of each, and the first mark is small. -/
import Derived.Test.YtdoefkloanpliaaMarks
import Derived.Test.YtdoefkloanpliaaIntRows
import Derived.Test.YtdoefkloanpliaaLim4
set_option linter.unusedSimpArgs false
set_option linter.unusedVariables false
namespace Go.Proofs.Ytdoefkloanpliaa.Plain
open Go.RowKit Go.Proofs.YtdoefkloanpliaaW.PrintWords Go.Proofs.Ytdoefkloanpliaa.Base Go.Proofs.Ytdoefkloanpliaa.Print

/-- How many numbers there are in all. -/
def total : List (List Int) → Nat
  | [] => 0
  | x :: l => x.length + total l
theorem total_sizes (l : List (List Int)) : ∀ n : Int, 0 ≤ sizes List.length l n → (total l : Int) ≤ n := by
  induction l with
  | nil =>
    intro n h
    simp only [sizes] at h
    simp only [total]
    omega
  | cons x l ih =>
    intro n h
    simp only [sizes] at h
    by_cases hc : n < (x.length : Int)
    · rw [if_pos hc] at h
      omega
    · rw [if_neg hc] at h
      have := ih _ h
      simp only [total]
      omega
theorem total_le (l : List (List Int)) (n : Int) (h : 0 ≤ sizeOf1 List.length l n) : (total l : Int) ≤ n := by
  unfold sizeOf1 at h
  by_cases hc : n < (l.length : Int)
  · rw [if_pos hc] at h
    omega
  · rw [if_neg hc] at h
    have := total_sizes l _ h
    omega
theorem markIntSS_l0 (suf : List (List Int)) : ∀ (pre : List (List Int)) (a : Int), (pre ++ suf).length ≤ 1000000000000 → (∀ x ∈ suf, x.length ≤ 1000000000000) → 0 ≤ a → a + total suf ≤ 3000000000000000000 →
    laws_markIntSS.l0v (pre ++ suf) a (pre.length : Int) = some (a + total suf) := by
  induction suf with
  | nil =>
    intro pre a _ _ _ _
    rw [laws_markIntSS.l0v_eq, if_neg (nlt_end pre)]
    simp [total]
  | cons x suf ih =>
    intro pre a hl hs h0 ha
    have hn : pre.length < (pre ++ x :: suf).length := by simp
    simp only [total, Int.natCast_add] at ha
    rw [laws_markIntSS.l0v_eq, if_pos (lt_mid pre suf x), if_pos (by omega), rdL1_mid, markIntS_v x a (hs x List.mem_cons_self) h0 (by omega), up_mid pre x hn hl]
    simp only [Option.bind_some]
    rw [set_mid]
    have h1 := ih (pre ++ [marks a x.length]) (a + x.length) (by simpa using hl) (fun y hy => hs y (List.mem_cons_of_mem _ hy)) (by omega) (by omega)
    simp only [List.length_append, List.length_cons, List.length_nil] at h1 ⊢
    rw [h1]
    simp only [total, Int.natCast_add, Int.add_assoc]
theorem markIntSS_v (l : List (List Int)) (a : Int) (hl : l.length ≤ 1000000000000) (hs : ∀ x ∈ l, x.length ≤ 1000000000000) (h0 : 0 ≤ a) (ha : a + total l ≤ 3000000000000000000) : laws_markIntSS.fv l a = some (a + total l) := by
  rw [laws_markIntSS.fv_eq]
  simpa using markIntSS_l0 l [] a (by simpa using hl) hs h0 ha
end Go.Proofs.Ytdoefkloanpliaa.Plain
