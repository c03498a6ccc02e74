/- ShareOf, of the program and of the reference. Condition: the slice has at most 10 to the 12 numbers. -/
import Derived.Test.YtaggmlokldaclaaCounts
import Derived.Test.YtaggmlokldaclaaSums
import Derived.Test.YtaggmlokldaclaaLim2
import Derived.Test.YtaggmlokldaclaaLim3
set_option linter.unusedSimpArgs false
set_option linter.unusedVariables false
namespace Go.Proofs.Ytaggmlokldaclaa.Plain
open Go.RowKit Go.Proofs.YtaggmlokldaclaaW.PrintWords Go.Proofs.Ytaggmlokldaclaa.Base Go.Proofs.Ytaggmlokldaclaa.Print

theorem implSumOf_l0 (suf : List Int) : ∀ (pre : List Int) (s : Int), (pre ++ suf).length ≤ 1000000000000 → impl_sumOf.l0v s (pre ++ suf) ((pre ++ suf).length : Int) (pre.length : Int) = some (sumW s suf) := by
  induction suf with
  | nil =>
    intro pre s _
    rw [impl_sumOf.l0v_eq, if_neg (nlt_end pre)]
    rfl
  | cons x suf ih =>
    intro pre s hl
    have hn : pre.length < (pre ++ x :: suf).length := by simp
    rw [impl_sumOf.l0v_eq, if_pos (lt_mid pre suf x), if_pos (by omega), if_pos (lt_mid pre suf x), rd_mid, up_mid pre x hn hl]
    rw [mid_snoc pre suf x] at hl ⊢
    exact ih (pre ++ [x]) _ hl
theorem implSumOf_v (l : List Int) (hl : l.length ≤ 1000000000000) : impl_sumOf.fv l = some (sumW 0 l) := by
  rw [impl_sumOf.fv_eq]
  exact implSumOf_l0 l [] 0 (by simpa using hl)
theorem specShareOf_l0 (a : Int) (suf : List Int) : ∀ (pre : List Int) (s : Int), (pre ++ suf).length ≤ 1000000000000 → 0 ≤ a → a < ((pre ++ suf).length : Int) → spec_ShareOf.l0v (pre ++ suf) a s (pre.length : Int) = some (rd (pre ++ suf) a, sumW s suf) := by
  induction suf with
  | nil =>
    intro pre s _ h0 h1
    rw [spec_ShareOf.l0v_eq, if_neg (nlt_end pre), if_pos h0, if_pos h1]
    rfl
  | cons x suf ih =>
    intro pre s hl h0 h1
    have hn : pre.length < (pre ++ x :: suf).length := by simp
    rw [spec_ShareOf.l0v_eq, if_pos (lt_mid pre suf x), if_pos (by omega), rd_mid, up_mid pre x hn hl]
    rw [mid_snoc pre suf x] at hl h1 ⊢
    exact ih (pre ++ [x]) _ hl h0 h1
/-- The share of a number and the sum of all. -/
def shareOf (l : List Int) (a : Int) : Int × Int := if areC l && inR 0 ((l.length : Int) - 1) a then (rd l a, sumW 0 l) else (0, 0)
theorem specShareOf_v (l : List Int) (a : Int) (hl : l.length ≤ 1000000000000) : spec_ShareOf.fv l a = some (shareOf l a) := by
  rw [spec_ShareOf.fv_eq, specAreCounts_v l hl, w64 (by omega) (by omega), l1In_f]
  simp only [Option.bind_some, spec_ShareOf.j0v_eq, shareOf]
  cases areC l with
  | false => simp
  | true =>
    cases h : inR 0 ((l.length : Int) - 1) a with
    | false => simp
    | true =>
      obtain ⟨h0, h1⟩ := inR_true.mp h
      simpa using specShareOf_l0 a l [] 0 (by simpa using hl) h0 (by simp; omega)
theorem implShareOf_v (l : List Int) (a : Int) (hl : l.length ≤ 1000000000000) : impl_ShareOf.fv l a = some (shareOf l a) := by
  rw [impl_ShareOf.fv_eq, implAreCounts_v l hl, w64 (by omega) (by omega), inRange_f, implSumOf_v l hl]
  simp only [Option.bind_some, shareOf]
  cases areC l with
  | false => simp
  | true =>
    cases h : inR 0 ((l.length : Int) - 1) a with
    | false => simp
    | true =>
      obtain ⟨h0, h1⟩ := inR_true.mp h
      rw [if_pos rfl, if_pos rfl, if_pos h0, if_pos (by omega)]
      simp
end Go.Proofs.Ytaggmlokldaclaa.Plain
