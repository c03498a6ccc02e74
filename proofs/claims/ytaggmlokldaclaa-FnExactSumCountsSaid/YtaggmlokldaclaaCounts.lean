/- AreCounts, of the program and of the reference. Condition: the slice has at most 10 to the 12 numbers. -/
import Derived.Test.YtaggmlokldaclaaRange
import Derived.Test.YtaggmlokldaclaaLim1
set_option linter.unusedSimpArgs false
set_option linter.unusedVariables false
namespace Go.Proofs.Ytaggmlokldaclaa.Plain
open Go.RowKit Go.Proofs.YtaggmlokldaclaaW.PrintWords Go.Proofs.Ytaggmlokldaclaa.Base Go.Proofs.Ytaggmlokldaclaa.Print

def areC (l : List Int) : Bool := decide (l.length ≤ 10) && l.all (inR 0 10000)

theorem specAreCounts_l0 (suf : List Int) : ∀ (pre : List Int), (pre ++ suf).length ≤ 1000000000000 →
    spec_AreCounts.l0v (pre ++ suf) (pre.length : Int) = some (decide ((pre ++ suf).length ≤ 10) && suf.all (inR 0 10000)) := by
  induction suf with
  | nil =>
    intro pre _
    rw [spec_AreCounts.l0v_eq, if_neg (nlt_end pre)]
    simp
    omega
  | cons x suf ih =>
    intro pre hl
    have hn : pre.length < (pre ++ x :: suf).length := by simp
    rw [spec_AreCounts.l0v_eq, if_pos (lt_mid pre suf x), if_pos (by omega), rd_mid, l1In_f]
    simp only [Option.bind_some]
    cases hx : inR 0 10000 x with
    | false => simp [hx]
    | true =>
      rw [if_pos rfl, up_mid pre x hn hl]
      rw [mid_snoc pre suf x] at hl ⊢
      rw [ih (pre ++ [x]) hl]
      simp [hx]

theorem specAreCounts_v (l : List Int) (hl : l.length ≤ 1000000000000) : spec_AreCounts.fv l = some (areC l) := by
  rw [spec_AreCounts.fv_eq]
  have h := specAreCounts_l0 l [] (by simpa using hl)
  simpa [areC] using h

theorem implAreCounts_v (l : List Int) (hl : l.length ≤ 1000000000000) : impl_AreCounts.fv l = some (areC l) := by
  rw [impl_AreCounts.fv_eq, areNumbers_v l 0 10000 hl]
  by_cases h : l.length ≤ 10
  · rw [if_pos (by omega)]
    simp [areC, h]
  · rw [if_neg (by omega)]
    simp [areC, h]
end Go.Proofs.Ytaggmlokldaclaa.Plain
