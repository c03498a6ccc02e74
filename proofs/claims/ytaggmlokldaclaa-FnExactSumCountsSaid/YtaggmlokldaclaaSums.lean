/- Sums that wrap at 64 bits. No condition. -/
import Derived.Test.YtaggmlokldaclaaPlain
set_option linter.unusedSimpArgs false
set_option linter.unusedVariables false
namespace Go.Proofs.Ytaggmlokldaclaa.Plain
open Go.RowKit Go.Proofs.YtaggmlokldaclaaW.PrintWords

theorem wrap_add (x y : Int) : wrap64 (wrap64 x + y) = wrap64 (x + y) := by
  unfold wrap64
  omega
theorem wrap_add' (x y : Int) : wrap64 (x + wrap64 y) = wrap64 (x + y) := by
  unfold wrap64
  omega
theorem wrap_sub (x y : Int) : wrap64 (wrap64 x - y) = wrap64 (x - y) := by
  unfold wrap64
  omega
theorem wrap_sub' (x y : Int) : wrap64 (x - wrap64 y) = wrap64 (x - y) := by
  unfold wrap64
  omega
theorem wrap_wrap (x : Int) : wrap64 (wrap64 x) = wrap64 x := by
  unfold wrap64
  omega
theorem wrap_le (x : Int) : wrap64 x ≤ 9223372036854775807 := by
  unfold wrap64
  omega
theorem le_wrap (x : Int) : -9223372036854775808 ≤ wrap64 x := by
  unfold wrap64
  omega
/-- What is in the range stays itself, counted up along a list, wrapping. -/
def sumW (s : Int) : List Int → Int
  | [] => s
  | x :: l => sumW (wrap64 (s + x)) l
theorem sumW_wrap (l : List Int) : ∀ s, wrap64 s = s → sumW s l = wrap64 (s + l.sum) := by
  induction l with
  | nil =>
    intro s hs
    simp [sumW, hs]
  | cons x l ih =>
    intro s _
    rw [sumW, ih _ (wrap_wrap _), wrap_add, List.sum_cons, Int.add_assoc]
theorem sumW_0 (l : List Int) : sumW 0 l = wrap64 l.sum := by
  rw [sumW_wrap l 0 (w64 (by decide) (by decide)), Int.zero_add]
end Go.Proofs.Ytaggmlokldaclaa.Plain
