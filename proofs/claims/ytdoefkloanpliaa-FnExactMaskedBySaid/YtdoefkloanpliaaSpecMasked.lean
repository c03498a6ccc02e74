/- MaskedBy, of the reference. Condition: at most 10 to the 12 of each. -/
import Derived.Test.YtdoefkloanpliaaMasked
import Derived.Test.YtdoefkloanpliaaDeals
import Derived.Test.YtdoefkloanpliaaSpecHas
import Derived.Test.YtdoefkloanpliaaLim9
set_option linter.unusedSimpArgs false
set_option linter.unusedVariables false
namespace Go.Proofs.Ytdoefkloanpliaa.Plain
open Go.RowKit Go.Proofs.YtdoefkloanpliaaW.PrintWords Go.Proofs.Ytdoefkloanpliaa.Base Go.Proofs.Ytdoefkloanpliaa.Print

theorem specMasked_l0 (v : Int) (suf : List S97) : ∀ (pre : List S97) (g b : Int), (pre ++ suf).length ≤ 1000000000000 → (∀ x ∈ suf, okD x) →
    spec_MaskedBy.l0v (pre ++ suf) v g b (pre.length : Int) = some (masks v g b suf) := by
  induction suf with
  | nil =>
    intro pre g b _ _
    rw [spec_MaskedBy.l0v_eq, if_neg (nlt_end pre)]
    rfl
  | cons x suf ih =>
    intro pre g b hl hs
    have hn : pre.length < (pre ++ x :: suf).length := by simp
    have hx := hs x List.mem_cons_self
    have hs' : ∀ y ∈ suf, okD y := fun y hy => hs y (List.mem_cons_of_mem _ hy)
    rw [spec_MaskedBy.l0v_eq, if_pos (lt_mid pre suf x), if_pos (by omega), rdDial_mid, l9Has_v _ _ hx.2]
    simp only [spec_MaskedBy.j1v_eq, Option.bind_some, masks]
    rw [up_mid pre x hn hl]
    rw [mid_snoc pre suf x] at hl ⊢
    rw [ih (pre ++ [x]) g (wrap64 (b + 1)) hl hs', ih (pre ++ [x]) (wrap64 (g + 1)) b hl hs', ih (pre ++ [x]) g b hl hs']
    simp only [badD]
    by_cases h1 : x.f0.f1 < v <;> by_cases h2 : x.f0.f1 ≥ v <;> rcases Bool.eq_false_or_eq_true x.f0.f0 with h3 | h3 <;> rcases Bool.eq_false_or_eq_true (mem x.f2 v) with h4 | h4 <;> simp [h1, h2, h3, h4]
theorem specMasked_v (l : List S97) (v : Int) (hl : l.length ≤ 1000000000000) (hs : ∀ x ∈ l, okD x) : spec_MaskedBy.fv l v = some (masks v 0 0 l) := by
  rw [spec_MaskedBy.fv_eq]
  simpa using specMasked_l0 v l [] 0 0 (by simpa using hl) hs
end Go.Proofs.Ytdoefkloanpliaa.Plain
