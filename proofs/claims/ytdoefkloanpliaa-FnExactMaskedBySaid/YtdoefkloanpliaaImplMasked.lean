/- MaskedBy, of the program. Condition: at most 10 to the 12 of each. -/
import Derived.Test.YtdoefkloanpliaaMasked
import Derived.Test.YtdoefkloanpliaaDeals
import Derived.Test.YtdoefkloanpliaaSlHas
import Derived.Test.YtdoefkloanpliaaLim10
set_option linter.unusedSimpArgs false
set_option linter.unusedVariables false
namespace Go.Proofs.Ytdoefkloanpliaa.Plain
open Go.RowKit Go.Proofs.YtdoefkloanpliaaW.PrintWords Go.Proofs.Ytdoefkloanpliaa.Base Go.Proofs.Ytdoefkloanpliaa.Print

theorem implBad_v (v : Int) (d : S97) (h : okD d) : impl_isBad.fv d.f0.f0 d.f0.f1 d.f0.f2 d.f1 d.f2 v = some (badD v d) := by
  rw [impl_isBad.fv_eq, slHas_v _ _ h.2]
  simp only [Option.bind_some, badD]
  generalize mem d.f2 v = x
  by_cases h1 : d.f0.f1 < v <;> cases d.f0.f0 <;> simp [h1]
theorem implMasked_l0 (v : Int) (suf : List S97) : ∀ (pre : List S97) (g b : Int), (pre ++ suf).length ≤ 1000000000000 → (∀ x ∈ suf, okD x) →
    impl_MaskedBy.l0v v g b (pre ++ suf) ((pre ++ suf).length : Int) (pre.length : Int) = some (masks v g b suf) := by
  induction suf with
  | nil =>
    intro pre g b _ _
    rw [impl_MaskedBy.l0v_eq, if_neg (nlt_end pre)]
    rfl
  | cons x suf ih =>
    intro pre g b hl hs
    have hn : pre.length < (pre ++ x :: suf).length := by simp
    rw [impl_MaskedBy.l0v_eq, if_pos (lt_mid pre suf x), if_pos (by omega), if_pos (lt_mid pre suf x), rdDial_mid, implBad_v v x (hs x List.mem_cons_self), up_mid pre x hn hl]
    simp only [Option.bind_some, masks]
    rw [mid_snoc pre suf x] at hl ⊢
    have hs' : ∀ y ∈ suf, okD y := fun y hy => hs y (List.mem_cons_of_mem _ hy)
    by_cases h1 : badD v x = true
    · rw [if_pos h1, if_pos h1]
      exact ih (pre ++ [x]) _ _ hl hs'
    · rw [if_neg h1, if_neg h1]
      by_cases h2 : x.f0.f1 ≥ v
      · rw [if_pos h2, if_pos h2]
        exact ih (pre ++ [x]) _ _ hl hs'
      · rw [if_neg h2, if_neg h2]
        exact ih (pre ++ [x]) _ _ hl hs'
theorem implMasked_v (l : List S97) (v : Int) (hl : l.length ≤ 1000000000000) (hs : ∀ x ∈ l, okD x) : impl_MaskedBy.fv l v = some (masks v 0 0 l) := by
  rw [impl_MaskedBy.fv_eq]
  simpa using implMasked_l0 v l [] 0 0 (by simpa using hl) hs
end Go.Proofs.Ytdoefkloanpliaa.Plain
