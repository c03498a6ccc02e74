/- AreVersions, of the program. Condition: at most 10 to the 12 numbers. -/
import Derived.Test.YtdoefkloanpliaaVersions
import Derived.Test.YtdoefkloanpliaaLim3
import Derived.Test.YtdoefkloanpliaaPrint2
set_option linter.unusedSimpArgs false
set_option linter.unusedVariables false
namespace Go.Proofs.Ytdoefkloanpliaa.Plain
open Go.RowKit Go.Proofs.YtdoefkloanpliaaW.PrintWords Go.Proofs.Ytdoefkloanpliaa.Base Go.Proofs.Ytdoefkloanpliaa.Print

theorem implVers_l0 (suf : List Int) : ∀ pre : List Int, (pre ++ suf).length ≤ 1000000000000 →
    impl_AreVersions.l0v (pre ++ suf) (pre ++ suf) ((pre ++ suf).length : Int) (pre.length : Int) = some (vers (pre.getLastD 0) suf && decide (0 < (pre ++ suf).length)) := by
  induction suf with
  | nil =>
    intro pre hl
    rw [impl_AreVersions.l0v_eq, if_neg (nlt_end pre)]
    by_cases h : 0 < pre.length <;> simp [vers, h]
  | cons x suf ih =>
    intro pre hl
    have hn : pre.length < (pre ++ x :: suf).length := by simp
    rw [impl_AreVersions.l0v_eq, if_pos (lt_mid pre suf x), if_pos (by omega), if_pos (lt_mid pre suf x), rd_mid, inRange_f]
    simp only [Option.bind_some, vers]
    cases hx : inR 1 9 x with
    | false => simp
    | true =>
      rw [if_pos rfl, up_mid pre x hn hl]
      have h1 := ih (pre ++ [x]) (by simpa using hl)
      rw [← mid_snoc pre suf x] at h1
      rw [h1]
      have hr := inR_true.mp hx
      by_cases hp : pre = []
      · subst hp
        rw [if_neg (by simp)]
        have h0 : (0 : Int) < x := by omega
        simp [h0]
      · have hpl : 0 < pre.length := List.length_pos_iff.mpr hp
        rw [if_pos (by omega), w64 (x := (pre.length : Int) - 1) (by omega) (by omega), if_pos (by omega), if_pos (by omega), rd_lastD pre _ hp]
        by_cases hlt : pre.getLastD 0 < x
        · rw [if_neg (by omega)]
          generalize pre.getLastD 0 = q at hlt
          simp [hlt]
        · rw [if_pos (by omega)]
          generalize pre.getLastD 0 = q at hlt
          simp [hlt]
theorem implVers_v (l : List Int) (hl : l.length ≤ 1000000000000) : impl_AreVersions.fv l = some (areV l) := by
  rw [impl_AreVersions.fv_eq]
  simpa [areV] using implVers_l0 l [] (by simpa using hl)
end Go.Proofs.Ytdoefkloanpliaa.Plain
