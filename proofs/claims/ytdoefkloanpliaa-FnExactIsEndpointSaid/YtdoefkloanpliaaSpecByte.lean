/- Lists of bytes, of the reference. Condition: at most 10 to the 12 numbers. -/
import Derived.Test.YtdoefkloanpliaaRange
import Derived.Test.YtdoefkloanpliaaLim3
set_option linter.unusedSimpArgs false
set_option linter.unusedVariables false
namespace Go.Proofs.Ytdoefkloanpliaa.Plain
open Go.RowKit Go.Proofs.YtdoefkloanpliaaW.PrintWords Go.Proofs.Ytdoefkloanpliaa.Base Go.Proofs.Ytdoefkloanpliaa.Print

theorem specByte_l0 (suf : List Int) : ∀ (pre : List Int), (pre ++ suf).length ≤ 1000000000000 → spec_l9Byte.l0v (pre ++ suf) (pre.length : Int) = some (suf.all (inR 0 255)) := by
  induction suf with
  | nil =>
    intro pre _
    rw [spec_l9Byte.l0v_eq, if_neg (nlt_end pre)]
    rfl
  | cons x suf ih =>
    intro pre hl
    have hn : pre.length < (pre ++ x :: suf).length := by simp
    rw [spec_l9Byte.l0v_eq, if_pos (lt_mid pre suf x), if_pos (by omega), rd_mid, l1In_f, up_mid pre x hn hl]
    simp only [Option.bind_some, List.all_cons]
    cases inR 0 255 x with
    | false => simp
    | true =>
      rw [if_pos rfl]
      rw [mid_snoc pre suf x] at hl ⊢
      rw [ih (pre ++ [x]) hl, Bool.true_and]
theorem specByte_v (l : List Int) (hl : l.length ≤ 1000000000000) : spec_l9Byte.fv l = some (l.all (inR 0 255)) := by
  rw [spec_l9Byte.fv_eq]
  simpa using specByte_l0 l [] (by simpa using hl)
end Go.Proofs.Ytdoefkloanpliaa.Plain
