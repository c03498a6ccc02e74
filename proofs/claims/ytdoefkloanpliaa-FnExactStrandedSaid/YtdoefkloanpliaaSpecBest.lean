/- CommonOf and BestCommon, of the reference. Condition: at most 10 to the 12 numbers each. -/
import Derived.Test.YtdoefkloanpliaaSpecVers
import Derived.Test.YtdoefkloanpliaaSpecHas
import Derived.Test.YtdoefkloanpliaaLim2
set_option linter.unusedSimpArgs false
set_option linter.unusedVariables false
namespace Go.Proofs.Ytdoefkloanpliaa.Plain
open Go.RowKit Go.Proofs.YtdoefkloanpliaaW.PrintWords Go.Proofs.Ytdoefkloanpliaa.Base Go.Proofs.Ytdoefkloanpliaa.Print

theorem specCom_l0 (b : List Int) (hb : b.length ≤ 1000000000000) (suf : List Int) : ∀ (pre out : List Int), (pre ++ suf).length ≤ 1000000000000 → out.length ≤ pre.length →
    spec_CommonOf.l0v (pre ++ suf) b out (pre.length : Int) = some (out ++ com suf b) := by
  induction suf with
  | nil =>
    intro pre out _ _
    rw [spec_CommonOf.l0v_eq, if_neg (nlt_end pre)]
    simp [com]
  | cons x suf ih =>
    intro pre out hl ho
    have hn : pre.length < (pre ++ x :: suf).length := by simp
    have hp : pre.length < 1000000000000 := by omega
    rw [spec_CommonOf.l0v_eq, if_pos (lt_mid pre suf x), if_pos (by omega), rd_mid, l9Has_v b x hb, up_mid pre x hn hl]
    simp only [Option.bind_some]
    rw [mid_snoc pre suf x] at hl ⊢
    cases hx : mem b x with
    | true =>
      rw [if_pos rfl, if_pos (by omega), ih (pre ++ [x]) (out ++ [x]) hl (by simp; omega)]
      simp [com, hx]
    | false =>
      rw [if_neg (by simp), ih (pre ++ [x]) out hl (by simp; omega)]
      simp [com, hx]
theorem specCom_v (a b : List Int) (ha : a.length ≤ 1000000000000) (hb : b.length ≤ 1000000000000) : spec_CommonOf.fv a b = some (com a b) := by
  rw [spec_CommonOf.fv_eq]
  simpa using specCom_l0 b hb a [] [] (by simpa using ha) (by simp)
theorem specBest_v (a b : List Int) (ha : a.length ≤ 1000000000000) (hb : b.length ≤ 1000000000000) : spec_BestCommon.fv a b = some (best a b) := by
  rw [spec_BestCommon.fv_eq, specCom_v a b ha hb, specVers_v a ha, specVers_v b hb]
  simp only [Option.bind_some, best]
  cases areV a with
  | false => simp
  | true =>
    cases areV b with
    | false => simp
    | true =>
      have hc := com_len a b
      simp only [if_true, Bool.and_self]
      by_cases h : (com a b).length = 0
      · have h' : com a b = [] := List.length_eq_zero_iff.mp h
        simp [h']
      · have hp : com a b ≠ [] := fun e => h (by rw [e]; rfl)
        rw [if_neg (by omega), w64 (by omega) (by omega), if_pos (by omega), if_pos (by omega)]
        have := rd_lastD (com a b) [] hp
        rw [List.append_nil] at this
        rw [this]
end Go.Proofs.Ytdoefkloanpliaa.Plain
