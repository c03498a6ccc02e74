/- CommonOf, BestCommon and without, of the program. Condition: at most 10 to the 12 numbers each. -/
import Derived.Test.YtdoefkloanpliaaImplVers
import Derived.Test.YtdoefkloanpliaaSlHas
import Derived.Test.YtdoefkloanpliaaLim3
set_option linter.unusedSimpArgs false
set_option linter.unusedVariables false
namespace Go.Proofs.Ytdoefkloanpliaa.Plain
open Go.RowKit Go.Proofs.YtdoefkloanpliaaW.PrintWords Go.Proofs.Ytdoefkloanpliaa.Base Go.Proofs.Ytdoefkloanpliaa.Print

theorem implCom_l0 (b : List Int) (hb : b.length ≤ 1000000000000) (suf : List Int) : ∀ (pre out : List Int), (pre ++ suf).length ≤ 1000000000000 → out.length ≤ pre.length →
    impl_CommonOf.l0v b out (pre ++ suf) ((pre ++ suf).length : Int) (pre.length : Int) = some (out ++ com suf b) := by
  induction suf with
  | nil =>
    intro pre out _ _
    rw [impl_CommonOf.l0v_eq, if_neg (nlt_end pre)]
    simp [com]
  | cons x suf ih =>
    intro pre out hl ho
    have hn : pre.length < (pre ++ x :: suf).length := by simp
    have hp : pre.length < 1000000000000 := by omega
    rw [impl_CommonOf.l0v_eq, if_pos (lt_mid pre suf x), if_pos (by omega), if_pos (lt_mid pre suf x), rd_mid, slHas_v b x hb, up_mid pre x hn hl]
    simp only [Option.bind_some]
    rw [mid_snoc pre suf x] at hl ⊢
    cases hx : mem b x with
    | true =>
      rw [if_pos rfl, if_pos (by omega), ih (pre ++ [x]) (out ++ [x]) hl (by simp; omega)]
      simp [com, hx]
    | false =>
      rw [if_neg (by simp), ih (pre ++ [x]) out hl (by simp; omega)]
      simp [com, hx]
theorem implCom_v (a b : List Int) (ha : a.length ≤ 1000000000000) (hb : b.length ≤ 1000000000000) : impl_CommonOf.fv a b = some (com a b) := by
  rw [impl_CommonOf.fv_eq]
  simpa using implCom_l0 b hb a [] [] (by simpa using ha) (by simp)
theorem implMax_l0 (suf : List Int) : ∀ (pre : List Int) (m : Int), (pre ++ suf).length ≤ 1000000000000 → vers m suf = true →
    impl_BestCommon.l0v m (pre ++ suf) ((pre ++ suf).length : Int) (pre.length : Int) = some (suf.getLastD m) := by
  induction suf with
  | nil =>
    intro pre m _ _
    rw [impl_BestCommon.l0v_eq, if_neg (nlt_end pre)]
    simp
  | cons x suf ih =>
    intro pre m hl hv
    have hn : pre.length < (pre ++ x :: suf).length := by simp
    have hp : pre.length < 1000000000000 := by omega
    simp only [vers, Bool.and_eq_true, decide_eq_true_eq] at hv
    have hm : mx m x = x := by
      unfold mx
      split <;> omega
    rw [impl_BestCommon.l0v_eq, if_pos (lt_mid pre suf x), if_pos (by omega), if_pos (lt_mid pre suf x), rd_mid, up_mid pre x hn hl, hm]
    rw [mid_snoc pre suf x] at hl ⊢
    rw [ih (pre ++ [x]) x hl hv.2.2]
    rw [lastD_cons]
theorem implBest_v (a b : List Int) (ha : a.length ≤ 1000000000000) (hb : b.length ≤ 1000000000000) : impl_BestCommon.fv a b = some (best a b) := by
  rw [impl_BestCommon.fv_eq, implVers_v a ha, implVers_v b hb]
  simp only [Option.bind_some, impl_BestCommon.j0v_eq, implCom_v a b ha hb]
  unfold best
  cases h1 : areV a with
  | false => simp
  | true =>
    cases areV b with
    | false => simp
    | true =>
      have hc := com_len a b
      have hv : vers 0 (com a b) = true := vers_filter _ (by simp only [areV, Bool.and_eq_true] at h1; exact h1.1)
      have h := implMax_l0 (com a b) [] 0 (by simp; omega) hv
      simp only [List.nil_append, List.length_nil, Int.natCast_zero] at h
      simp [h]
end Go.Proofs.Ytdoefkloanpliaa.Plain
