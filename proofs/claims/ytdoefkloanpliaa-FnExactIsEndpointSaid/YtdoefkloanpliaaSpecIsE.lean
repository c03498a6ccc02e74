/- IsBox and IsEndpoint, of the reference. Condition: at most 10 to the 12 of each. -/
import Derived.Test.YtdoefkloanpliaaSpecIsB
import Derived.Test.YtdoefkloanpliaaBoxes
import Derived.Test.YtdoefkloanpliaaSpecVers
import Derived.Test.YtdoefkloanpliaaPrint3
import Derived.Test.YtdoefkloanpliaaLim4
set_option linter.unusedSimpArgs false
set_option linter.unusedVariables false
namespace Go.Proofs.Ytdoefkloanpliaa.Plain
open Go.RowKit Go.Proofs.YtdoefkloanpliaaW.PrintWords Go.Proofs.Ytdoefkloanpliaa.Base Go.Proofs.Ytdoefkloanpliaa.Print

theorem specRes_f (x : Int) : spec_IsReserved.f x = some (res x) := by
  unfold spec_IsReserved.f res
  rw [l1In_f]
  cases inR 0 255 x <;> simp
theorem specIsE_l1 (v t : List Int) (c : Int) (hv : v.length ≤ 1000000000000) (suf : List S67) : ∀ (pre : List S67), (pre ++ suf).length ≤ 1000000000000 → (∀ x ∈ suf, okB x) →
    spec_IsEndpoint.l1v (pre.length : Int) v t (pre ++ suf) c = some (suf.all isB && (areV v && (decide (t.length ≤ 5) && (decide ((pre ++ suf).length ≤ 4) && inR 0 5 c)))) := by
  induction suf with
  | nil =>
    intro pre hl _
    rw [spec_IsEndpoint.l1v_eq, if_neg (nlt_end pre), specVers_v v hv, l1In_f]
    simp only [Option.bind_some, List.all_nil, Bool.true_and]
    cases areV v with
    | false => simp
    | true =>
      by_cases h1 : t.length ≤ 5
      · rw [if_pos rfl, if_pos (by omega)]
        by_cases h2 : (pre ++ []).length ≤ 4
        · rw [if_pos (by omega)]
          simp only [h1, h2, decide_true, Bool.true_and]
        · rw [if_neg (by omega)]
          simp only [h1, h2, decide_true, decide_false, Bool.true_and, Bool.false_and]
      · rw [if_pos rfl, if_neg (by omega)]
        simp [h1]
  | cons x suf ih =>
    intro pre hl hs
    have hn : pre.length < (pre ++ x :: suf).length := by simp
    rw [spec_IsEndpoint.l1v_eq, if_pos (lt_mid pre suf x), if_pos (by omega), rdBox_mid, specIsB_v x (hs x List.mem_cons_self), up_mid pre x hn hl]
    simp only [Option.bind_some, List.all_cons]
    cases isB x with
    | false => simp
    | true =>
      rw [if_pos rfl]
      rw [mid_snoc pre suf x] at hl ⊢
      rw [ih (pre ++ [x]) hl (fun y hy => hs y (List.mem_cons_of_mem _ hy)), Bool.true_and]
theorem specIsE_l0 (v : List Int) (p : List S67) (c : Int) (hv : v.length ≤ 1000000000000) (hp : p.length ≤ 1000000000000) (hs : ∀ x ∈ p, okB x) (suf : List Int) : ∀ (pre : List Int), (pre ++ suf).length ≤ 1000000000000 →
    spec_IsEndpoint.l0v (pre.length : Int) v (pre ++ suf) p c = some (tagsS pre.getLast? suf && (p.all isB && (areV v && (decide ((pre ++ suf).length ≤ 5) && (decide (p.length ≤ 4) && inR 0 5 c))))) := by
  induction suf with
  | nil =>
    intro pre hl
    have h := specIsE_l1 v (pre ++ []) c hv p [] (by simpa using hp) hs
    simp only [List.nil_append, List.length_nil, Int.natCast_zero] at h
    rw [spec_IsEndpoint.l0v_eq, if_neg (nlt_end pre), h]
    simp only [tagsS, Bool.true_and]
  | cons x suf ih =>
    intro pre hl
    have hn : pre.length < (pre ++ x :: suf).length := by simp
    rw [spec_IsEndpoint.l0v_eq, if_pos (lt_mid pre suf x), if_pos (by omega), rd_mid, l1In_f, specRes_f, up_mid pre x hn hl]
    have h1 := ih (pre ++ [x]) (by simpa using hl)
    rw [← mid_snoc pre suf x] at h1
    rw [h1, List.getLast?_concat]
    simp only [Option.bind_some, tagsS]
    cases inR 0 255 x with
    | false => simp
    | true =>
      cases res x with
      | true => simp
      | false =>
        rw [if_pos rfl, if_neg (by simp)]
        by_cases he : pre = []
        · subst he
          rw [if_neg (by simp)]
          simp [above]
        · have hpl : 0 < pre.length := List.length_pos_iff.mpr he
          rw [if_pos (by omega), w64 (x := (pre.length : Int) - 1) (by omega) (by omega), if_pos (by omega), if_pos (by omega), lastO pre (x :: suf) he]
          simp only [above]
          by_cases hlt : rd (pre ++ x :: suf) ((pre.length : Int) - 1) < x
          · rw [if_neg (by omega)]
            simp [hlt]
          · rw [if_pos (by omega)]
            simp [hlt]
theorem specIsE_v (v t : List Int) (p : List S67) (c : Int) (hv : v.length ≤ 1000000000000) (ht : t.length ≤ 1000000000000) (hp : p.length ≤ 1000000000000) (hs : ∀ x ∈ p, okB x) : spec_IsEndpoint.fv v t p c = some (isE v t p c) := by
  rw [spec_IsEndpoint.fv_eq]
  have h := specIsE_l0 v p c hv hp hs t [] (by simpa using ht)
  simp only [List.nil_append, List.length_nil, Int.natCast_zero] at h
  rw [h, tagsS_eq]
  unfold isE
  rw [List.getLast?_nil]
  congr 1
  cases asc none t <;> cases t.all (inR 0 255) <;> cases t.any res <;> cases p.all isB <;> cases areV v <;> cases inR 0 5 c <;> cases decide (t.length ≤ 5) <;> cases decide (p.length ≤ 4) <;> rfl
end Go.Proofs.Ytdoefkloanpliaa.Plain
