/- IsRollout and EqualRollouts, of the program and of the reference. Condition: the stages are at most 10 to the 12. -/
import Derived.Test.YtlcmkgbabffmeaaRange
import Derived.Test.YtlcmkgbabffmeaaLim1
set_option linter.unusedSimpArgs false
set_option linter.unusedVariables false
namespace Go.Proofs.Ytlcmkgbabffmeaa.Plain
open Go.RowKit Go.Proofs.YtlcmkgbabffmeaaW.PrintWords Go.Proofs.Ytlcmkgbabffmeaa.Base Go.Proofs.Ytlcmkgbabffmeaa.Print

/-- Shares that grow from stage to stage. -/
def rises : Int → List Int → Bool
  | _, [] => true
  | p, x :: l => inR 1 100 x && (decide (p < x) && rises x l)
/-- What else a rollout keeps. -/
def isTail (v : Int) (l : List Int) (t : Int) : Bool := inR 1 9 v && (inR 1 5 (l.length : Int) && (decide (rd l ((l.length : Int) - 1) = 100) && inR 0 ((l.length : Int) - 1) t))
def isR (v : Int) (l : List Int) (t : Int) : Bool := rises 0 l && isTail v l t

theorem rd_last (pre suf : List Int) (h : pre ≠ []) : rd (pre ++ suf) ((pre.length : Int) - 1) = pre.getLastD 0 := by
  have hl : 0 < pre.length := List.length_pos_iff.mpr h
  have e : ((pre.length : Int) - 1).toNat = pre.length - 1 := by omega
  have h1 : pre.length - 1 < pre.length := by omega
  simp [rd, e, List.getD_eq_getElem?_getD, List.getElem?_append_left h1, List.getLastD_eq_getLast?, List.getLast?_eq_getElem?]
theorem specIsR_tail (l : List Int) (hl : l.length ≤ 1000000000000) (v t : Int) (f : Bool) : spec_IsRollout.l0v (l.length : Int) v l t f = some (isTail v l t) := by
  rw [spec_IsRollout.l0v_eq, if_neg (by omega), l1In_f, l1In_f]
  simp only [Option.bind_some, isTail]
  cases inR 1 9 v with
  | false => simp
  | true =>
    cases h5 : inR 1 5 (l.length : Int) with
    | false => simp
    | true =>
      have := inR_true.mp h5
      rw [w64 (by omega) (by omega), if_pos rfl, if_pos rfl, if_pos (by omega), if_pos (by omega), l1In_f]
      by_cases h : rd l ((l.length : Int) - 1) = 100 <;> simp [h]
theorem specIsR_l0 (v t : Int) (f : Bool) (suf : List Int) : ∀ pre : List Int, (pre ++ suf).length ≤ 1000000000000 →
    spec_IsRollout.l0v (pre.length : Int) v (pre ++ suf) t f = some (rises (pre.getLastD 0) suf && isTail v (pre ++ suf) t) := by
  induction suf with
  | nil =>
    intro pre hl
    simp only [List.append_nil] at hl ⊢
    rw [specIsR_tail pre hl]
    simp [rises]
  | cons x suf ih =>
    intro pre hl
    have hn : pre.length < (pre ++ x :: suf).length := by simp
    rw [spec_IsRollout.l0v_eq, if_pos (lt_mid pre suf x), if_pos (by omega), rd_mid, l1In_f]
    simp only [Option.bind_some, rises]
    cases hx : inR 1 100 x with
    | false => simp
    | true =>
      rw [if_pos rfl, up_mid pre x hn hl]
      have h1 := ih (pre ++ [x]) (by simpa using hl)
      rw [← mid_snoc pre suf x] at h1
      rw [h1]
      have hr := inR_true.mp hx
      by_cases hp : pre = []
      · subst hp
        rw [if_neg (by simp)]
        have h0 : (0 : Int) < x := by omega
        simp [h0]
      · have hpl : 0 < pre.length := List.length_pos_iff.mpr hp
        rw [if_pos (by omega), w64 (x := (pre.length : Int) - 1) (by omega) (by omega), if_pos (by omega), if_pos (by omega), rd_last pre _ hp]
        by_cases hlt : pre.getLastD 0 < x
        · rw [if_neg (by omega)]
          generalize pre.getLastD 0 = q at hlt
          simp [hlt]
        · rw [if_pos (by omega)]
          generalize pre.getLastD 0 = q at hlt
          simp [hlt]
theorem specIsR_v (v : Int) (l : List Int) (t : Int) (f : Bool) (hl : l.length ≤ 1000000000000) : spec_IsRollout.fv v l t f = some (isR v l t) := by
  rw [spec_IsRollout.fv_eq]
  simpa [isR] using specIsR_l0 v t f l [] (by simpa using hl)
theorem implIsR_l0 (v : Int) (l : List Int) (t : Int) (f : Bool) (hb : l.length ≤ 1000000000000) (m : Nat) : ∀ i : Nat, i + m = l.length → impl_IsRollout.l0v l (l.length : Int) (i : Int) v l t f = spec_IsRollout.l0v (i : Int) v l t f := by
  induction m with
  | zero =>
    intro i hi
    rw [impl_IsRollout.l0v_eq, spec_IsRollout.l0v_eq]
    simp only [show ¬ (i : Int) < (l.length : Int) by omega, if_false, inRange_f, l1In_f]
  | succ m ih =>
    intro i hi
    rw [impl_IsRollout.l0v_eq, spec_IsRollout.l0v_eq]
    simp only [show (i : Int) < (l.length : Int) by omega, show (0 : Int) ≤ i by omega, if_true, inRange_f, l1In_f]
    have e : wrap64 ((i : Int) + 1) = ((i + 1 : Nat) : Int) := by
      rw [w64 (by omega) (by omega)]
      omega
    rw [e, ih (i + 1) (by omega)]
theorem implIsR_v (v : Int) (l : List Int) (t : Int) (f : Bool) (hl : l.length ≤ 1000000000000) : impl_IsRollout.fv v l t f = some (isR v l t) := by
  rw [impl_IsRollout.fv_eq, ← specIsR_v v l t f hl, spec_IsRollout.fv_eq]
  exact implIsR_l0 v l t f hl l.length 0 (by omega)
theorem isR_facts {v : Int} {l : List Int} {t : Int} (h : isR v l t = true) : 1 ≤ l.length ∧ l.length ≤ 5 ∧ 0 ≤ t ∧ t < l.length ∧ 1 ≤ v ∧ v ≤ 9 := by
  simp only [isR, isTail, Bool.and_eq_true, inR_true] at h
  omega
/-- Are two rollouts the same? -/
def eqR (v : Int) (l : List Int) (t : Int) (f : Bool) (v' : Int) (l' : List Int) (t' : Int) (f' : Bool) : Bool := decide (v = v') && (decide (l = l') && (decide (t = t') && (f == f')))
theorem eqR_refl (v : Int) (l : List Int) (t : Int) (f : Bool) : eqR v l t f v l t f = true := by simp [eqR]
end Go.Proofs.Ytlcmkgbabffmeaa.Plain
