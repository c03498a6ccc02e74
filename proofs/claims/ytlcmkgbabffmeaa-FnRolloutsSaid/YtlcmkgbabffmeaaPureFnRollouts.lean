/- FnRollouts: whatever the bytes that the law draws from, shares grow from stage to stage up to all, and nothing is left after it was taken back. No condition. -/
import Derived.Test.YtlcmkgbabffmeaaRollLaw
import Derived.Test.YtlcmkgbabffmeaaRollDraw
import Derived.Test.YtlcmkgbabffmeaaLim11
import Derived.Test.YtlcmkgbabffmeaaLim7
import Derived.Test.YtlcmkgbabffmeaaPrint4
set_option linter.unusedSimpArgs false
set_option linter.unusedVariables false
namespace Go.Proofs.Ytlcmkgbabffmeaa.Pure
open Go.RowKit Go.Proofs.YtlcmkgbabffmeaaW.PrintWords Go.Proofs.Ytlcmkgbabffmeaa.Base Go.Proofs.Ytlcmkgbabffmeaa.Print Go.Proofs.Ytlcmkgbabffmeaa.Plain

theorem r_j4 (n : Int) (v : Int) (l : List Int) (t : Int) (f : Bool) (hl : l.length ≤ 1000000000000) :
    laws_FnRollouts.j4v n (cnt v l t f n) (goesOn v l t f) (goesBack v l t f) false v l t f v l (backAt v l t f) (backOff v l t f) = some true := by
  rw [laws_FnRollouts.j4v_eq, if_neg (by simp), implNext_v _ _ _ _ hl, implIsR_v v l t f hl]
  simp only [Option.bind_some]
  have hx : (if goesOn v l t f = true then some true else if f = true then some true else if isR v l t = true then if n < 0 then some true else if n > 10000 then some true else some (cnt v l t f n == n) else some true) = some true := by
    split
    · rfl
    · rename_i hg
      split
      · rfl
      · rename_i hf
        split
        · rename_i hr
          split
          · rfl
          · split
            · rfl
            · have ef : f = false := by simpa using hf
              subst ef
              rw [cnt_all hr (by simpa using hg) (by omega) (by omega)]
              simp
        · rfl
  split
  · rename_i hb
    have h2 : goesOn v l (backAt v l t f) (backOff v l t f) = false := by
      simp [goesOn, backOff, hb]
    rw [if_neg (by simp [h2])]
    exact hx
  · exact hx
theorem r_j3 (n : Int) (v : Int) (l : List Int) (t : Int) (f : Bool) (hl : l.length ≤ 1000000000000) :
    laws_FnRollouts.j3v n (cnt v l t f n) (goesOn v l t f) false v l t f = some true := by
  rw [laws_FnRollouts.j3v_eq, if_neg (by simp), implBack_v v l t f hl]
  simp only [Option.bind_some]
  cases hb : goesBack v l t f with
  | true =>
    have h1 : isR v l t = true := by
      simp only [goesBack, Bool.and_eq_true] at hb
      exact hb.1
    have hf := isR_facts h1
    have h2 : isR v l (backAt v l t f) = true := isR_move _ h1 (by simp [backAt, hb]) (by simp [backAt, hb]; omega)
    have h3 : cnt v l (backAt v l t f) (backOff v l t f) n = 0 := cnt_out (by simp [backOff, hb])
    rw [if_pos rfl, implCountIn_v _ _ _ _ _ hl, implIsR_v _ _ _ _ hl]
    simp only [Option.bind_some, h3, h2, if_true]
    have h := r_j4 n v l t f hl
    rw [hb] at h
    exact h
  | false =>
    have e1 : backAt v l t f = t := by simp [backAt, hb]
    have e2 : backOff v l t f = f := by simp [backOff, hb]
    rw [if_neg (by simp), implEqR_v _ _ _ _ _ _ _ _ hl, e1, e2, eqR_refl]
    simp only [Option.bind_some, Bool.not_true]
    have h := r_j4 n v l t f hl
    rw [hb, e1, e2] at h
    exact h
theorem r_j2 (n : Int) (v : Int) (l : List Int) (t : Int) (f : Bool) (hl : l.length ≤ 1000000000000) :
    laws_FnRollouts.j2v n (cnt v l t f n) false v l t f = some true := by
  rw [laws_FnRollouts.j2v_eq, if_neg (by simp), implNext_v v l t f hl]
  simp only [Option.bind_some]
  cases hg : goesOn v l t f with
  | true =>
    have h := hg
    simp only [goesOn, Bool.and_eq_true, Bool.not_eq_true', decide_eq_false_iff_not] at h
    have hf := isR_facts h.1
    have e1 : nextAt v l t f = t + 1 := by simp [nextAt, hg]
    have h2 : isR v l (t + 1) = true := isR_move _ h.1 (by omega) (by omega)
    have h3 := cnt_next n hg
    rw [if_pos rfl, e1, implIsR_v _ _ _ _ hl, implCountIn_v _ _ _ _ _ hl]
    simp only [Option.bind_some, h2, if_true]
    rw [if_neg (by omega)]
    have h := r_j3 n v l t f hl
    rw [hg] at h
    exact h
  | false =>
    have e1 : nextAt v l t f = t := by simp [nextAt, hg]
    rw [if_neg (by simp), e1, implEqR_v _ _ _ _ _ _ _ _ hl, eqR_refl]
    simp only [Option.bind_some, Bool.not_true]
    have h := r_j3 n v l t f hl
    rw [hg] at h
    exact h
/-- Behind the loop. -/
theorem r_j1 (n : Int) (h i : Int) (v : Int) (l : List Int) (t : Int) (f : Bool) (hl : l.length ≤ 1000000000000) (hh : 0 ≤ n → n ≤ 10 → h = cnt v l t f n) :
    laws_FnRollouts.j1v n (cnt v l t f n) h i false v l t f = some true := by
  rw [laws_FnRollouts.j1v_eq, if_neg (by simp)]
  have h2 := r_j2 n v l t f hl
  have h3 := cnt_le v l t f n
  by_cases h0 : 0 ≤ n
  · rw [if_neg (by omega), if_pos h0]
    by_cases h10 : n ≤ 10
    · rw [if_pos h10, hh h0 h10]
      simpa using h2
    · rw [if_neg h10]
      exact h2
  · simp only [show ¬ n ≥ 0 by omega, if_false, ite_self]
    exact h2
/-- How many below c are below i. -/
theorem r_l0 (n : Int) (v : Int) (l : List Int) (t : Int) (f : Bool) (hl : l.length ≤ 1000000000000) (m : Nat) : ∀ i : Nat, i + m = 10 →
    laws_FnRollouts.l0v n (cnt v l t f n) (if (i : Int) ≤ cnt v l t f n then (i : Int) else cnt v l t f n) (i : Int) v l t f = some true := by
  have hc0 := cnt_nonneg v l t f n
  have hc1 := cnt_le v l t f n
  induction m with
  | zero =>
    intro i hi
    obtain rfl : i = 10 := by omega
    rw [laws_FnRollouts.l0v_eq]
    have hj := r_j1 n (if ((10 : Nat) : Int) ≤ cnt v l t f n then ((10 : Nat) : Int) else cnt v l t f n) ((10 : Nat) : Int) v l t f hl (fun h0 h1 => by
      have := hc1 h0
      split <;> omega)
    rw [show decide (((10 : Nat) : Int) < 10) = false by decide, hj]
    split <;> rfl
  | succ m ih =>
    intro i hi
    rw [laws_FnRollouts.l0v_eq]
    by_cases hn : (i : Int) < n
    · have e : wrap64 ((i : Int) + 1) = ((i + 1 : Nat) : Int) := by
        rw [w64 (by omega) (by omega)]
        omega
      have h1 := ih (i + 1) (by omega)
      rw [if_pos hn, laws_FnRollouts.j1v_eq, show decide ((i : Int) < 10) = true by simp; omega, if_pos rfl, implIsIn_v _ _ _ _ _ _ hl, e]
      simp only [Option.bind_some]
      by_cases hin : (i : Int) < cnt v l t f n
      · have hI : isIn v l t f (i : Int) n = true := by simp [isIn, hn, hin]
        rw [hI, if_pos rfl, if_pos (by omega), e]
        rw [if_pos (by omega)] at h1
        exact h1
      · have hI : isIn v l t f (i : Int) n = false := by simp [isIn, hin]
        rw [hI, if_neg (by simp)]
        have e2 : (if (i : Int) ≤ cnt v l t f n then (i : Int) else cnt v l t f n) = cnt v l t f n := by
          split <;> omega
        rw [if_neg (by omega)] at h1
        rw [e2]
        exact h1
    · rw [if_neg hn]
      refine r_j1 n _ _ v l t f hl (fun h0 h1 => ?_)
      have := hc1 h0
      split <;> omega

theorem FnRollouts : laws_FnRollouts.Pure := by
  intro l _ _ _
  refine ends (g := fun k => laws_FnRollouts.f k l) ?_
  show laws_FnRollouts.fv l = some true
  rw [laws_FnRollouts.fv_eq]
  unfold laws_big.f
  simp only [Option.bind_some, decide_eq_true_eq]
  split
  · rfl
  · have hl : l.length ≤ 1000000000000 := by omega
    obtain ⟨r, en, hn⟩ := l1New_ex l hl
    obtain ⟨v, xs, t, f, p1, r1, e1, h1, hx⟩ := l26Any_ex l 0 r hn
    obtain ⟨n, p2, r2, e2, h2, _⟩ := l1Int_ex l p1 r1 [0, 1, 7, 10, 10000, 10001, (-1)] h1 (by simp)
    rw [spec_DrawCountIn.fv_eq, en]
    simp only [Option.bind_some, e1, e2, implCountIn_v v xs t f n (by omega)]
    have h := r_l0 n v xs t f (by omega) 10 0 (by omega)
    rw [if_pos (by simpa using cnt_nonneg v xs t f n)] at h
    exact h
end Go.Proofs.Ytlcmkgbabffmeaa.Pure
