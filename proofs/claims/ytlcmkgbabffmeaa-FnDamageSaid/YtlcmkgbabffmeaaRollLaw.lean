/- What holds of rollouts: shares grow, nothing is left behind a step back. Condition: the stages are at most 10 to the 12. -/
import Derived.Test.YtlcmkgbabffmeaaCountIn
import Derived.Test.YtlcmkgbabffmeaaMoves
set_option linter.unusedSimpArgs false
set_option linter.unusedVariables false
namespace Go.Proofs.Ytlcmkgbabffmeaa.Plain
open Go.RowKit Go.Proofs.YtlcmkgbabffmeaaW.PrintWords Go.Proofs.Ytlcmkgbabffmeaa.Base Go.Proofs.Ytlcmkgbabffmeaa.Print

theorem rises_at (l : List Int) : ∀ (p : Int) (i : Nat) (h : i < l.length), rises p l = true → p < l[i] ∧ 1 ≤ l[i] ∧ l[i] ≤ 100 := by
  induction l with
  | nil =>
    intro p i h
    simp at h
  | cons x l ih =>
    intro p i h hr
    simp only [rises, Bool.and_eq_true, decide_eq_true_eq, inR_true] at hr
    cases i with
    | zero =>
      simp only [List.getElem_cons_zero]
      omega
    | succ i =>
      have h1 : i < l.length := by
        simp only [List.length_cons] at h
        omega
      have h2 := ih x i h1 hr.2.2
      simp only [List.getElem_cons_succ]
      omega
theorem rises_lt (l : List Int) : ∀ (p : Int) (i : Nat) (h : i + 1 < l.length), rises p l = true → l[i] < l[i + 1] := by
  induction l with
  | nil =>
    intro p i h
    simp at h
  | cons x l ih =>
    intro p i h hr
    simp only [rises, Bool.and_eq_true, decide_eq_true_eq, inR_true] at hr
    have h1 : i < l.length := by
      simp only [List.length_cons] at h
      omega
    cases i with
    | zero =>
      simp only [List.getElem_cons_zero, List.getElem_cons_succ]
      exact (rises_at l x 0 h1 hr.2.2).1
    | succ i =>
      simp only [List.getElem_cons_succ]
      exact ih x i (by simpa using h) hr.2.2
theorem rd_at (l : List Int) (t : Int) (h0 : 0 ≤ t) (h1 : t < l.length) : ∃ h : t.toNat < l.length, rd l t = l[t.toNat] := by
  have hb : t.toNat < l.length := by omega
  exact ⟨hb, by simp [rd, hb]⟩
/-- A rollout's share is a share. -/
theorem share_in {v : Int} {l : List Int} {t : Int} (h : isR v l t = true) : 1 ≤ rd l t ∧ rd l t ≤ 100 := by
  have hf := isR_facts h
  obtain ⟨hb, e⟩ := rd_at l t (by omega) (by omega)
  rw [e]
  simp only [isR, Bool.and_eq_true] at h
  have := rises_at l 0 t.toNat hb h.1
  omega
theorem share_lt {v : Int} {l : List Int} {t : Int} (h : isR v l t = true) (h1 : t + 1 < l.length) : rd l t < rd l (t + 1) := by
  have hf := isR_facts h
  obtain ⟨hb, e⟩ := rd_at l t (by omega) (by omega)
  obtain ⟨hb', e'⟩ := rd_at l (t + 1) (by omega) (by omega)
  rw [e, e']
  simp only [isR, Bool.and_eq_true] at h
  have h2 := rises_lt l 0 t.toNat (by omega) h.1
  have e3 : (t + 1).toNat = t.toNat + 1 := by omega
  simp only [e3]
  exact h2
theorem share_last {v : Int} {l : List Int} {t : Int} (h : isR v l t = true) : rd l ((l.length : Int) - 1) = 100 := by
  simp only [isR, isTail, Bool.and_eq_true, decide_eq_true_eq] at h
  exact h.2.2.2.1
theorem isR_move {v : Int} {l : List Int} {t : Int} (t' : Int) (h : isR v l t = true) (h0 : 0 ≤ t') (h1 : t' < l.length) : isR v l t' = true := by
  simp only [isR, isTail, Bool.and_eq_true, inR_true] at h ⊢
  refine ⟨h.1, h.2.1, h.2.2.1, h.2.2.2.1, h0, by omega⟩
theorem cdiv_100 (x : Int) (h0 : 0 ≤ x) (h1 : x ≤ 1000000) : cdiv (wrap64 x) 100 = (x + 99) / 100 := by
  have e1 : inR 0 1000000000000 x = true := inR_true.mpr (by omega)
  have e2 : inR 1 1000000000000 100 = true := inR_true.mpr (by omega)
  rw [w64 (by omega) (by omega), cdiv, e1, e2, if_pos (by rfl), w64 (x := x + 100) (by omega) (by omega), w64 (x := x + 100 - 1) (by omega) (by omega), Int.tdiv_eq_ediv_of_nonneg (by omega), w64 (by omega) (by omega)]
  congr 1
  omega
theorem cnt_eq {v : Int} {l : List Int} {t : Int} {n : Int} (h : isR v l t = true) (h0 : 0 ≤ n) (h1 : n ≤ 10000) : cnt v l t false n = (n * rd l t + 99) / 100 := by
  have hs := share_in h
  have e1 : inR 0 10000 n = true := inR_true.mpr (by omega)
  have b0 : 0 ≤ n * rd l t := Int.mul_nonneg (by omega) (by omega)
  have b1 : n * rd l t ≤ 10000 * 100 := Int.mul_le_mul (by omega) (by omega) (by omega) (by omega)
  rw [cnt, h, e1, if_pos (by rfl), cdiv_100 _ b0 (by omega)]
theorem cnt_out {v : Int} {l : List Int} {t : Int} {f : Bool} {n : Int} (h : ¬ (isR v l t = true ∧ f = false ∧ 0 ≤ n ∧ n ≤ 10000)) : cnt v l t f n = 0 := by
  rw [cnt, if_neg]
  intro hc
  rw [Bool.and_eq_true, Bool.and_eq_true, inR_true] at hc
  exact h ⟨hc.1, by simpa using hc.2.1, hc.2.2.1, hc.2.2.2⟩
theorem cnt_nonneg (v : Int) (l : List Int) (t : Int) (f : Bool) (n : Int) : 0 ≤ cnt v l t f n := by
  by_cases h : isR v l t = true ∧ f = false ∧ 0 ≤ n ∧ n ≤ 10000
  · obtain ⟨h1, rfl, h2, h3⟩ := h
    have hs := share_in h1
    have b0 : 0 ≤ n * rd l t := Int.mul_nonneg (by omega) (by omega)
    rw [cnt_eq h1 h2 h3]
    omega
  · rw [cnt_out h]
    omega
theorem cnt_le (v : Int) (l : List Int) (t : Int) (f : Bool) (n : Int) (hn : 0 ≤ n) : cnt v l t f n ≤ n := by
  by_cases h : isR v l t = true ∧ f = false ∧ 0 ≤ n ∧ n ≤ 10000
  · obtain ⟨h1, rfl, h2, h3⟩ := h
    have hs := share_in h1
    have b1 : n * rd l t ≤ n * 100 := Int.mul_le_mul_of_nonneg_left (by omega) (by omega)
    rw [cnt_eq h1 h2 h3]
    omega
  · rw [cnt_out h]
    exact hn
theorem cnt_next {v : Int} {l : List Int} {t : Int} {f : Bool} (n : Int) (h : goesOn v l t f = true) : cnt v l t f n ≤ cnt v l (t + 1) f n := by
  simp only [goesOn, Bool.and_eq_true, Bool.not_eq_true', decide_eq_false_iff_not] at h
  obtain ⟨h1, rfl, h2⟩ := h
  have hf := isR_facts h1
  have h3 := isR_move (t + 1) h1 (by omega) (by omega)
  by_cases hn : 0 ≤ n ∧ n ≤ 10000
  · have hs := share_lt h1 (by omega)
    have b1 : n * rd l t ≤ n * rd l (t + 1) := Int.mul_le_mul_of_nonneg_left (by omega) (by omega)
    rw [cnt_eq h1 hn.1 hn.2, cnt_eq h3 hn.1 hn.2]
    omega
  · rw [cnt_out (by omega)]
    exact cnt_nonneg _ _ _ _ _
theorem cnt_all {v : Int} {l : List Int} {t : Int} {n : Int} (h : isR v l t = true) (hg : goesOn v l t false = false) (h0 : 0 ≤ n) (h1 : n ≤ 10000) : cnt v l t false n = n := by
  have ht : t = (l.length : Int) - 1 := by simpa [goesOn, h] using hg
  rw [cnt_eq h h0 h1, ht, share_last h]
  omega
end Go.Proofs.Ytlcmkgbabffmeaa.Plain
