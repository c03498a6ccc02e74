/- Lists of versions: ascending, from 1 to 9; membership; what two lists share. No program. No condition. -/
import Derived.Test.YtdoefkloanpliaaRange
set_option linter.unusedSimpArgs false
set_option linter.unusedVariables false
namespace Go.Proofs.Ytdoefkloanpliaa.Plain
open Go.RowKit Go.Proofs.YtdoefkloanpliaaW.PrintWords Go.Proofs.Ytdoefkloanpliaa.Base Go.Proofs.Ytdoefkloanpliaa.Print

/-- Versions that grow, all above p. -/
def vers : Int → List Int → Bool
  | _, [] => true
  | p, x :: l => inR 1 9 x && (decide (p < x) && vers x l)
/-- A list of versions, and not empty. -/
def areV (l : List Int) : Bool := vers 0 l && decide (0 < l.length)
/-- Is x in the list? -/
def mem (l : List Int) (x : Int) : Bool := decide (x ∈ l)
/-- What two lists share. -/
def com (a b : List Int) : List Int := a.filter (mem b)
/-- The best version that two lists share. -/
def best (a b : List Int) : Int := if areV a && areV b then (com a b).getLastD 0 else 0
theorem mem_cons (x y : Int) (l : List Int) : mem (y :: l) x = (decide (y = x) || mem l x) := by
  by_cases h : y = x
  · simp [mem, h]
  · have h' : ¬ x = y := fun e => h e.symm
    simp [mem, h, h']
theorem mem_nil (x : Int) : mem [] x = false := by simp [mem]
theorem vers_le {p q : Int} {l : List Int} (h : vers p l = true) (hq : q ≤ p) : vers q l = true := by
  cases l with
  | nil => rfl
  | cons x l =>
    simp only [vers, Bool.and_eq_true, decide_eq_true_eq] at h ⊢
    exact ⟨h.1, by omega, h.2.2⟩
theorem vers_filter (f : Int → Bool) {l : List Int} : ∀ {p : Int}, vers p l = true → vers p (l.filter f) = true := by
  induction l with
  | nil =>
    intro p h
    rfl
  | cons x l ih =>
    intro p h
    simp only [vers, Bool.and_eq_true, decide_eq_true_eq] at h
    cases hf : f x with
    | true =>
      rw [List.filter_cons_of_pos hf]
      simp only [vers, Bool.and_eq_true, decide_eq_true_eq]
      exact ⟨h.1, h.2.1, ih h.2.2⟩
    | false =>
      rw [List.filter_cons_of_neg (by simp [hf])]
      exact vers_le (ih h.2.2) (by omega)
theorem vers_len {l : List Int} : ∀ {p : Int}, vers p l = true → p ≤ 9 → (l.length : Int) ≤ 9 - p := by
  induction l with
  | nil =>
    intro p _ hp
    simp
    omega
  | cons x l ih =>
    intro p h hp
    simp only [vers, Bool.and_eq_true, decide_eq_true_eq, inR_true] at h
    have := ih h.2.2 (by omega)
    simp only [List.length_cons]
    omega
theorem areV_len {l : List Int} (h : areV l = true) : l.length ≤ 9 := by
  simp only [areV, Bool.and_eq_true] at h
  have := vers_len h.1 (by omega)
  omega
theorem vers_mem {l : List Int} : ∀ {p : Int}, vers p l = true → ∀ x ∈ l, 1 ≤ x ∧ x ≤ 9 ∧ p < x := by
  induction l with
  | nil =>
    intro p _ x hx
    cases hx
  | cons y l ih =>
    intro p h x hx
    simp only [vers, Bool.and_eq_true, decide_eq_true_eq, inR_true] at h
    cases hx with
    | head => omega
    | tail _ hx =>
      have := ih h.2.2 x hx
      omega
theorem areV_mem {l : List Int} (h : areV l = true) : ∀ x ∈ l, 1 ≤ x ∧ x ≤ 9 := by
  simp only [areV, Bool.and_eq_true] at h
  intro x hx
  have := vers_mem h.1 x hx
  omega
theorem com_len (a b : List Int) : (com a b).length ≤ a.length := List.length_filter_le _ _
theorem lastD_cons (x : Int) (l : List Int) (d : Int) : (x :: l).getLastD d = l.getLastD x := by
  cases l <;> rfl
theorem rd_lastD (pre suf : List Int) (h : pre ≠ []) : rd (pre ++ suf) ((pre.length : Int) - 1) = pre.getLastD 0 := by
  have hl : 0 < pre.length := List.length_pos_iff.mpr h
  have e : ((pre.length : Int) - 1).toNat = pre.length - 1 := by omega
  have h1 : pre.length - 1 < pre.length := by omega
  simp [rd, e, List.getD_eq_getElem?_getD, List.getElem?_append_left h1, List.getLastD_eq_getLast?, List.getLast?_eq_getElem?]
theorem lastD_mem (l : List Int) (h : l ≠ []) (d : Int) : l.getLastD d ∈ l := by
  cases l with
  | nil => exact absurd rfl h
  | cons x l => exact List.getLast_mem _
end Go.Proofs.Ytdoefkloanpliaa.Plain
