/- Endpoints: their sizes, copies and equality, as the law's helpers tell them. Condition: at most 10 to the 12 of each. -/
import Derived.Test.YtdoefkloanpliaaBoxes
import Derived.Test.YtdoefkloanpliaaLim1
import Derived.Test.YtdoefkloanpliaaLim2
set_option linter.unusedSimpArgs false
set_option linter.unusedVariables false
namespace Go.Proofs.Ytdoefkloanpliaa.Plain
open Go.RowKit Go.Proofs.YtdoefkloanpliaaW.PrintWords Go.Proofs.Ytdoefkloanpliaa.Base Go.Proofs.Ytdoefkloanpliaa.Print

/-- What is left of n behind an endpoint. -/
def sizeE (v t : List Int) (p : List S64) (n : Int) : Int :=
  if n < (v.length : Int) then -1 else if n - (v.length : Int) < (t.length : Int) then -1 else if sizeOf1 szB p (n - (v.length : Int) - (t.length : Int)) < 0 then -1 else sizeOf1 szB p (n - (v.length : Int) - (t.length : Int))
/-- Its rows are not too long. -/
def okE (v t : List Int) (p : List S64) : Prop := v.length ≤ 1000000000000 ∧ t.length ≤ 1000000000000 ∧ p.length ≤ 1000000000000 ∧ ∀ x ∈ p, okB (toB x)
theorem szEnd_v (v t : List Int) (p : List S64) (c n : Int) (h0 : 0 ≤ n) (h : n ≤ 1048576) (hv : v.length ≤ 1000000000000000000) (ht : t.length ≤ 1000000000000000000) (hp : p.length ≤ 100000000000000000) (hs : ∀ x ∈ p, x.f1.length ≤ 1000000000000000000 ∧ x.f2.length ≤ 1000000000000000000) : laws_szEndpoint.fv v t p c n = some (sizeE v t p n) := by
  rw [laws_szEndpoint.fv_eq, szIntS_f v n h0 h hv]
  simp only [Option.bind_some, sizeE]
  by_cases h1 : n < (v.length : Int)
  · rw [if_pos h1, if_pos (by omega), if_pos h1]
  · rw [if_neg h1, if_neg (by omega), if_neg h1, szIntS_f t _ (by omega) (by omega) ht]
    simp only [Option.bind_some]
    by_cases h2 : n - (v.length : Int) < (t.length : Int)
    · rw [if_pos h2, if_pos (by omega), if_pos h2]
    · rw [if_neg h2, if_neg (by omega), if_neg h2, szBoxS_v p _ (by omega) (by omega) hp hs]
      simp only [Option.bind_some]
      split <;> rfl
theorem sizeE_le {v t : List Int} {p : List S64} {n : Int} (h1 : n ≤ 1048576) (h : 0 ≤ sizeE v t p n) : sizeE v t p n ≤ n ∧ okE v t p := by
  unfold sizeE at h ⊢
  by_cases h2 : n < (v.length : Int)
  · rw [if_pos h2] at h
    omega
  · rw [if_neg h2] at h ⊢
    by_cases h3 : n - (v.length : Int) < (t.length : Int)
    · rw [if_pos h3] at h
      omega
    · rw [if_neg h3] at h ⊢
      by_cases h4 : sizeOf1 szB p (n - (v.length : Int) - (t.length : Int)) < 0
      · rw [if_pos h4] at h
        omega
      · rw [if_neg h4] at h ⊢
        obtain ⟨a, b, c⟩ := sizeOf1_le szB p _ h
        refine ⟨by omega, by omega, by omega, by omega, fun x hx => ?_⟩
        have h5 := c x hx
        unfold szB at h5
        exact ⟨by show x.f1.length ≤ _; omega, by show x.f2.length ≤ _; omega⟩
theorem toEnd_v (v t : List Int) (p : List S64) (c : Int) (h : okE v t p) : laws_toEndpoint.fv v t p c = some (v, t, p.map toB, c) := by
  obtain ⟨h1, h2, h3, h4⟩ := h
  rw [laws_toEndpoint.fv_eq, toIntS_v v h1, toIntS_v t h2, toBoxS_v p h3 h4]
  rfl
theorem eqEnd_v (v t : List Int) (p : List S64) (c : Int) (h : okE v t p) : laws_eqEndpoint.fv v t (p.map toB) c v t (p.map toB) c = some true := by
  obtain ⟨h1, h2, h3, h4⟩ := h
  have h5 : ∀ x ∈ p.map toB, okB x := by
    intro x hx
    obtain ⟨y, hy, rfl⟩ := List.mem_map.1 hx
    exact h4 y hy
  rw [laws_eqEndpoint.fv_eq, eqIntS_v v v h1, eqIntS_v t t h2, eqBoxS_v (p.map toB) (by rw [List.length_map]; exact h3) h5]
  simp
theorem okE_boxes {v t : List Int} {p : List S64} (h : okE v t p) : ∀ x ∈ p.map toB, okB x := by
  intro x hx
  obtain ⟨y, hy, rfl⟩ := List.mem_map.1 hx
  exact h.2.2.2 y hy
end Go.Proofs.Ytdoefkloanpliaa.Plain
