/- What the law's own helpers on slices of slices of whole numbers come to: the size, a copy, equality. Condition: at most 10 to the 12 of each. -/
import Derived.Test.YtdoefkloanpliaaInts
import Derived.Test.YtdoefkloanpliaaSize
import Derived.Test.YtdoefkloanpliaaLim1
import Derived.Test.YtdoefkloanpliaaPrint1
set_option linter.unusedSimpArgs false
set_option linter.unusedVariables false
namespace Go.Proofs.Ytdoefkloanpliaa.Plain
open Go.RowKit Go.Proofs.YtdoefkloanpliaaW.PrintWords Go.Proofs.Ytdoefkloanpliaa.Base Go.Proofs.Ytdoefkloanpliaa.Print

theorem rdL1_mid (pre suf : List (List Int)) (x : List Int) : rd_L1 (pre ++ x :: suf) (pre.length : Int) = x := by simp [rd_L1]
theorem szIntSS_l0 (suf : List (List Int)) : ∀ (pre : List (List Int)) (n : Int), (pre ++ suf).length ≤ 1000000000000 → 0 ≤ n → n ≤ 1048576 → (∀ x ∈ suf, x.length ≤ 1000000000000000000) →
    laws_szIntSS.l0v (pre ++ suf) n (pre.length : Int) = some (sizes List.length suf n) := by
  induction suf with
  | nil =>
    intro pre n _ _ _ _
    rw [laws_szIntSS.l0v_eq, if_neg (nlt_end pre)]
    rfl
  | cons x suf ih =>
    intro pre n hl h0 h1 hs
    have hn : pre.length < (pre ++ x :: suf).length := by simp
    rw [laws_szIntSS.l0v_eq, if_pos (lt_mid pre suf x), if_pos (by omega), rdL1_mid, szIntS_f x n h0 h1 (hs x List.mem_cons_self)]
    simp only [Option.bind_some, sizes]
    by_cases hc : n < (x.length : Int)
    · rw [if_pos hc, if_pos (by omega), if_pos hc]
    · rw [if_neg hc, if_neg (by omega), if_neg hc, up_mid pre x hn hl]
      rw [mid_snoc pre suf x] at hl ⊢
      exact ih (pre ++ [x]) _ hl (by omega) (by omega) (fun y hy => hs y (List.mem_cons_of_mem _ hy))
theorem szIntSS_v (l : List (List Int)) (n : Int) (h0 : 0 ≤ n) (h1 : n ≤ 1048576) (hl : l.length ≤ 100000000000000000) (hs : ∀ x ∈ l, x.length ≤ 1000000000000000000) :
    laws_szIntSS.fv l n = some (sizeOf1 List.length l n) := by
  rw [laws_szIntSS.fv_eq, w64 (by omega) (by omega)]
  unfold sizeOf1
  by_cases hc : n < (l.length : Int)
  · rw [if_pos (by omega), if_pos hc]
  · rw [if_neg (by omega), if_neg hc]
    have h := szIntSS_l0 l [] (n - (l.length : Int)) (by simp; omega) (by omega) (by omega) hs
    simpa using h
theorem toIntSS_l0 (suf : List (List Int)) : ∀ (pre rest : List (List Int)), rest.length = suf.length → (pre ++ suf).length ≤ 1000000000000 → (∀ x ∈ suf, x.length ≤ 1000000000000) → laws_toIntSS.l0v (pre ++ suf) (pre ++ rest) (pre.length : Int) = some (pre ++ suf) := by
  induction suf with
  | nil =>
    intro pre rest hr _ _
    rw [laws_toIntSS.l0v_eq, if_neg (nlt_end pre)]
    simp at hr
    rw [hr]
  | cons x suf ih =>
    intro pre rest hr hl hs
    cases rest with
    | nil => simp at hr
    | cons y rest =>
      have hn : pre.length < (pre ++ x :: suf).length := by simp
      rw [laws_toIntSS.l0v_eq, if_pos (lt_mid pre suf x), if_pos (by omega), rdL1_mid, toIntS_v x (hs x List.mem_cons_self)]
      simp only [Option.bind_some]
      rw [if_pos (lt_mid pre rest y), set_mid, up_mid pre x hn hl]
      rw [mid_snoc pre suf x] at hl ⊢
      have h1 := ih (pre ++ [x]) rest (by simpa using hr) hl (fun y hy => hs y (List.mem_cons_of_mem _ hy))
      simp only [List.length_append, List.length_cons, List.length_nil] at h1 ⊢
      exact h1
theorem toIntSS_v (l : List (List Int)) (hl : l.length ≤ 1000000000000) (hs : ∀ x ∈ l, x.length ≤ 1000000000000) : laws_toIntSS.fv l = some l := by
  rw [laws_toIntSS.fv_eq, if_pos (by omega), if_pos (by omega)]
  have h := toIntSS_l0 l [] (List.replicate ((l.length : Int) : Int).toNat []) (by simp) (by simpa using hl) hs
  simpa using h
theorem eqIntSS_l0 (sa : List (List Int)) : ∀ (pre : List (List Int)), (pre ++ sa).length ≤ 1000000000000 → (∀ x ∈ sa, x.length ≤ 1000000000000) → laws_eqIntSS.l0v (pre ++ sa) (pre ++ sa) (pre.length : Int) = some true := by
  induction sa with
  | nil =>
    intro pre _ _
    rw [laws_eqIntSS.l0v_eq, if_neg (nlt_end pre)]
  | cons x sa ih =>
    intro pre hl hs
    have hn : pre.length < (pre ++ x :: sa).length := by simp
    rw [laws_eqIntSS.l0v_eq, if_pos (lt_mid pre sa x), if_pos (by omega), if_pos (lt_mid pre sa x), rdL1_mid, eqIntS_v x x (hs x List.mem_cons_self), up_mid pre x hn hl]
    simp only [Option.bind_some, decide_true, if_true]
    rw [mid_snoc pre sa x] at hl ⊢
    exact ih (pre ++ [x]) hl (fun y hy => hs y (List.mem_cons_of_mem _ hy))
theorem eqIntSS_v (l : List (List Int)) (hl : l.length ≤ 1000000000000) (hs : ∀ x ∈ l, x.length ≤ 1000000000000) : laws_eqIntSS.fv l l = some true := by
  rw [laws_eqIntSS.fv_eq, if_pos rfl]
  exact eqIntSS_l0 l [] (by simpa using hl) hs
end Go.Proofs.Ytdoefkloanpliaa.Plain
