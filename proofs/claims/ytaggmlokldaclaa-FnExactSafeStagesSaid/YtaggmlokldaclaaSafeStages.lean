/- SafeStages, of the program and of the reference. No condition. -/
import Derived.Test.YtaggmlokldaclaaRange
import Derived.Test.YtaggmlokldaclaaLim3
import Derived.Test.YtaggmlokldaclaaLim4
import Derived.Test.YtaggmlokldaclaaPrint3
set_option linter.unusedSimpArgs false
set_option linter.unusedVariables false
namespace Go.Proofs.Ytaggmlokldaclaa.Plain
open Go.RowKit Go.Proofs.YtaggmlokldaclaaW.PrintWords Go.Proofs.Ytaggmlokldaclaa.Base Go.Proofs.Ytaggmlokldaclaa.Print

/-- A quotient, rounded up. -/
def cdiv (a b : Int) : Int := if inR 0 1000000000000 a && inR 1 1000000000000 b then wrap64 (Int.tdiv (wrap64 (wrap64 (a + b) - 1)) b) else 0
theorem specCeilDiv_f (a b : Int) : spec_CeilDiv.f a b = some (cdiv a b) := by
  unfold spec_CeilDiv.f cdiv
  rw [l1In_f, l1In_f]
  simp only [Option.bind_some]
  cases inR 0 1000000000000 a with
  | false => simp
  | true =>
    cases h : inR 1 1000000000000 b with
    | false => simp
    | true =>
      have := inR_true.mp h
      rw [if_pos rfl, if_pos rfl, if_neg (by omega)]
      simp
theorem implCeilDiv_f (a b : Int) : impl_CeilDiv.f a b = some (cdiv a b) := by
  rw [← specCeilDiv_f]
  unfold spec_CeilDiv.f impl_CeilDiv.f
  rw [l1In_f, l1In_f, inRange_f, inRange_f]
/-- The last of the first n shares that does no more than so much harm. -/
def lastOk (x y : Int) : Nat → Int
  | 0 => 0
  | n + 1 => if cdiv (wrap64 (x * ((n + 1 : Nat) : Int))) 100 ≤ y then ((n + 1 : Nat) : Int) else lastOk x y n
theorem lastOk_in (x y : Int) (n : Nat) : 0 ≤ lastOk x y n ∧ lastOk x y n ≤ n := by
  induction n with
  | zero => simp [lastOk]
  | succ n ih =>
    unfold lastOk
    split <;> omega
theorem specSafe_l0 (x y : Int) (xs : List Int) (n : Nat) (hn : n ≤ 100) : spec_SafeStages.l0v x y xs (n : Int) = spec_SafeStages.l1v xs (lastOk x y n) := by
  induction n with
  | zero =>
    rw [spec_SafeStages.l0v_eq, if_neg (by omega), spec_SafeStages.j2v_eq]
    rfl
  | succ n ih =>
    rw [spec_SafeStages.l0v_eq, if_pos (by omega), specCeilDiv_f, w64 (x := ((n + 1 : Nat) : Int) - 1) (by omega) (by omega)]
    simp only [Option.bind_some, lastOk]
    by_cases h : cdiv (wrap64 (x * ((n + 1 : Nat) : Int))) 100 ≤ y
    · rw [if_neg (by omega), if_pos h, spec_SafeStages.j2v_eq]
    · rw [if_pos (by omega), if_neg h, show (((n + 1 : Nat) : Int) - 1) = (n : Int) by omega, ih (by omega)]
theorem implSafe_l0 (x y : Int) (xs : List Int) (m : Nat) : ∀ n : Nat, n + m = 100 → impl_SafeStages.l0v x y xs (lastOk x y n) ((n + 1 : Nat) : Int) = impl_SafeStages.l1v xs (lastOk x y 100) := by
  induction m with
  | zero =>
    intro n hn
    obtain rfl : n = 100 := by omega
    rw [impl_SafeStages.l0v_eq, if_neg (by omega)]
  | succ m ih =>
    intro n hn
    rw [impl_SafeStages.l0v_eq, if_pos (by omega), implCeilDiv_f, w64 (x := ((n + 1 : Nat) : Int) + 1) (by omega) (by omega)]
    simp only [Option.bind_some]
    have h1 := ih (n + 1) (by omega)
    rw [show (((n + 1 + 1 : Nat) : Nat) : Int) = ((n + 1 : Nat) : Int) + 1 by omega] at h1
    rw [lastOk] at h1
    by_cases h : cdiv (wrap64 (x * ((n + 1 : Nat) : Int))) 100 ≤ y
    · rw [if_pos h] at h1 ⊢
      exact h1
    · rw [if_neg h] at h1 ⊢
      exact h1
theorem safe_l1 (m : Nat) : ∀ (xs : List Int) (n : Int), xs.length + m = 4 → ∃ r, spec_SafeStages.l1v xs n = some r ∧ impl_SafeStages.l1v xs n = some r ∧ r.length ≤ 5 := by
  induction m with
  | zero =>
    intro xs n hm
    refine ⟨xs ++ [100], ?_, ?_, by simp; omega⟩
    · rw [spec_SafeStages.l1v_eq]
      simp only [show xs.length < 17592186044416 by omega, show ¬ (xs.length : Int) < 4 by omega, if_true, if_false, ite_self]
    · rw [impl_SafeStages.l1v_eq]
      simp only [show xs.length < 17592186044416 by omega, show ¬ (xs.length : Int) < 4 by omega, if_true, if_false, ite_self]
  | succ m ih =>
    intro xs n hm
    rw [spec_SafeStages.l1v_eq, impl_SafeStages.l1v_eq]
    simp only [show xs.length < 17592186044416 by omega, show (xs.length : Int) < 4 by omega, if_true]
    by_cases h0 : n > 0
    · rw [if_pos h0, if_pos h0]
      by_cases h1 : n < 100
      · rw [if_pos h1, if_pos h1, Int.mul_comm n 2]
        exact ih (xs ++ [n]) (wrap64 (2 * n)) (by simp; omega)
      · rw [if_neg h1, if_neg h1]
        exact ⟨xs ++ [100], rfl, rfl, by simp; omega⟩
    · rw [if_neg h0, if_neg h0]
      exact ⟨xs ++ [100], rfl, rfl, by simp; omega⟩
theorem safeStages_v (x y : Int) : ∃ r, spec_SafeStages.fv x y = some r ∧ impl_SafeStages.fv x y = some r ∧ r.length ≤ 5 := by
  rw [spec_SafeStages.fv_eq, impl_SafeStages.fv_eq]
  simp only [Option.bind_some, l1In_f, inRange_f, spec_SafeStages.j0v_eq, impl_SafeStages.j0v_eq]
  obtain ⟨r, h1, h2, h3⟩ := safe_l1 4 [] (lastOk x y 100) rfl
  cases inR 1 10000 x with
  | false => exact ⟨[], by simp, by simp, by simp⟩
  | true =>
    by_cases hy : y < 0
    · exact ⟨[], by simp [hy], by simp [hy], by simp⟩
    · refine ⟨r, ?_, ?_, h3⟩
      · simp only [hy, if_true, decide_false, Bool.false_eq_true, if_false]
        rw [← h1]
        exact specSafe_l0 x y [] 100 (by omega)
      · simp only [hy, if_true, decide_false, Bool.false_eq_true, if_false]
        rw [← h2]
        exact implSafe_l0 x y [] 100 0 (by omega)
end Go.Proofs.Ytaggmlokldaclaa.Plain
