/- What the program's SafeStages returns: nothing, or shares that grow up to all, of which the first does no more than so much harm. No condition. -/
import Derived.Test.YtlcmkgbabffmeaaRollLaw
import Derived.Test.YtlcmkgbabffmeaaCDiv
import Derived.Test.YtlcmkgbabffmeaaLim6
set_option linter.unusedSimpArgs false
set_option linter.unusedVariables false
namespace Go.Proofs.Ytlcmkgbabffmeaa.Plain
open Go.RowKit Go.Proofs.YtlcmkgbabffmeaaW.PrintWords Go.Proofs.Ytlcmkgbabffmeaa.Base Go.Proofs.Ytlcmkgbabffmeaa.Print

/-- The last of the first n shares that does no more than so much harm. -/
def lastOkI (x y : Int) : Nat → Int
  | 0 => 0
  | n + 1 => if cdiv (wrap64 (x * ((n + 1 : Nat) : Int))) 100 ≤ y then ((n + 1 : Nat) : Int) else lastOkI x y n
theorem lastOkI_in (x y : Int) (n : Nat) : 0 ≤ lastOkI x y n ∧ lastOkI x y n ≤ n ∧ (0 < lastOkI x y n → cdiv (wrap64 (x * lastOkI x y n)) 100 ≤ y) := by
  induction n with
  | zero => simp [lastOkI]
  | succ n ih =>
    unfold lastOkI
    split
    · rename_i h
      exact ⟨by omega, by omega, fun _ => h⟩
    · exact ⟨ih.1, by omega, ih.2.2⟩
theorem implSafeI_l0 (x y : Int) (xs : List Int) (m : Nat) : ∀ n : Nat, n + m = 100 → impl_SafeStages.l0v x y xs (lastOkI x y n) ((n + 1 : Nat) : Int) = impl_SafeStages.l1v xs (lastOkI x y 100) := by
  induction m with
  | zero =>
    intro n hn
    obtain rfl : n = 100 := by omega
    rw [impl_SafeStages.l0v_eq, if_neg (by omega)]
  | succ m ih =>
    intro n hn
    rw [impl_SafeStages.l0v_eq, if_pos (by omega), implCeilDiv_f, w64 (x := ((n + 1 : Nat) : Int) + 1) (by omega) (by omega)]
    simp only [Option.bind_some]
    have h1 := ih (n + 1) (by omega)
    rw [show (((n + 1 + 1 : Nat) : Nat) : Int) = ((n + 1 : Nat) : Int) + 1 by omega] at h1
    rw [lastOkI] at h1
    by_cases h : cdiv (wrap64 (x * ((n + 1 : Nat) : Int))) 100 ≤ y
    · rw [if_pos h] at h1 ⊢
      exact h1
    · rw [if_neg h] at h1 ⊢
      exact h1
theorem safeI_l1 (m : Nat) : ∀ (xs : List Int) (n p : Int), xs.length + m = 4 → 0 ≤ p → p < 100 → (n ≤ 0 ∨ p < n) → n ≤ 1000 →
    ∃ ys, impl_SafeStages.l1v xs n = some (xs ++ (ys ++ [100])) ∧ ys.length ≤ m ∧ rises p (ys ++ [100]) = true ∧ (m ≠ 0 → 0 < n → n < 100 → ∃ zs, ys = n :: zs) ∧ (¬ (0 < n ∧ n < 100) → ys = []) := by
  have hend : ∀ p : Int, 0 ≤ p → p < 100 → rises p [100] = true := by
    intro p h0 h1
    simp [rises, inR_true, h1]
  induction m with
  | zero =>
    intro xs n p hm h0 h1 _ _
    refine ⟨[], ?_, by simp, hend p h0 h1, fun h => absurd rfl h, fun _ => rfl⟩
    rw [impl_SafeStages.l1v_eq]
    simp only [show xs.length < 17592186044416 by omega, show ¬ (xs.length : Int) < 4 by omega, if_true, if_false, ite_self]
    rfl
  | succ m ih =>
    intro xs n p hm h0 h1 hn hb
    rw [impl_SafeStages.l1v_eq]
    simp only [show xs.length < 17592186044416 by omega, show (xs.length : Int) < 4 by omega, if_true]
    by_cases hp : n > 0
    · rw [if_pos hp]
      by_cases hl : n < 100
      · rw [if_pos hl, w64 (by omega) (by omega)]
        obtain ⟨ys, e, e1, e2, _, _⟩ := ih (xs ++ [n]) (n * 2) n (by simp; omega) (by omega) hl (by omega) (by omega)
        refine ⟨n :: ys, by rw [e]; simp, by simp; omega, ?_, fun _ _ _ => ⟨ys, rfl⟩, fun h => absurd ⟨hp, hl⟩ h⟩
        have hpn : p < n := by omega
        have hin : inR 1 100 n = true := inR_true.mpr (by omega)
        simp only [List.cons_append, rises, hin, e2, Bool.and_true, Bool.true_and, decide_eq_true_eq]
        exact hpn
      · rw [if_neg hl]
        exact ⟨[], rfl, by simp, hend p h0 h1, fun _ _ h => absurd h hl, fun _ => rfl⟩
    · rw [if_neg hp]
      exact ⟨[], rfl, by simp, hend p h0 h1, fun _ h _ => absurd h hp, fun _ => rfl⟩
end Go.Proofs.Ytlcmkgbabffmeaa.Plain
