/- MostHurt, of the program and of the reference. Condition: the stages are at most 10 to the 12. -/
import Derived.Test.YtlcmkgbabffmeaaCountIn
import Derived.Test.YtlcmkgbabffmeaaLim9
import Derived.Test.YtlcmkgbabffmeaaPrint9
import Derived.Test.YtlcmkgbabffmeaaPrint4
import Derived.Test.YtlcmkgbabffmeaaWMore
set_option linter.unusedSimpArgs false
set_option linter.unusedVariables false
namespace Go.Proofs.Ytlcmkgbabffmeaa.Plain
open Go.RowKit Go.Proofs.YtlcmkgbabffmeaaW.PrintWords Go.Proofs.YtlcmkgbabffmeaaW.PrintMore Go.Proofs.Ytlcmkgbabffmeaa.Base Go.Proofs.Ytlcmkgbabffmeaa.Print

theorem max_f (a b : Int) : spec_Max.f a b = some (mx a b) := by
  unfold spec_Max.f mx
  by_cases h : b > a
  · rw [if_pos h, if_pos h]
  · rw [if_neg h, if_neg h]
theorem l26Copy_f (v : Int) (l : List Int) (t : Int) (f : Bool) (hl : l.length ≤ 1000000000000) : spec_l26Copy.f v l t f = some (v, l, t, f) := by
  unfold spec_l26Copy.f
  simp only [Option.bind_some, List.length_nil, List.nil_append]
  rw [if_pos (by omega)]
/-- The most that m stages from i on reach. -/
def mostF (v : Int) (l : List Int) (f : Bool) (n : Int) : Nat → Nat → Int → Int
  | 0, _, h => h
  | m + 1, i, h => mostF v l f n m (i + 1) (mx h (cnt v l i f n))
theorem specMost_l0 (v : Int) (l : List Int) (f : Bool) (n : Int) (hl : l.length ≤ 1000000000000) (m : Nat) : ∀ (i : Nat) (h t : Int), i + m ≤ 1000000000000 → spec_MostHurt.l0v n ((i + m : Nat) : Int) h (i : Int) v l t f = some (mostF v l f n m i h) := by
  induction m with
  | zero =>
    intro i h t _
    rw [spec_MostHurt.l0v_eq, if_neg (by omega)]
    rfl
  | succ m ih =>
    intro i h t hi
    have e : wrap64 ((i : Int) + 1) = ((i + 1 : Nat) : Int) := by
      rw [w64 (by omega) (by omega)]
      omega
    rw [spec_MostHurt.l0v_eq, if_pos (by omega), specCountIn_v v l i f n hl]
    simp only [Option.bind_some, max_f]
    rw [e, show i + (m + 1) = i + 1 + m by omega, ih (i + 1) _ _ (by omega)]
    rfl
theorem implMost_l0 (v : Int) (l : List Int) (f : Bool) (n : Int) (hl : l.length ≤ 1000000000000) (m : Nat) : ∀ (i : Nat) (h t : Int), i + m ≤ 1000000000000 → impl_MostHurt.l0v n h ((i + m : Nat) : Int) (i : Int) v l t f = some (mostF v l f n m i h) := by
  induction m with
  | zero =>
    intro i h t _
    rw [impl_MostHurt.l0v_eq, if_neg (by omega)]
    rfl
  | succ m ih =>
    intro i h t hi
    have e : wrap64 ((i : Int) + 1) = ((i + 1 : Nat) : Int) := by
      rw [w64 (by omega) (by omega)]
      omega
    rw [impl_MostHurt.l0v_eq, if_pos (by omega), implCountIn_v v l i f n hl]
    simp only [Option.bind_some]
    rw [e, show i + (m + 1) = i + 1 + m by omega, ih (i + 1) _ _ (by omega)]
    rfl
/-- The most that so many stages of a rollout reach. -/
def mostHurt (v : Int) (l : List Int) (t : Int) (f : Bool) (n s : Int) : Int := if isR v l t && inR 1 (l.length : Int) s then mostF v l f n s.toNat 0 0 else 0
theorem specMostHurt_v (v : Int) (l : List Int) (t : Int) (f : Bool) (n s : Int) (hl : l.length ≤ 1000000000000) : spec_MostHurt.fv v l t f n s = some (mostHurt v l t f n s) := by
  rw [spec_MostHurt.fv_eq, specIsR_v v l t f hl, l1In_f]
  simp only [Option.bind_some, spec_MostHurt.j0v_eq, l26Copy_f v l t f hl, mostHurt]
  cases isR v l t with
  | false => simp
  | true =>
    cases h : inR 1 (l.length : Int) s with
    | false => simp
    | true =>
      have := inR_true.mp h
      have h1 := specMost_l0 v l f n hl s.toNat 0 0 t (by omega)
      rw [show ((0 + s.toNat : Nat) : Int) = s by omega] at h1
      simpa using h1
theorem implMostHurt_v (v : Int) (l : List Int) (t : Int) (f : Bool) (n s : Int) (hl : l.length ≤ 1000000000000) : impl_MostHurt.fv v l t f n s = some (mostHurt v l t f n s) := by
  rw [impl_MostHurt.fv_eq, implIsR_v v l t f hl, inRange_f]
  simp only [Option.bind_some, impl_MostHurt.j0v_eq, mostHurt]
  cases isR v l t with
  | false => simp
  | true =>
    cases h : inR 1 (l.length : Int) s with
    | false => simp
    | true =>
      have := inR_true.mp h
      have h1 := implMost_l0 v l f n hl s.toNat 0 0 t (by omega)
      rw [show ((0 + s.toNat : Nat) : Int) = s by omega] at h1
      simpa using h1
end Go.Proofs.Ytlcmkgbabffmeaa.Plain
