/- HurtAt and MostHurt, of the program: no more are hurt than are in, and none more than the most. Condition: the stages and the Bools are at most 10 to the 12. -/
import Derived.Test.YtlcmkgbabffmeaaCountIn
import Derived.Test.YtlcmkgbabffmeaaRollLaw
import Derived.Test.YtlcmkgbabffmeaaLim2
import Derived.Test.YtlcmkgbabffmeaaWMore
set_option linter.unusedSimpArgs false
set_option linter.unusedVariables false
namespace Go.Proofs.Ytlcmkgbabffmeaa.Plain
open Go.RowKit Go.Proofs.YtlcmkgbabffmeaaW.PrintWords Go.Proofs.YtlcmkgbabffmeaaW.PrintMore Go.Proofs.Ytlcmkgbabffmeaa.Base Go.Proofs.Ytlcmkgbabffmeaa.Print

theorem rdB_mid (pre suf : List Bool) (x : Bool) : rdOf false (pre ++ x :: suf) (pre.length : Int) = x := by simp [rdOf]
theorem hurtI_l0 (v : Int) (l : List Int) (t : Int) (f : Bool) (n : Int) (hl : l.length ≤ 1000000000000) (suf : List Bool) : ∀ (pre : List Bool) (h : Int), (pre ++ suf).length ≤ 1000000000000 → 0 ≤ h → h ≤ pre.length → h ≤ cnt v l t f n →
    ∃ r, impl_HurtAt.l0v n h (pre ++ suf) ((pre ++ suf).length : Int) (pre.length : Int) v l t f = some r ∧ 0 ≤ r ∧ r ≤ cnt v l t f n := by
  induction suf with
  | nil =>
    intro pre h _ h0 _ h2
    rw [impl_HurtAt.l0v_eq, if_neg (nlt_end pre)]
    exact ⟨h, rfl, h0, h2⟩
  | cons x suf ih =>
    intro pre h hl2 h0 h1 h2
    have hn : pre.length < (pre ++ x :: suf).length := by simp
    rw [impl_HurtAt.l0v_eq, if_pos (lt_mid pre suf x), if_pos (by omega), if_pos (lt_mid pre suf x), rdB_mid, implIsIn_v v l t f _ n hl, up_mid pre x hn hl2, w64 (x := h + 1) (by omega) (by omega)]
    simp only [Option.bind_some]
    have hi : isIn v l t f (pre.length : Int) n = true → (pre.length : Int) < cnt v l t f n := by
      intro hh
      simp only [isIn, Bool.and_eq_true, decide_eq_true_eq] at hh
      exact hh.2.2
    rw [mid_snoc pre suf x] at hl2 ⊢
    have k0 := ih (pre ++ [x]) h hl2 h0 (by simp only [List.length_append, List.length_cons, List.length_nil]; omega) h2
    by_cases hx : x = true
    · rw [if_pos hx]
      by_cases hh : isIn v l t f (pre.length : Int) n = true
      · rw [if_pos hh]
        have := hi hh
        exact ih (pre ++ [x]) (h + 1) hl2 (by omega) (by simp only [List.length_append, List.length_cons, List.length_nil]; omega) (by omega)
      · rw [if_neg hh]
        exact k0
    · rw [if_neg hx]
      exact k0
theorem hurtI_ex (v : Int) (l : List Int) (t : Int) (f : Bool) (n : Int) (bs : List Bool) (hl : l.length ≤ 1000000000000) (hb : bs.length ≤ 1000000000000) : ∃ r, impl_HurtAt.fv v l t f n bs = some r ∧ r ≤ cnt v l t f n := by
  rw [impl_HurtAt.fv_eq]
  have h0 := cnt_nonneg v l t f n
  by_cases h : n = (bs.length : Int)
  · rw [if_pos h]
    obtain ⟨r, e, _, h2⟩ := hurtI_l0 v l t f n hl bs [] 0 (by simpa using hb) (by omega) (by simp) h0
    exact ⟨r, by simpa using e, h2⟩
  · rw [if_neg h]
    exact ⟨0, rfl, h0⟩
/-- The most that m stages from i on reach. -/
def mostI (v : Int) (l : List Int) (f : Bool) (n : Int) : Nat → Nat → Int → Int
  | 0, _, h => h
  | m + 1, i, h => mostI v l f n m (i + 1) (mx h (cnt v l i f n))
theorem le_mostI (v : Int) (l : List Int) (f : Bool) (n : Int) (m : Nat) : ∀ (i : Nat) (h : Int), h ≤ mostI v l f n m i h ∧ ∀ j : Nat, i ≤ j → j < i + m → cnt v l j f n ≤ mostI v l f n m i h := by
  induction m with
  | zero =>
    intro i h
    exact ⟨Int.le_refl _, fun j _ _ => by omega⟩
  | succ m ih =>
    intro i h
    obtain ⟨h1, h2⟩ := ih (i + 1) (mx h (cnt v l i f n))
    have e : h ≤ mx h (cnt v l i f n) ∧ cnt v l i f n ≤ mx h (cnt v l i f n) := by
      unfold mx
      split <;> omega
    refine ⟨by rw [mostI]; omega, fun j hj hk => ?_⟩
    rw [mostI]
    by_cases he : j = i
    · subst he
      omega
    · exact h2 j (by omega) (by omega)
theorem mostI_l0 (v : Int) (l : List Int) (f : Bool) (n : Int) (hl : l.length ≤ 1000000000000) (m : Nat) : ∀ (i : Nat) (h t : Int), i + m ≤ 1000000000000 → impl_MostHurt.l0v n h ((i + m : Nat) : Int) (i : Int) v l t f = some (mostI v l f n m i h) := by
  induction m with
  | zero =>
    intro i h t _
    rw [impl_MostHurt.l0v_eq, if_neg (by omega)]
    rfl
  | succ m ih =>
    intro i h t hi
    have e : wrap64 ((i : Int) + 1) = ((i + 1 : Nat) : Int) := by
      rw [w64 (by omega) (by omega)]
      omega
    rw [impl_MostHurt.l0v_eq, if_pos (by omega), implCountIn_v v l i f n hl]
    simp only [Option.bind_some]
    rw [e, show i + (m + 1) = i + 1 + m by omega, ih (i + 1) _ _ (by omega)]
    rfl
/-- The most is at least what each of the stages below s reaches. -/
theorem mostI_ex (v : Int) (l : List Int) (t : Int) (f : Bool) (n s : Int) (h : isR v l t = true) (h1 : 1 ≤ s) (h2 : s ≤ l.length) (hl : l.length ≤ 1000000000000) :
    ∃ r, impl_MostHurt.fv v l t f n s = some r ∧ 0 ≤ r ∧ ∀ i : Int, 0 ≤ i → i < s → cnt v l i f n ≤ r := by
  have hs : inR 1 (l.length : Int) s = true := inR_true.mpr ⟨h1, h2⟩
  rw [impl_MostHurt.fv_eq, implIsR_v v l t f hl, inRange_f]
  simp only [Option.bind_some, impl_MostHurt.j0v_eq, h, hs, if_true, Bool.not_true, Bool.false_eq_true, if_false]
  have k := mostI_l0 v l f n hl s.toNat 0 0 t (by omega)
  rw [show ((0 + s.toNat : Nat) : Int) = s by omega] at k
  obtain ⟨g1, g2⟩ := le_mostI v l f n s.toNat 0 0
  refine ⟨_, k, g1, fun i h0 hi => ?_⟩
  have := g2 i.toNat (by omega) (by omega)
  rw [show ((i.toNat : Nat) : Int) = i by omega] at this
  exact this
end Go.Proofs.Ytlcmkgbabffmeaa.Plain
