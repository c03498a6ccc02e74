/- The rollouts that the laws draw from bytes: each draw comes to an answer, of at most ten stages. Condition: at most 10 to the 12 bytes; the place lies in the bytes. -/
import Derived.Test.YtlcmkgbabffmeaaDraws
import Derived.Test.YtlcmkgbabffmeaaLim5
import Derived.Test.YtlcmkgbabffmeaaLim4
set_option linter.unusedSimpArgs false
set_option linter.unusedVariables false
namespace Go.Proofs.Ytlcmkgbabffmeaa.Plain
open Go.RowKit Go.Proofs.YtlcmkgbabffmeaaW.PrintWords Go.Proofs.Ytlcmkgbabffmeaa.Base Go.Proofs.Ytlcmkgbabffmeaa.Print

theorem l4Put_l0 (xs : List Int) (x : Int) (hl : xs.length ≤ 1000) (m : Nat) : ∀ i : Nat, i + m = xs.length → ∃ ys, spec_l4Put.l0v xs x (i : Int) = some ys ∧ ys.length ≤ xs.length + 1 := by
  induction m with
  | zero =>
    intro i hi
    rw [spec_l4Put.l0v_eq, if_neg (by omega)]
    simp only [Option.bind_some, List.length_nil, List.nil_append, List.length_take, List.length_drop, List.length_append, List.length_cons]
    rw [if_pos (by omega), if_pos (by omega), if_pos (by omega), if_pos (by omega), if_pos (by omega)]
    refine ⟨_, rfl, ?_⟩
    simp only [List.length_take, List.length_drop, List.length_append, List.length_cons, List.length_nil]
    omega
  | succ m ih =>
    intro i hi
    have e : wrap64 ((i : Int) + 1) = ((i + 1 : Nat) : Int) := by
      rw [w64 (by omega) (by omega)]
      omega
    rw [spec_l4Put.l0v_eq, if_pos (by omega), if_pos (by omega), e]
    by_cases h1 : rd xs (i : Int) < x
    · rw [if_pos h1]
      exact ih (i + 1) (by omega)
    · rw [if_neg h1]
      by_cases h2 : rd xs (i : Int) = x
      · rw [if_pos h2]
        simp only [Option.bind_some, List.length_nil, List.nil_append]
        rw [if_pos (by omega)]
        exact ⟨_, rfl, by omega⟩
      · rw [if_neg h2]
        simp only [Option.bind_some, List.length_nil, List.nil_append, List.length_take, List.length_drop, List.length_append, List.length_cons]
        rw [if_pos (by omega), if_pos (by omega), if_pos (by omega), if_pos (by omega)]
        refine ⟨_, rfl, ?_⟩
        simp only [List.length_take, List.length_drop, List.length_append, List.length_cons, List.length_nil]
        omega
theorem l4Put_ex (xs : List Int) (x : Int) (hl : xs.length ≤ 1000) : ∃ ys, spec_l4Put.fv xs x = some ys ∧ ys.length ≤ xs.length + 1 := by
  rw [spec_l4Put.fv_eq]
  exact l4Put_l0 xs x hl xs.length 0 (by omega)
theorem l26Draw_l0 (m : Nat) : ∀ (l : List Int) (p r v : Int) (xs : List Int) (t : Int) (f : Bool), St l p → xs.length + m ≤ 9 →
    ∃ v' xs' t' f' p' r', spec_l26Draw.l0v (m : Int) l p r v xs t f = some (v', xs', t', f', p', r') ∧ St l p' ∧ 0 < xs'.length ∧ xs'.length ≤ 10 := by
  induction m with
  | zero =>
    intro l p r v xs t f h hx
    rw [spec_l26Draw.l0v_eq, if_neg (by omega), if_pos (by omega)]
    simp only [Option.bind_some]
    obtain ⟨b, p', r', e, h', _, _⟩ := l1Below_ex l p r ((xs ++ [100]).length : Int) h (by simp only [List.length_append, List.length_cons, List.length_nil]; omega)
    rw [e]
    exact ⟨_, _, _, _, _, _, rfl, h', by simp, by (simp only [List.length_append, List.length_cons, List.length_nil]; omega)⟩
  | succ m ih =>
    intro l p r v xs t f h hx
    rw [spec_l26Draw.l0v_eq, if_pos (by omega)]
    obtain ⟨b, p', r', e, h', _, _⟩ := l1Below_ex l p r 90 h (by decide)
    rw [e]
    simp only [Option.bind_some]
    obtain ⟨ys, ey, hy⟩ := l4Put_ex xs (wrap64 (1 + b)) (by omega)
    rw [ey]
    simp only [Option.bind_some]
    rw [w64 (by omega) (by omega), show ((m + 1 : Nat) : Int) - 1 = (m : Int) by omega]
    exact ih l p' r' v ys t f h' (by omega)
theorem l26Draw_ex (l : List Int) (p r : Int) (h : St l p) : ∃ v' xs' t' f' p' r', spec_l26Draw.fv l p r = some (v', xs', t', f', p', r') ∧ St l p' ∧ 0 < xs'.length ∧ xs'.length ≤ 10 := by
  rw [spec_l26Draw.fv_eq]
  obtain ⟨b, p1, r1, e1, h1, _, _⟩ := l1Below_ex l p r 6 h (by decide)
  rw [e1]
  simp only [Option.bind_some]
  obtain ⟨c, p2, r2, e2, h2, c0, c1⟩ := l1Below_ex l p1 r1 3 h1 (by decide)
  rw [e2]
  simp only [Option.bind_some]
  obtain ⟨n, rfl⟩ : ∃ n : Nat, c = (n : Int) := ⟨c.toNat, by omega⟩
  exact l26Draw_l0 n l p2 r2 _ [] 0 false h2 (by simp; omega)
theorem l26Any_ex (l : List Int) (p r : Int) (h : St l p) : ∃ v' xs' t' f' p' r', spec_l26Any.fv l p r = some (v', xs', t', f', p', r') ∧ St l p' ∧ xs'.length ≤ 10 := by
  rw [spec_l26Any.fv_eq]
  obtain ⟨v, xs, t, f, p1, r1, e1, h1, x0, x1⟩ := l26Draw_ex l p r h
  rw [e1]
  simp only [Option.bind_some]
  obtain ⟨b, p2, r2, e2, h2, _, _⟩ := l1Below_ex l p1 r1 10 h1 (by decide)
  rw [e2]
  simp only [Option.bind_some]
  by_cases b0 : b = 0
  · rw [if_pos b0]
    obtain ⟨c, p3, r3, e3, h3, _⟩ := l1Int_ex l p2 r2 [0, 9, 10] h2 (by simp)
    rw [e3]
    exact ⟨_, _, _, _, _, _, rfl, h3, x1⟩
  · rw [if_neg b0]
    by_cases b1 : b = 1
    · rw [if_pos b1]
      obtain ⟨c, p3, r3, e3, h3, _⟩ := l1Int_ex l p2 r2 [0, 101, 100] h2 (by simp)
      rw [e3]
      simp only [Option.bind_some]
      rw [if_pos (by omega)]
      exact ⟨_, _, _, _, _, _, rfl, h3, by simpa using x1⟩
    · rw [if_neg b1]
      by_cases b2 : b = 2
      · rw [if_pos b2]
        obtain ⟨c, p3, r3, e3, h3, _⟩ := l1Int_ex l p2 r2 [(-1), (xs.length : Int), 9223372036854775807] h2 (by simp)
        rw [e3]
        exact ⟨_, _, _, _, _, _, rfl, h3, x1⟩
      · rw [if_neg b2]
        by_cases b3 : b = 3
        · rw [if_pos b3]
          exact ⟨_, _, _, _, _, _, rfl, h2, x1⟩
        · rw [if_neg b3]
          by_cases b4 : b = 4
          · rw [if_pos b4]
            exact ⟨_, _, _, _, _, _, rfl, h2, by simp⟩
          · rw [if_neg b4]
            exact ⟨_, _, _, _, _, _, rfl, h2, x1⟩
end Go.Proofs.Ytlcmkgbabffmeaa.Plain
