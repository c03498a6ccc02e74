/- FnDamage: whatever the bytes that the law draws from, no more are hurt than the stages passed reach, and what SafeStages returns does no more than so much harm. No condition. -/
import Derived.Test.YtlcmkgbabffmeaaHurts
import Derived.Test.YtlcmkgbabffmeaaPassed
import Derived.Test.YtlcmkgbabffmeaaStageAfter
import Derived.Test.YtlcmkgbabffmeaaSafeShape
import Derived.Test.YtlcmkgbabffmeaaSpecCountIn
import Derived.Test.YtlcmkgbabffmeaaRollDraw
import Derived.Test.YtlcmkgbabffmeaaLim7
import Derived.Test.YtlcmkgbabffmeaaLim5
import Derived.Test.YtlcmkgbabffmeaaLim6
import Derived.Test.YtlcmkgbabffmeaaPrint2
set_option linter.unusedSimpArgs false
set_option linter.unusedVariables false
namespace Go.Proofs.Ytlcmkgbabffmeaa.Pure
open Go.RowKit Go.Proofs.YtlcmkgbabffmeaaW.PrintWords Go.Proofs.YtlcmkgbabffmeaaW.PrintMore Go.Proofs.Ytlcmkgbabffmeaa.Base Go.Proofs.Ytlcmkgbabffmeaa.Print Go.Proofs.Ytlcmkgbabffmeaa.Plain

theorem d_safe (x y : Int) : ∃ r, impl_SafeStages.fv x y = some r ∧ r.length ≤ 5 ∧ (r ≠ [] → isR 1 r 0 = true ∧ (r.length ≠ 1 → cnt 1 r 0 false x ≤ y)) := by
  rw [impl_SafeStages.fv_eq]
  simp only [Option.bind_some, inRange_f, impl_SafeStages.j0v_eq]
  cases hx : inR 1 10000 x with
  | false => exact ⟨[], by simp, by simp, fun h => absurd rfl h⟩
  | true =>
    by_cases hy : y < 0
    · exact ⟨[], by simp [hy], by simp, fun h => absurd rfl h⟩
    · have hin := inR_true.mp hx
      obtain ⟨k0, k1, k2⟩ := lastOkI_in x y 100
      obtain ⟨ys, e, e1, e2, e3, e4⟩ := safeI_l1 4 [] (lastOkI x y 100) 0 rfl (by omega) (by omega) (by omega) (by omega)
      have hl := implSafeI_l0 x y [] 100 0 (by omega)
      refine ⟨ys ++ [100], ?_, by simp; omega, fun _ => ?_⟩
      · simp only [hy, if_true, decide_false, Bool.false_eq_true, if_false]
        rw [← List.nil_append (ys ++ [100]), ← e, ← hl]
        rfl
      · have hr : isR 1 (ys ++ [100]) 0 = true := by
          simp only [isR, isTail, Bool.and_eq_true, inR_true, decide_eq_true_eq, e2, true_and]
          refine ⟨by omega, ?_, ?_, by omega, by simp only [List.length_append, List.length_cons, List.length_nil]; omega⟩
          · simp only [List.length_append, List.length_cons, List.length_nil]
            omega
          · have : ((((ys ++ [100]).length : Nat) : Int) - 1) = (ys.length : Int) := by
              simp only [List.length_append, List.length_cons, List.length_nil]
              omega
            rw [this]
            exact rd_mid ys [] 100
        refine ⟨hr, fun hn => ?_⟩
        have hys : ys ≠ [] := by
          intro h
          exact hn (by simp [h])
        have hk : 0 < lastOkI x y 100 ∧ lastOkI x y 100 < 100 := by
          by_cases hc : 0 < lastOkI x y 100 ∧ lastOkI x y 100 < 100
          · exact hc
          · exact absurd (e4 hc) hys
        obtain ⟨zs, rfl⟩ := e3 (by decide) hk.1 hk.2
        have h0 : rd (lastOkI x y 100 :: zs ++ [100]) 0 = lastOkI x y 100 := by simp [rd]
        have hin2 : inR 0 10000 x = true := inR_true.mpr (by omega)
        rw [cnt, hr, hin2, if_pos (by rfl), h0]
        exact k2 hk.1
theorem d_j2 (l : List Int) (hl : l.length ≤ 1000000000000) : laws_FnDamage.j2v l false = some true := by
  rw [laws_FnDamage.j2v_eq, if_neg (by simp), spec_DrawSafeStages.fv_eq]
  obtain ⟨r, en, hn⟩ := l1New_ex l hl
  obtain ⟨a, p1, r1, e1, h1, _⟩ := l1Int_ex l 0 r [1, 7, 50, 1000, 10000, 0, 10001] hn (by simp)
  obtain ⟨b, p2, r2, e2, h2, _⟩ := l1Int_ex l p1 r1 [0, 1, 3, 10, 500, 10000, (-1), 9223372036854775807] h1 (by simp)
  obtain ⟨s, es, sl, hs⟩ := d_safe a b
  simp only [en, Option.bind_some, e1, e2, es]
  by_cases h0 : (s.length : Int) = 0
  · rw [if_pos h0]
  · rw [if_neg h0]
    obtain ⟨g1, g2⟩ := hs (by
      intro h
      exact h0 (by simp [h]))
    rw [implIsR_v 1 s 0 false (by omega), g1]
    simp only [Option.bind_some, if_true]
    by_cases h1 : (s.length : Int) = 1
    · rw [if_pos h1]
    · rw [if_neg h1, implCountIn_v 1 s 0 false a (by omega)]
      have := g2 (by omega)
      simp [this]
/-- How many of the signals go on. -/
def ups : List Int → Int
  | [] => 0
  | x :: xs => (if x = 1 then 1 else 0) + ups xs
theorem ups_in (xs : List Int) : 0 ≤ ups xs ∧ ups xs ≤ xs.length := by
  induction xs with
  | nil => simp [ups]
  | cons x xs ih =>
    simp only [ups, List.length_cons]
    split <;> omega
theorem sig_up (v : Int) (l : List Int) (s : Int × Bool) (x : Int) (h0 : 0 ≤ s.1) : (sigAt v l s x).1 ≤ s.1 + (if x = 1 then 1 else 0) := by
  unfold sigAt
  split
  · show nextAt v l s.1 s.2 ≤ _
    unfold nextAt
    split <;> omega
  · split
    · show backAt v l s.1 s.2 ≤ _
      unfold backAt
      split <;> omega
    · omega
theorem top_up {v : Int} {l : List Int} (xs : List Int) : ∀ (s : Int × Bool) (h : Int), isR v l s.1 = true → topF v l s h xs ≤ mx h (s.1 + ups xs) := by
  induction xs with
  | nil =>
    intro s h _
    unfold topF mx
    split <;> omega
  | cons x xs ih =>
    intro s h hs
    have h1 := isR_facts hs
    have h2 := sig_up v l s x (by omega)
    have h3 := ups_in xs
    refine Int.le_trans (ih _ _ (isR_sig x hs)) ?_
    simp only [ups]
    generalize ups xs = u at h3
    unfold mx
    split <;> split <;> split <;> omega
/-- The last stage is on the way. -/
theorem last_top (v : Int) (l : List Int) (xs : List Int) : ∀ (s : Int × Bool) (h : Int), s.1 ≤ h → (sigsAt v l s xs).1 ≤ topF v l s h xs := by
  induction xs with
  | nil =>
    intro s h hh
    exact hh
  | cons x xs ih =>
    intro s h _
    refine ih _ _ ?_
    unfold mx
    split <;> omega
theorem sig_off (v : Int) (l : List Int) (t x : Int) : (sigAt v l (t, true) x).2 = true := by
  unfold sigAt
  split
  · rfl
  · split
    · show backOff v l t true = true
      simp [backOff]
    · rfl
theorem sigs_off (v : Int) (l : List Int) (xs : List Int) : ∀ s : Int × Bool, s.2 = true → (sigsAt v l s xs).2 = true := by
  induction xs with
  | nil =>
    intro s h
    exact h
  | cons x xs ih =>
    rintro ⟨t, f⟩ h
    have hf : f = true := h
    subst hf
    exact ih _ (sig_off v l t x)
theorem d_l0 (l0 : List Int) (v : Int) (l : List Int) (t : Int) (f : Bool) (suf : List Int) : ∀ (pre : List Int) (u : Int), (pre ++ suf).length ≤ 1000000000000 → 0 ≤ u → u ≤ pre.length →
    laws_FnDamage.l0v l0 (pre ++ suf) u (pre.length : Int) v l t f = laws_FnDamage.l0v l0 (pre ++ suf) (u + ups suf) ((pre ++ suf).length : Int) v l t f := by
  induction suf with
  | nil =>
    intro pre u _ _ _
    simp [ups]
  | cons x suf ih =>
    intro pre u hl h0 h1
    have hn : pre.length < (pre ++ x :: suf).length := by simp
    rw [laws_FnDamage.l0v_eq, if_pos (lt_mid pre suf x), if_pos (by omega), rd_mid, up_mid pre x hn hl, w64 (x := u + 1) (by omega) (by omega)]
    rw [mid_snoc pre suf x] at hl ⊢
    have hlen : ((pre ++ [x]).length : Int) = (pre.length : Int) + 1 := by simp
    by_cases hx : x = 1
    · rw [if_pos hx, ih (pre ++ [x]) (u + 1) hl (by omega) (by omega)]
      simp only [ups, hx, if_true, Int.add_assoc]
    · rw [if_neg hx, ih (pre ++ [x]) u hl h0 (by omega)]
      simp only [ups, hx, if_false, Int.zero_add]
theorem d_end (l0 : List Int) (h0 : l0.length ≤ 1000000000000) (v : Int) (l : List Int) (t : Int) (f : Bool) (xs : List Int) (hl : l.length ≤ 10) (hx : xs.length ≤ 1000) :
    laws_FnDamage.l0v l0 xs (ups xs) (xs.length : Int) v l t f = some true := by
  have hu := ups_in xs
  rw [laws_FnDamage.l0v_eq, if_neg (by omega), implAfter_v v l t f xs (by omega) (by omega), implPassed_v v l t f xs (by omega) (by omega), implIsR_v v l t f (by omega)]
  simp only [Option.bind_some]
  by_cases h : isR v l t = true
  · have hf := isR_facts h
    have hs := isR_sigs xs (t, f) h
    have hsf := isR_facts hs
    have t1 := le_topF (v := v) (l := l) xs (t, f) t
    have t2 := topF_le (v := v) (l := l) ((l.length : Int) - 1) (by omega) xs (t, f) t h (by omega)
    have t3 := top_up (v := v) (l := l) xs (t, f) t h
    have t4 := last_top v l xs (t, f) t (Int.le_refl _)
    have t5 : mx t (t + ups xs) = t + ups xs := by
      unfold mx
      split <;> omega
    have hp : passed v l t f xs = topF v l (t, f) t xs + 1 := by rw [passed, h, if_pos rfl]
    rw [t5] at t3
    rw [if_pos h, implIsR_v _ _ _ _ (by omega)]
    simp only [Option.bind_some, hs, if_true]
    rw [hp, if_neg (by omega), w64 (x := t + 1) (by omega) (by omega), w64 (x := t + 1 + ups xs) (by omega) (by omega), if_neg (by omega), implCountIn_v _ _ _ _ _ (by omega)]
    obtain ⟨m, em, m0, hm⟩ := mostI_ex v l t f 50 (topF v l (t, f) t xs + 1) h (by omega) (by omega) (by omega)
    rw [em]
    simp only [Option.bind_some]
    have hc : cnt v l (sigsAt v l (t, f) xs).1 (sigsAt v l (t, f) xs).2 50 ≤ m := by
      cases ho : (sigsAt v l (t, f) xs).2 with
      | true =>
        rw [cnt_out (by simp)]
        exact m0
      | false =>
        have hff : f = false := by
          cases f with
          | false => rfl
          | true =>
            have := sigs_off v l xs (t, true) rfl
            rw [this] at ho
            cases ho
        subst hff
        exact hm _ (by omega) (by omega)
    rw [show decide (cnt v l (sigsAt v l (t, f) xs).1 (sigsAt v l (t, f) xs).2 50 > m) = false by simp; omega]
    exact d_j2 l0 h0
  · rw [if_neg h]
    exact d_j2 l0 h0
theorem signals_l0 (m : Nat) : ∀ (xs l : List Int) (p r : Int), St l p → xs.length + m ≤ 1000 → ∃ ys p' r', spec_l27Signals.l0v xs (m : Int) l p r = some (ys, p', r') ∧ St l p' ∧ ys.length ≤ 1000 := by
  induction m with
  | zero =>
    intro xs l p r h hx
    rw [spec_l27Signals.l0v_eq, if_neg (by omega)]
    exact ⟨_, _, _, rfl, h, by omega⟩
  | succ m ih =>
    intro xs l p r h hx
    rw [spec_l27Signals.l0v_eq, if_pos (by omega)]
    obtain ⟨b, p', r', e, h', _⟩ := l1Int_ex l p r [0, 1, 1, 1, 2, 3] h (by simp)
    rw [e]
    simp only [Option.bind_some]
    rw [if_pos (by omega), w64 (by omega) (by omega), show ((m + 1 : Nat) : Int) - 1 = (m : Int) by omega]
    exact ih _ l p' r' h' (by simp; omega)
theorem signals_ex (l : List Int) (p r : Int) (h : St l p) : ∃ ys p' r', spec_l27Signals.fv l p r = some (ys, p', r') ∧ St l p' ∧ ys.length ≤ 1000 := by
  rw [spec_l27Signals.fv_eq]
  obtain ⟨b, p', r', e, h', b0, b1⟩ := l1Below_ex l p r 6 h (by decide)
  rw [e]
  simp only [Option.bind_some]
  obtain ⟨n, rfl⟩ : ∃ n : Nat, b = (n : Int) := ⟨b.toNat, by omega⟩
  exact signals_l0 n [] l p' r' h' (by simp; omega)
theorem d_j0 (l0 : List Int) (h0 : l0.length ≤ 1000000000000) : laws_FnDamage.j0v l0 false = some true := by
  rw [laws_FnDamage.j0v_eq, if_neg (by simp), spec_DrawStageAfter.fv_eq]
  obtain ⟨r, en, hn⟩ := l1New_ex l0 h0
  obtain ⟨v, l, t, f, p1, r1, e1, h1, hl⟩ := l26Any_ex l0 0 r hn
  obtain ⟨xs, p2, r2, e2, h2, hx⟩ := signals_ex l0 p1 r1 h1
  simp only [en, Option.bind_some, e1, e2]
  have h := d_l0 l0 v l t f xs [] 0 (by simp; omega) (by omega) (by simp)
  simp only [List.nil_append, List.length_nil, Int.natCast_zero, Int.zero_add] at h
  rw [h]
  exact d_end l0 h0 v l t f xs hl hx
theorem bools_l0 (m : Nat) : ∀ (i : Nat) (xs : List Bool) (l : List Int) (p r v : Int) (s : List Int) (t : Int) (f : Bool), St l p → i + m ≤ 1000 → xs.length = i →
    ∃ n ys, spec_DrawHurtAt.l0v ((i + m : Nat) : Int) xs (i : Int) l p r v s t f = some (v, s, t, f, n, ys) ∧ ys.length ≤ 1000 := by
  induction m with
  | zero =>
    intro i xs l p r v s t f h hi hx
    rw [spec_DrawHurtAt.l0v_eq, if_neg (by omega)]
    obtain ⟨b, p', r', e, h'⟩ := l1Once_ex l p r 8 h (by decide)
    rw [e]
    simp only [Option.bind_some]
    cases b with
    | true => exact ⟨_, _, by rw [if_pos rfl], by omega⟩
    | false => exact ⟨_, _, by rw [if_neg (by simp)], by omega⟩
  | succ m ih =>
    intro i xs l p r v s t f h hi hx
    have e1 : wrap64 ((i : Int) + 1) = ((i + 1 : Nat) : Int) := by
      rw [w64 (by omega) (by omega)]
      omega
    rw [spec_DrawHurtAt.l0v_eq, if_pos (by omega)]
    obtain ⟨b, p', r', e, h'⟩ := l1Once_ex l p r 2 h (by decide)
    rw [e]
    simp only [Option.bind_some]
    rw [if_pos (by omega), e1, show i + (m + 1) = i + 1 + m by omega]
    exact ih (i + 1) _ l p' r' v s t f h' (by omega) (by simp [hx])

theorem FnDamage : laws_FnDamage.Pure := by
  intro l0 _ _ _
  refine ends (g := fun k => laws_FnDamage.f k l0) ?_
  show laws_FnDamage.fv l0 = some true
  rw [laws_FnDamage.fv_eq]
  unfold laws_big.f
  simp only [Option.bind_some, decide_eq_true_eq]
  split
  · rfl
  · have h0 : l0.length ≤ 1000000000000 := by omega
    have hj := d_j0 l0 h0
    obtain ⟨r, en, hn⟩ := l1New_ex l0 h0
    obtain ⟨v, l, t, f, p1, r1, e1, h1, hl⟩ := l26Any_ex l0 0 r hn
    obtain ⟨b, p2, r2, e2, h2, b0, b1⟩ := l1Below_ex l0 p1 r1 10 h1 (by decide)
    obtain ⟨m, rfl⟩ : ∃ m : Nat, b = (m : Int) := ⟨b.toNat, by omega⟩
    obtain ⟨n, bs, e3, hb⟩ := bools_l0 m 0 [] l0 p2 r2 v l t f h2 (by omega) rfl
    rw [Nat.zero_add, Int.natCast_zero] at e3
    obtain ⟨hr, eh, hh⟩ := hurtI_ex v l t f n bs (by omega) (by omega)
    rw [spec_DrawHurtAt.fv_eq, en]
    simp only [Option.bind_some, e1, e2, e3, eh, implCountIn_v v l t f n (by omega : l.length ≤ 1000000000000), specCountIn_v v l t f n (by omega), if_true]
    rw [if_neg (by omega), implIsR_v v l t f (by omega)]
    simp only [Option.bind_some]
    by_cases h : isR v l t = true
    · have hf := isR_facts h
      obtain ⟨mo, em, m0, hm⟩ := mostI_ex v l t f n (t + 1) h (by omega) (by omega) (by omega)
      have hc := hm t (by omega) (by omega)
      rw [if_pos h, w64 (by omega) (by omega), em]
      simp only [Option.bind_some]
      rw [show decide (hr > mo) = false by simp; omega]
      exact hj
    · rw [if_neg h]
      exact hj
end Go.Proofs.Ytlcmkgbabffmeaa.Pure
