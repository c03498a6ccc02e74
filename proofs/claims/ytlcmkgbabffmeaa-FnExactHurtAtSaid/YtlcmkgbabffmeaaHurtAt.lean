/- HurtAt, of the program and of the reference, and the law's helpers on slices of Bools. Condition: the stages and the Bools are at most 10 to the 12. -/
import Derived.Test.YtlcmkgbabffmeaaCountIn
import Derived.Test.YtlcmkgbabffmeaaLim10
set_option linter.unusedSimpArgs false
set_option linter.unusedVariables false
namespace Go.Proofs.Ytlcmkgbabffmeaa.Plain
open Go.RowKit Go.Proofs.YtlcmkgbabffmeaaW.PrintWords Go.Proofs.Ytlcmkgbabffmeaa.Base Go.Proofs.Ytlcmkgbabffmeaa.Print

theorem rdOf_mid (pre suf : List Bool) (x : Bool) : rdOf false (pre ++ x :: suf) (pre.length : Int) = x := by simp [rdOf]
theorem toBoolS_l0 (suf : List Bool) : ∀ (pre rest : List Bool), rest.length = suf.length → (pre ++ suf).length ≤ 1000000000000 → laws_toBoolS.l0v (pre ++ suf) (pre ++ rest) (pre.length : Int) = some (pre ++ suf) := by
  induction suf with
  | nil =>
    intro pre rest hr _
    rw [laws_toBoolS.l0v_eq, if_neg (nlt_end pre)]
    simp at hr
    rw [hr]
  | cons x suf ih =>
    intro pre rest hr hl
    cases rest with
    | nil => simp at hr
    | cons y rest =>
      have hn : pre.length < (pre ++ x :: suf).length := by simp
      rw [laws_toBoolS.l0v_eq, if_pos (lt_mid pre suf x), if_pos (by omega), if_pos (lt_mid pre rest y), rdOf_mid, set_mid, up_mid pre x hn hl]
      rw [mid_snoc pre suf x] at hl ⊢
      have h1 := ih (pre ++ [x]) rest (by simpa using hr) hl
      simp only [List.length_append, List.length_cons, List.length_nil] at h1 ⊢
      exact h1
theorem toBoolS_v (l : List Bool) (hl : l.length ≤ 1000000000000) : laws_toBoolS.fv l = some l := by
  rw [laws_toBoolS.fv_eq, if_pos (by omega), if_pos (by omega)]
  have h := toBoolS_l0 l [] (List.replicate ((l.length : Int) : Int).toNat false) (by simp) (by simpa using hl)
  simpa using h
theorem eqBoolS_l0 (sa : List Bool) : ∀ (pre sb : List Bool), sb.length = sa.length → (pre ++ sa).length ≤ 1000000000000 → laws_eqBoolS.l0v (pre ++ sa) (pre ++ sb) (pre.length : Int) = some (decide (sa = sb)) := by
  induction sa with
  | nil =>
    intro pre sb hr _
    rw [laws_eqBoolS.l0v_eq, if_neg (nlt_end pre)]
    simp at hr
    simp [hr]
  | cons x sa ih =>
    intro pre sb hr hl
    cases sb with
    | nil => simp at hr
    | cons y sb =>
      have hn : pre.length < (pre ++ x :: sa).length := by simp
      rw [laws_eqBoolS.l0v_eq, if_pos (lt_mid pre sa x), if_pos (by omega), if_pos (lt_mid pre sb y), rdOf_mid, rdOf_mid, up_mid pre x hn hl]
      by_cases hxy : x = y
      · subst hxy
        rw [if_neg (by simp)]
        rw [mid_snoc pre sa x] at hl ⊢
        rw [mid_snoc pre sb x]
        rw [ih (pre ++ [x]) sb (by simpa using hr) hl]
        simp
      · rw [if_pos (by simpa using hxy)]
        simp [hxy]
theorem eqBoolS_v (a b : List Bool) (hl : a.length ≤ 1000000000000) : laws_eqBoolS.fv a b = some (decide (a = b)) := by
  rw [laws_eqBoolS.fv_eq]
  by_cases h : a.length = b.length
  · rw [if_pos (by omega)]
    have h1 := eqBoolS_l0 a [] b h.symm (by simpa using hl)
    simpa using h1
  · rw [if_neg (by omega)]
    have : a ≠ b := fun e => h (by rw [e])
    simp [this]
/-- How many of those from i on are in and hurt. -/
def hurtF (v : Int) (l : List Int) (t : Int) (f : Bool) (n : Int) : List Bool → Int → Int → Int
  | [], _, h => h
  | b :: bs, i, h => hurtF v l t f n bs (i + 1) (if isIn v l t f i n && b then wrap64 (h + 1) else h)
theorem specHurt_l0 (v : Int) (l : List Int) (t : Int) (f : Bool) (n : Int) (hl : l.length ≤ 1000000000000) (suf : List Bool) : ∀ (pre : List Bool) (h : Int), n = ((pre ++ suf).length : Int) → (pre ++ suf).length ≤ 1000000000000 →
    spec_HurtAt.l0v n (pre ++ suf) h (pre.length : Int) v l t f = some (hurtF v l t f n suf (pre.length : Int) h) := by
  induction suf with
  | nil =>
    intro pre h he _
    rw [spec_HurtAt.l0v_eq, if_neg (by rw [he]; exact nlt_end pre), spec_HurtAt.j1v_eq]
    rfl
  | cons x suf ih =>
    intro pre h he hl2
    have hn : pre.length < (pre ++ x :: suf).length := by simp
    rw [spec_HurtAt.l0v_eq, if_pos (by rw [he]; exact lt_mid pre suf x), spec_HurtAt.j1v_eq, show (n == ((pre ++ x :: suf).length : Int)) = true by simp [he], if_pos rfl, specIsIn_v v l t f _ n hl]
    simp only [Option.bind_some, show (0 : Int) ≤ (pre.length : Int) by omega, lt_mid pre suf x, if_true, rdOf_mid, up_mid pre x hn hl2]
    rw [mid_snoc pre suf x] at hl2 he ⊢
    rw [ih (pre ++ [x]) _ he hl2, ih (pre ++ [x]) _ he hl2, hurtF]
    simp only [List.length_append, List.length_cons, List.length_nil]
    cases isIn v l t f (pre.length : Int) n <;> cases x <;> simp
theorem implHurt_l0 (v : Int) (l : List Int) (t : Int) (f : Bool) (n : Int) (hl : l.length ≤ 1000000000000) (suf : List Bool) : ∀ (pre : List Bool) (h : Int), (pre ++ suf).length ≤ 1000000000000 →
    impl_HurtAt.l0v n h (pre ++ suf) ((pre ++ suf).length : Int) (pre.length : Int) v l t f = some (hurtF v l t f n suf (pre.length : Int) h) := by
  induction suf with
  | nil =>
    intro pre h _
    rw [impl_HurtAt.l0v_eq, if_neg (nlt_end pre)]
    rfl
  | cons x suf ih =>
    intro pre h hl2
    have hn : pre.length < (pre ++ x :: suf).length := by simp
    rw [impl_HurtAt.l0v_eq, if_pos (lt_mid pre suf x), if_pos (by omega), if_pos (lt_mid pre suf x), rdOf_mid, implIsIn_v v l t f _ n hl, up_mid pre x hn hl2]
    simp only [Option.bind_some]
    rw [mid_snoc pre suf x] at hl2 ⊢
    rw [ih (pre ++ [x]) _ hl2, ih (pre ++ [x]) _ hl2, hurtF]
    simp only [List.length_append, List.length_cons, List.length_nil]
    cases isIn v l t f (pre.length : Int) n <;> cases x <;> simp
/-- How many of n are in and hurt. -/
def hurtAt (v : Int) (l : List Int) (t : Int) (f : Bool) (n : Int) (bs : List Bool) : Int := if n = (bs.length : Int) then hurtF v l t f n bs 0 0 else 0
theorem specHurtAt_v (v : Int) (l : List Int) (t : Int) (f : Bool) (n : Int) (bs : List Bool) (hl : l.length ≤ 1000000000000) (hb : bs.length ≤ 1000000000000) : spec_HurtAt.fv v l t f n bs = some (hurtAt v l t f n bs) := by
  rw [spec_HurtAt.fv_eq]
  unfold hurtAt
  by_cases h : n = (bs.length : Int)
  · rw [if_pos h]
    simpa using specHurt_l0 v l t f n hl bs [] 0 (by simpa using h) (by simpa using hb)
  · rw [if_neg h, spec_HurtAt.l0v_eq, show (n == (bs.length : Int)) = false by simpa using h]
    simp [spec_HurtAt.j1v_eq]
theorem implHurtAt_v (v : Int) (l : List Int) (t : Int) (f : Bool) (n : Int) (bs : List Bool) (hl : l.length ≤ 1000000000000) (hb : bs.length ≤ 1000000000000) : impl_HurtAt.fv v l t f n bs = some (hurtAt v l t f n bs) := by
  rw [impl_HurtAt.fv_eq]
  unfold hurtAt
  by_cases h : n = (bs.length : Int)
  · rw [if_pos h, if_pos h]
    simpa using implHurt_l0 v l t f n hl bs [] 0 (by simpa using hb)
  · rw [if_neg h, if_neg h]
end Go.Proofs.Ytlcmkgbabffmeaa.Plain
