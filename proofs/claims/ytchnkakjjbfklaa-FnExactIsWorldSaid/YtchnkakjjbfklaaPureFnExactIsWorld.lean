/- FnExactIsWorld: whatever the world, the program's IsWorld and the reference's IsWorld return the same and leave the world as it was. No condition. -/
import Derived.Test.YtchnkakjjbfklaaLimsFnExactIsWorld
import Derived.Test.YtchnkakjjbfklaaPrint1
import Derived.Test.YtchnkakjjbfklaaPrint0
import Derived.Test.YtchnkakjjbfklaaPrint11
import Derived.Test.YtchnkakjjbfklaaPrint6
import Derived.Test.YtchnkakjjbfklaaPrint12
import Derived.Test.YtchnkakjjbfklaaPrint8
/- Lists read by a whole number's index, and whole numbers that fit. No condition. -/
set_option linter.unusedSimpArgs false
set_option linter.unusedVariables false
namespace Go.Proofs.Ytchnkakjjbfklaa.Plain
open Go.RowKit Go.Proofs.YtchnkakjjbfklaaW.PrintWords

theorem w64 {x : Int} (h0 : -9223372036854775808 ≤ x) (h1 : x ≤ 9223372036854775807) : wrap64 x = x := by
  unfold wrap64
  omega
theorem rd_mid (pre suf : List Int) (x : Int) : rd (pre ++ x :: suf) (pre.length : Int) = x := by simp [rd]
theorem lt_mid {α : Type} (pre suf : List α) (x : α) : (pre.length : Int) < ((pre ++ x :: suf).length : Int) := by
  simp
  omega
theorem nlt_end {α : Type} (pre : List α) : ¬ (pre.length : Int) < ((pre ++ []).length : Int) := by simp
theorem up_mid {α : Type} (pre : List α) (x : α) {n : Nat} (h : pre.length < n) (hn : n ≤ 1000000000000) : wrap64 ((pre.length : Int) + 1) = ((pre ++ [x]).length : Int) := by
  rw [w64 (by omega) (by omega)]
  simp
theorem set_mid {α : Type} (pre suf : List α) (x y : α) : (pre ++ x :: suf).set (pre.length : Int).toNat y = (pre ++ [y]) ++ suf := by
  rw [Int.toNat_natCast, List.set_append_right _ _ (Nat.le_refl _), Nat.sub_self]
  simp
theorem mid_snoc {α : Type} (pre suf : List α) (x : α) : pre ++ x :: suf = (pre ++ [x]) ++ suf := by simp
theorem beq_ints (a b : List Int) : (a == b) = decide (a = b) := by
  by_cases h : a = b <;> simp [h]
end Go.Proofs.Ytchnkakjjbfklaa.Plain

/- What the law's own helpers on slices of whole numbers come to: a copy, equality, marks. Condition: the slice has at most 2 to the 40 numbers. -/
set_option linter.unusedSimpArgs false
set_option linter.unusedVariables false
namespace Go.Proofs.Ytchnkakjjbfklaa.Plain
open Go.RowKit Go.Proofs.YtchnkakjjbfklaaW.PrintWords Go.Proofs.Ytchnkakjjbfklaa.Base Go.Proofs.Ytchnkakjjbfklaa.Print

theorem toIntS_l0 (suf : List Int) : ∀ (pre rest : List Int), rest.length = suf.length → (pre ++ suf).length ≤ 1000000000000 → laws_toIntS.l0v (pre ++ suf) (pre ++ rest) (pre.length : Int) = some (pre ++ suf) := by
  induction suf with
  | nil =>
    intro pre rest hr _
    rw [laws_toIntS.l0v_eq, if_neg (nlt_end pre)]
    simp at hr
    rw [hr]
  | cons x suf ih =>
    intro pre rest hr hl
    cases rest with
    | nil => simp at hr
    | cons y rest =>
      have hn : pre.length < (pre ++ x :: suf).length := by simp
      rw [laws_toIntS.l0v_eq, if_pos (lt_mid pre suf x), if_pos (by omega), if_pos (lt_mid pre rest y), rd_mid, set_mid, up_mid pre x hn hl]
      rw [mid_snoc pre suf x] at hl ⊢
      have h1 := ih (pre ++ [x]) rest (by simpa using hr) hl
      simp only [List.length_append, List.length_cons, List.length_nil] at h1 ⊢
      exact h1

theorem toIntS_v (l : List Int) (hl : l.length ≤ 1000000000000) : laws_toIntS.fv l = some l := by
  rw [laws_toIntS.fv_eq, if_pos (by omega), if_pos (by omega)]
  have h := toIntS_l0 l [] (List.replicate ((l.length : Int) : Int).toNat 0) (by simp) (by simpa using hl)
  simpa using h

theorem eqIntS_l0 (sa : List Int) : ∀ (pre sb : List Int), sb.length = sa.length → (pre ++ sa).length ≤ 1000000000000 → laws_eqIntS.l0v (pre ++ sa) (pre ++ sb) (pre.length : Int) = some (decide (sa = sb)) := by
  induction sa with
  | nil =>
    intro pre sb hr _
    rw [laws_eqIntS.l0v_eq, if_neg (nlt_end pre)]
    simp at hr
    simp [hr]
  | cons x sa ih =>
    intro pre sb hr hl
    cases sb with
    | nil => simp at hr
    | cons y sb =>
      have hn : pre.length < (pre ++ x :: sa).length := by simp
      rw [laws_eqIntS.l0v_eq, if_pos (lt_mid pre sa x), if_pos (by omega), if_pos (lt_mid pre sb y), rd_mid, rd_mid, up_mid pre x hn hl]
      by_cases hxy : x = y
      · subst hxy
        rw [if_pos rfl]
        rw [mid_snoc pre sa x] at hl ⊢
        rw [mid_snoc pre sb x]
        rw [ih (pre ++ [x]) sb (by simpa using hr) hl]
        simp
      · rw [if_neg hxy]
        simp [hxy]

theorem eqIntS_v (a b : List Int) (hl : a.length ≤ 1000000000000) : laws_eqIntS.fv a b = some (decide (a = b)) := by
  rw [laws_eqIntS.fv_eq]
  by_cases h : a.length = b.length
  · rw [if_pos (by omega)]
    have h1 := eqIntS_l0 a [] b h.symm (by simpa using hl)
    simpa using h1
  · rw [if_neg (by omega)]
    have : a ≠ b := fun e => h (by rw [e])
    simp [this]
end Go.Proofs.Ytchnkakjjbfklaa.Plain

/- What is left of a size, row by row. Condition: at most 2 to the 20 is left. -/
set_option linter.unusedSimpArgs false
set_option linter.unusedVariables false
namespace Go.Proofs.Ytchnkakjjbfklaa.Plain
open Go.RowKit Go.Proofs.YtchnkakjjbfklaaW.PrintWords Go.Proofs.Ytchnkakjjbfklaa.Base Go.Proofs.Ytchnkakjjbfklaa.Print

theorem szIntS_f (l : List Int) (n : Int) (h0 : 0 ≤ n) (h : n ≤ 1048576) (hl : l.length ≤ 1000000000000000000) : laws_szIntS.f l n = some (if n < l.length then -1 else n - l.length) := by
  unfold laws_szIntS.f
  rw [w64 (by omega) (by omega)]
  by_cases hc : n < l.length
  · rw [if_pos (by omega), if_pos hc]
  · rw [if_neg (by omega), if_neg hc]
/-- What is left of n behind the rows, each with a size of its own; -1 where they are too large. -/
def sizes {α : Type} (f : α → Nat) : List α → Int → Int
  | [], n => n
  | x :: l, n => if n < (f x : Int) then -1 else sizes f l (n - (f x : Int))
/-- The same, with one for each row. -/
def sizeOf1 {α : Type} (f : α → Nat) (l : List α) (n : Int) : Int := if n < (l.length : Int) then -1 else sizes f l (n - (l.length : Int))
theorem sizes_le {α : Type} (f : α → Nat) (l : List α) : ∀ n : Int, 0 ≤ sizes f l n → sizes f l n ≤ n ∧ ∀ x ∈ l, (f x : Int) ≤ n := by
  induction l with
  | nil =>
    intro n h
    exact ⟨Int.le_refl _, fun x hx => by cases hx⟩
  | cons y l ih =>
    intro n h
    simp only [sizes] at h ⊢
    by_cases hc : n < (f y : Int)
    · rw [if_pos hc] at h
      omega
    · rw [if_neg hc] at h ⊢
      obtain ⟨h1, h2⟩ := ih _ h
      refine ⟨by omega, fun x hx => ?_⟩
      cases hx with
      | head => omega
      | tail _ hx =>
        have := h2 x hx
        omega
theorem sizeOf1_le {α : Type} (f : α → Nat) (l : List α) (n : Int) (h : 0 ≤ sizeOf1 f l n) : sizeOf1 f l n ≤ n ∧ (l.length : Int) ≤ n ∧ ∀ x ∈ l, (f x : Int) ≤ n := by
  unfold sizeOf1 at h ⊢
  by_cases hc : n < (l.length : Int)
  · rw [if_pos hc] at h
    omega
  · rw [if_neg hc] at h ⊢
    obtain ⟨h1, h2⟩ := sizes_le f l _ h
    exact ⟨by omega, by omega, fun x hx => by
      have := h2 x hx
      omega⟩
theorem sizes_neg {α : Type} (f : α → Nat) (l : List α) : ∀ n : Int, 0 ≤ n → sizes f l n < 0 → sizes f l n = -1 := by
  induction l with
  | nil =>
    intro n h0 h
    simp only [sizes] at h
    omega
  | cons y l ih =>
    intro n h0 h
    simp only [sizes] at h ⊢
    by_cases hc : n < (f y : Int)
    · rw [if_pos hc]
    · rw [if_neg hc] at h ⊢
      exact ih _ (by omega) h
end Go.Proofs.Ytchnkakjjbfklaa.Plain

/- When two boxes, and two paths, are the same. No program. No condition. -/
set_option linter.unusedSimpArgs false
set_option linter.unusedVariables false
namespace Go.Proofs.Ytchnkakjjbfklaa.Plain
open Go.RowKit Go.Proofs.YtchnkakjjbfklaaW.PrintWords Go.Proofs.Ytchnkakjjbfklaa.Base Go.Proofs.Ytchnkakjjbfklaa.Print

theorem rdBox_mid (pre suf : List S95) (x : S95) : rd_T95 (pre ++ x :: suf) (pre.length : Int) = x := by simp [rd_T95]
/-- Its rows are not too long. -/
def okB (b : S95) : Prop := b.f1.length ≤ 1000000000000 ∧ b.f2.length ≤ 1000000000000
def eqB (a b : S95) : Bool := decide (a.f0 = b.f0) && (decide (a.f1 = b.f1) && (decide (a.f2 = b.f2) && (a.f3 == b.f3)))
def eqBs : List S95 → List S95 → Bool
  | [], [] => true
  | a :: l, b :: m => eqB a b && eqBs l m
  | _, _ => false
theorem eqBs_len {l m : List S95} : l.length ≠ m.length → eqBs l m = false := by
  induction l generalizing m with
  | nil =>
    intro h
    cases m with
    | nil => exact absurd rfl h
    | cons b m => rfl
  | cons a l ih =>
    intro h
    cases m with
    | nil => rfl
    | cons b m =>
      simp only [eqBs]
      rw [ih (by simpa using h), Bool.and_false]
end Go.Proofs.Ytchnkakjjbfklaa.Plain

/- Boxes: their sizes, copies and equality, as the law's helpers tell them. Condition: at most 10 to the 12 of each. -/
set_option linter.unusedSimpArgs false
set_option linter.unusedVariables false
namespace Go.Proofs.Ytchnkakjjbfklaa.Plain
open Go.RowKit Go.Proofs.YtchnkakjjbfklaaW.PrintWords Go.Proofs.Ytchnkakjjbfklaa.Base Go.Proofs.Ytchnkakjjbfklaa.Print

theorem rdBoxL_mid (pre suf : List S117) (x : S117) : rd_T117 (pre ++ x :: suf) (pre.length : Int) = x := by simp [rd_T117]
/-- The law's box as the program's. -/
def toB (b : S117) : S95 := ⟨b.f0, b.f1, b.f2, b.f3⟩
def szB (b : S117) : Nat := b.f1.length + b.f2.length
theorem szBox_f (a : Int) (l m : List Int) (f : Bool) (n : Int) (h0 : 0 ≤ n) (h : n ≤ 1048576) (hl : l.length ≤ 1000000000000000000) (hm : m.length ≤ 1000000000000000000) : laws_szBox.f a l m f n = some (if n < ((l.length + m.length : Nat) : Int) then -1 else n - ((l.length + m.length : Nat) : Int)) := by
  unfold laws_szBox.f
  rw [szIntS_f l n h0 h hl]
  simp only [Option.bind_some]
  by_cases hc : n < (l.length : Int)
  · rw [if_pos hc, if_pos (by omega), if_pos (by omega)]
  · rw [if_neg hc, if_neg (by omega), szIntS_f m _ (by omega) (by omega) hm]
    simp only [Option.bind_some]
    by_cases hd : n - (l.length : Int) < (m.length : Int)
    · rw [if_pos hd, if_pos (by omega), if_pos (by omega)]
    · rw [if_neg hd, if_neg (by omega), if_neg (by omega)]
      congr 1
      omega
theorem szBoxS_l0 (suf : List S117) : ∀ (pre : List S117) (n : Int), (pre ++ suf).length ≤ 1000000000000 → 0 ≤ n → n ≤ 1048576 → (∀ x ∈ suf, x.f1.length ≤ 1000000000000000000 ∧ x.f2.length ≤ 1000000000000000000) →
    laws_szBoxS.l0v (pre ++ suf) n (pre.length : Int) = some (sizes szB suf n) := by
  induction suf with
  | nil =>
    intro pre n _ _ _ _
    rw [laws_szBoxS.l0v_eq, if_neg (nlt_end pre)]
    rfl
  | cons x suf ih =>
    intro pre n hl h0 h1 hs
    have hn : pre.length < (pre ++ x :: suf).length := by simp
    have hx := hs x List.mem_cons_self
    rw [laws_szBoxS.l0v_eq, if_pos (lt_mid pre suf x), if_pos (by omega), rdBoxL_mid, szBox_f _ _ _ _ n h0 h1 hx.1 hx.2]
    simp only [Option.bind_some, sizes]
    have e : ((x.f1.length + x.f2.length : Nat) : Int) = (szB x : Int) := rfl
    rw [e]
    by_cases hc : n < (szB x : Int)
    · rw [if_pos hc, if_pos (by omega), if_pos hc]
    · rw [if_neg hc, if_neg (by omega), if_neg hc, up_mid pre x hn hl]
      rw [mid_snoc pre suf x] at hl ⊢
      exact ih (pre ++ [x]) _ hl (by omega) (by omega) (fun y hy => hs y (List.mem_cons_of_mem _ hy))
theorem szBoxS_v (l : List S117) (n : Int) (h0 : 0 ≤ n) (h1 : n ≤ 1048576) (hl : l.length ≤ 100000000000000000) (hs : ∀ x ∈ l, x.f1.length ≤ 1000000000000000000 ∧ x.f2.length ≤ 1000000000000000000) :
    laws_szBoxS.fv l n = some (sizeOf1 szB l n) := by
  rw [laws_szBoxS.fv_eq, w64 (by omega) (by omega)]
  unfold sizeOf1
  by_cases hc : n < (l.length : Int)
  · rw [if_pos (by omega), if_pos hc]
  · rw [if_neg (by omega), if_neg hc]
    have h := szBoxS_l0 l [] (n - (l.length : Int)) (by simp; omega) (by omega) (by omega) hs
    simpa using h
theorem toBox_v (a : Int) (l m : List Int) (f : Bool) (hl : l.length ≤ 1000000000000) (hm : m.length ≤ 1000000000000) : laws_toBox.fv a l m f = some (a, l, m, f) := by
  rw [laws_toBox.fv_eq, toIntS_v l hl, toIntS_v m hm]
  rfl
theorem toBoxS_l0 (suf : List S117) : ∀ (pre : List S117) (q rest : List S95), q.length = pre.length → rest.length = suf.length → (pre ++ suf).length ≤ 1000000000000 → (∀ x ∈ suf, okB (toB x)) → laws_toBoxS.l0v (pre ++ suf) (q ++ rest) (pre.length : Int) = some (q ++ suf.map toB) := by
  induction suf with
  | nil =>
    intro pre q rest _ hr _ _
    rw [laws_toBoxS.l0v_eq, if_neg (nlt_end pre)]
    simp at hr
    simp [hr]
  | cons x suf ih =>
    intro pre q rest hq hr hl hs
    cases rest with
    | nil => simp at hr
    | cons y rest =>
      have hn : pre.length < (pre ++ x :: suf).length := by simp
      have hx : x.f1.length ≤ 1000000000000 ∧ x.f2.length ≤ 1000000000000 := hs x List.mem_cons_self
      rw [laws_toBoxS.l0v_eq, if_pos (lt_mid pre suf x), if_pos (by omega), rdBoxL_mid, toBox_v _ _ _ _ hx.1 hx.2]
      simp only [Option.bind_some]
      rw [up_mid pre x hn hl, ← hq, if_pos (lt_mid q rest y), set_mid]
      rw [mid_snoc pre suf x] at hl ⊢
      rw [show (⟨x.f0, x.f1, x.f2, x.f3⟩ : S95) = toB x from rfl, ih (pre ++ [x]) (q ++ [toB x]) rest (by simp [hq]) (by simpa using hr) hl (fun y hy => hs y (List.mem_cons_of_mem _ hy))]
      simp
theorem toBoxS_v (l : List S117) (hl : l.length ≤ 1000000000000) (hs : ∀ x ∈ l, okB (toB x)) : laws_toBoxS.fv l = some (l.map toB) := by
  rw [laws_toBoxS.fv_eq, if_pos (by omega), if_pos (by omega)]
  have h := toBoxS_l0 l [] [] (List.replicate ((l.length : Int) : Int).toNat z95) rfl (by simp) (by simpa using hl) hs
  simpa using h
theorem eqBox_v (b : S95) (h : okB b) : laws_eqBox.fv b.f0 b.f1 b.f2 b.f3 b.f0 b.f1 b.f2 b.f3 = some true := by
  rw [laws_eqBox.fv_eq, if_pos rfl, eqIntS_v _ _ h.1, eqIntS_v _ _ h.2]
  first | (simp; done) | (rcases Bool.eq_false_or_eq_true b.f3 with h3 | h3 <;> simp [h3])
theorem eqBoxS_l0 (sa : List S95) : ∀ (pre : List S95), (pre ++ sa).length ≤ 1000000000000 → (∀ x ∈ sa, okB x) → laws_eqBoxS.l0v (pre ++ sa) (pre ++ sa) (pre.length : Int) = some true := by
  induction sa with
  | nil =>
    intro pre _ _
    rw [laws_eqBoxS.l0v_eq, if_neg (nlt_end pre)]
  | cons x sa ih =>
    intro pre hl hs
    have hn : pre.length < (pre ++ x :: sa).length := by simp
    rw [laws_eqBoxS.l0v_eq, if_pos (lt_mid pre sa x), if_pos (by omega), if_pos (lt_mid pre sa x), rdBox_mid, eqBox_v x (hs x List.mem_cons_self), up_mid pre x hn hl]
    simp only [Option.bind_some, if_true]
    rw [mid_snoc pre sa x] at hl ⊢
    exact ih (pre ++ [x]) hl (fun y hy => hs y (List.mem_cons_of_mem _ hy))
theorem eqBoxS_v (l : List S95) (hl : l.length ≤ 1000000000000) (hs : ∀ x ∈ l, okB x) : laws_eqBoxS.fv l l = some true := by
  rw [laws_eqBoxS.fv_eq, if_pos rfl]
  exact eqBoxS_l0 l [] (by simpa using hl) hs
end Go.Proofs.Ytchnkakjjbfklaa.Plain

/- Endpoints: their sizes, copies and equality, as the law's helpers tell them. Condition: at most 10 to the 12 of each. -/
set_option linter.unusedSimpArgs false
set_option linter.unusedVariables false
namespace Go.Proofs.Ytchnkakjjbfklaa.Plain
open Go.RowKit Go.Proofs.YtchnkakjjbfklaaW.PrintWords Go.Proofs.Ytchnkakjjbfklaa.Base Go.Proofs.Ytchnkakjjbfklaa.Print

/-- What is left of n behind an endpoint. -/
def sizeE (v t : List Int) (p : List S117) (n : Int) : Int :=
  if n < (v.length : Int) then -1 else if n - (v.length : Int) < (t.length : Int) then -1 else if sizeOf1 szB p (n - (v.length : Int) - (t.length : Int)) < 0 then -1 else sizeOf1 szB p (n - (v.length : Int) - (t.length : Int))
/-- Its rows are not too long. -/
def okE (v t : List Int) (p : List S117) : Prop := v.length ≤ 1000000000000 ∧ t.length ≤ 1000000000000 ∧ p.length ≤ 1000000000000 ∧ ∀ x ∈ p, okB (toB x)
theorem szEnd_v (v t : List Int) (p : List S117) (c n : Int) (h0 : 0 ≤ n) (h : n ≤ 1048576) (hv : v.length ≤ 1000000000000000000) (ht : t.length ≤ 1000000000000000000) (hp : p.length ≤ 100000000000000000) (hs : ∀ x ∈ p, x.f1.length ≤ 1000000000000000000 ∧ x.f2.length ≤ 1000000000000000000) : laws_szEndpoint.fv v t p c n = some (sizeE v t p n) := by
  rw [laws_szEndpoint.fv_eq, szIntS_f v n h0 h hv]
  simp only [Option.bind_some, sizeE]
  by_cases h1 : n < (v.length : Int)
  · rw [if_pos h1, if_pos (by omega), if_pos h1]
  · rw [if_neg h1, if_neg (by omega), if_neg h1, szIntS_f t _ (by omega) (by omega) ht]
    simp only [Option.bind_some]
    by_cases h2 : n - (v.length : Int) < (t.length : Int)
    · rw [if_pos h2, if_pos (by omega), if_pos h2]
    · rw [if_neg h2, if_neg (by omega), if_neg h2, szBoxS_v p _ (by omega) (by omega) hp hs]
      simp only [Option.bind_some]
      split <;> rfl
theorem sizeE_le {v t : List Int} {p : List S117} {n : Int} (h1 : n ≤ 1048576) (h : 0 ≤ sizeE v t p n) : sizeE v t p n ≤ n ∧ okE v t p := by
  unfold sizeE at h ⊢
  by_cases h2 : n < (v.length : Int)
  · rw [if_pos h2] at h
    omega
  · rw [if_neg h2] at h ⊢
    by_cases h3 : n - (v.length : Int) < (t.length : Int)
    · rw [if_pos h3] at h
      omega
    · rw [if_neg h3] at h ⊢
      by_cases h4 : sizeOf1 szB p (n - (v.length : Int) - (t.length : Int)) < 0
      · rw [if_pos h4] at h
        omega
      · rw [if_neg h4] at h ⊢
        obtain ⟨a, b, c⟩ := sizeOf1_le szB p _ h
        refine ⟨by omega, by omega, by omega, by omega, fun x hx => ?_⟩
        have h5 := c x hx
        unfold szB at h5
        exact ⟨by show x.f1.length ≤ _; omega, by show x.f2.length ≤ _; omega⟩
theorem toEnd_v (v t : List Int) (p : List S117) (c : Int) (h : okE v t p) : laws_toEndpoint.fv v t p c = some (v, t, p.map toB, c) := by
  obtain ⟨h1, h2, h3, h4⟩ := h
  rw [laws_toEndpoint.fv_eq, toIntS_v v h1, toIntS_v t h2, toBoxS_v p h3 h4]
  rfl
theorem eqEnd_v (v t : List Int) (p : List S117) (c : Int) (h : okE v t p) : laws_eqEndpoint.fv v t (p.map toB) c v t (p.map toB) c = some true := by
  obtain ⟨h1, h2, h3, h4⟩ := h
  have h5 : ∀ x ∈ p.map toB, okB x := by
    intro x hx
    obtain ⟨y, hy, rfl⟩ := List.mem_map.1 hx
    exact h4 y hy
  rw [laws_eqEndpoint.fv_eq, eqIntS_v v v h1, eqIntS_v t t h2, eqBoxS_v (p.map toB) (by rw [List.length_map]; exact h3) h5]
  simp
theorem okE_boxes {v t : List Int} {p : List S117} (h : okE v t p) : ∀ x ∈ p.map toB, okB x := by
  intro x hx
  obtain ⟨y, hy, rfl⟩ := List.mem_map.1 hx
  exact h.2.2.2 y hy
end Go.Proofs.Ytchnkakjjbfklaa.Plain

/- Sizes in all. Condition: what is left is no less than nothing. -/
set_option linter.unusedSimpArgs false
set_option linter.unusedVariables false
namespace Go.Proofs.Ytchnkakjjbfklaa.Plain
open Go.RowKit Go.Proofs.YtchnkakjjbfklaaW.PrintWords Go.Proofs.Ytchnkakjjbfklaa.Base Go.Proofs.Ytchnkakjjbfklaa.Print

/-- All sizes together. -/
def tot {α : Type} (f : α → Nat) : List α → Nat
  | [] => 0
  | x :: l => f x + tot f l
/-- What is left behind so much. -/
def less (m : Nat) (n : Int) : Int := if n < (m : Int) then -1 else n - (m : Int)
theorem sizes_tot {α : Type} (f : α → Nat) (l : List α) : ∀ n : Int, 0 ≤ n → sizes f l n = less (tot f l) n := by
  induction l with
  | nil =>
    intro n h
    have e : ((tot f ([] : List α) : Nat) : Int) = 0 := rfl
    show n = less (tot f ([] : List α)) n
    unfold less
    rw [e, if_neg (by omega)]
    omega
  | cons x l ih =>
    intro n h
    have e : ((tot f (x :: l) : Nat) : Int) = (f x : Int) + (tot f l : Int) := by simp [tot]
    rw [show less (tot f (x :: l)) n = if n < ((tot f (x :: l) : Nat) : Int) then -1 else n - ((tot f (x :: l) : Nat) : Int) from rfl, e]
    simp only [sizes]
    by_cases hc : n < (f x : Int)
    · rw [if_pos hc, if_pos (by omega)]
    · rw [if_neg hc, ih _ (by omega)]
      unfold less
      by_cases hd : n - (f x : Int) < (tot f l : Int)
      · rw [if_pos hd, if_pos (by omega)]
      · rw [if_neg hd, if_neg (by omega)]
        omega
theorem sizeOf1_tot {α : Type} (f : α → Nat) (l : List α) (n : Int) (h : 0 ≤ n) : sizeOf1 f l n = less (l.length + tot f l) n := by
  unfold sizeOf1
  by_cases hc : n < (l.length : Int)
  · rw [if_pos hc]
    unfold less
    rw [if_pos (by omega)]
  · rw [if_neg hc, sizes_tot f l _ (by omega)]
    unfold less
    by_cases hd : n - (l.length : Int) < (tot f l : Int)
    · rw [if_pos hd, if_pos (by omega)]
    · rw [if_neg hd, if_neg (by omega)]
      omega
theorem tot_le {α : Type} (f : α → Nat) {l : List α} {x : α} (h : x ∈ l) : f x ≤ tot f l := by
  induction l with
  | nil => cases h
  | cons y l ih =>
    simp only [tot]
    cases h with
    | head => omega
    | tail _ h =>
      have := ih h
      omega
theorem less_in {m : Nat} {n : Int} (h : 0 ≤ less m n) : (m : Int) ≤ n ∧ less m n = n - (m : Int) := by
  unfold less at h ⊢
  by_cases hc : n < (m : Int)
  · rw [if_pos hc] at h
    omega
  · rw [if_neg hc]
    omega
theorem less_neg {m : Nat} {n : Int} (h : less m n < 0) (h0 : 0 ≤ n) : n < (m : Int) := by
  unfold less at h
  by_cases hc : n < (m : Int)
  · exact hc
  · rw [if_neg hc] at h
    omega
/-- One size behind another. -/
theorem less_bind {m p : Nat} {n : Int} (h0 : 0 ≤ n) : (if less m n < 0 then (-1 : Int) else less p (less m n)) = less (m + p) n := by
  by_cases h : less m n < 0
  · have := less_neg h h0
    rw [if_pos h]
    unfold less
    rw [if_pos (by omega)]
  · obtain ⟨h1, h2⟩ := less_in (Int.not_lt.mp h)
    rw [if_neg h, h2]
    unfold less
    by_cases hd : n - (m : Int) < (p : Int)
    · rw [if_pos hd, if_pos (by omega)]
    · rw [if_neg hd, if_neg (by omega)]
      omega
theorem less_neg_add {m : Nat} (p : Nat) {n : Int} (h : less m n < 0) (h0 : 0 ≤ n) : (-1 : Int) = less (m + p) n := by
  have := less_neg h h0
  unfold less
  rw [if_pos (by omega)]
theorem less_add {m : Nat} (p : Nat) {n : Int} (h : ¬ less m n < 0) : less p (less m n) = less (m + p) n := by
  obtain ⟨h1, h2⟩ := less_in (Int.not_lt.mp h)
  rw [h2]
  unfold less
  by_cases hd : n - (m : Int) < (p : Int)
  · rw [if_pos hd, if_pos (by omega)]
  · rw [if_neg hd, if_neg (by omega)]
    omega
theorem szIntS_less (l : List Int) (n : Int) (h0 : 0 ≤ n) (h : n ≤ 1048576) (hl : l.length ≤ 1000000000000000000) : laws_szIntS.f l n = some (less l.length n) := szIntS_f l n h0 h hl
/-- Two rows the same, one by one. -/
def eqG {α : Type} (f : α → α → Bool) : List α → List α → Bool
  | [], [] => true
  | a :: l, b :: m => f a b && eqG f l m
  | _, _ => false
theorem eqG_len {α : Type} (f : α → α → Bool) {l m : List α} : l.length ≠ m.length → eqG f l m = false := by
  induction l generalizing m with
  | nil =>
    intro h
    cases m with
    | nil => exact absurd rfl h
    | cons b m => rfl
  | cons a l ih =>
    intro h
    cases m with
    | nil => rfl
    | cons b m =>
      simp only [eqG]
      rw [ih (by simpa using h), Bool.and_false]
end Go.Proofs.Ytchnkakjjbfklaa.Plain

/- Rows of endpoints: their sizes, copies and equality, as the law's helpers tell them. Condition: at most 10 to the 12 of each. -/
set_option linter.unusedSimpArgs false
set_option linter.unusedVariables false
namespace Go.Proofs.Ytchnkakjjbfklaa.Plain
open Go.RowKit Go.Proofs.YtchnkakjjbfklaaW.PrintWords Go.Proofs.Ytchnkakjjbfklaa.Base Go.Proofs.Ytchnkakjjbfklaa.Print

theorem rdEnd_mid (pre suf : List S50) (x : S50) : rd_T50 (pre ++ x :: suf) (pre.length : Int) = x := by simp [rd_T50]
theorem rdEndL_mid (pre suf : List S85) (x : S85) : rd_T85 (pre ++ x :: suf) (pre.length : Int) = x := by simp [rd_T85]
/-- The law's endpoint as the program's. -/
def toE (e : S85) : S50 := ⟨e.f0, e.f1, e.f2.map toB, e.f3⟩
def szE (e : S85) : Nat := e.f0.length + (e.f1.length + (e.f2.length + tot szB e.f2))
/-- Its rows are not too long. -/
def okEn (e : S50) : Prop := e.f0.length ≤ 1000000000000 ∧ e.f1.length ≤ 1000000000000 ∧ e.f2.length ≤ 1000000000000 ∧ ∀ x ∈ e.f2, okB x
/-- Its rows are of a length that the machine can hold. -/
def fitE (e : S85) : Prop := e.f0.length ≤ 1000000000000000000 ∧ e.f1.length ≤ 1000000000000000000 ∧ e.f2.length ≤ 100000000000000000 ∧ ∀ x ∈ e.f2, x.f1.length ≤ 1000000000000000000 ∧ x.f2.length ≤ 1000000000000000000
theorem okE_of {e : S85} (h : okE e.f0 e.f1 e.f2) : okEn (toE e) := by
  obtain ⟨h1, h2, h3, h4⟩ := h
  refine ⟨h1, h2, ?_, okE_boxes ⟨h1, h2, h3, h4⟩⟩
  show (e.f2.map toB).length ≤ _
  rw [List.length_map]
  exact h3
theorem sizeE_tot (e : S85) (n : Int) (h0 : 0 ≤ n) : sizeE e.f0 e.f1 e.f2 n = less (szE e) n := by
  unfold sizeE szE less
  by_cases h1 : n < (e.f0.length : Int)
  · rw [if_pos h1, if_pos (by omega)]
  · rw [if_neg h1]
    by_cases h2 : n - (e.f0.length : Int) < (e.f1.length : Int)
    · rw [if_pos h2, if_pos (by omega)]
    · rw [if_neg h2, sizeOf1_tot szB _ _ (by omega)]
      unfold less
      by_cases h3 : n - (e.f0.length : Int) - (e.f1.length : Int) < ((e.f2.length + tot szB e.f2 : Nat) : Int)
      · rw [if_pos h3, if_pos (by omega), if_pos (by omega)]
      · rw [if_neg h3, if_neg (by omega), if_neg (by omega)]
        omega
theorem szEnd_f (e : S85) (n : Int) (h0 : 0 ≤ n) (h : n ≤ 1048576) (hf : fitE e) : laws_szEndpoint.fv e.f0 e.f1 e.f2 e.f3 n = some (less (szE e) n) := by
  rw [szEnd_v e.f0 e.f1 e.f2 e.f3 n h0 h hf.1 hf.2.1 hf.2.2.1 hf.2.2.2, sizeE_tot e n h0]
theorem okE_less {e : S85} (h : (szE e : Int) ≤ 1048576) : okE e.f0 e.f1 e.f2 := by
  have h1 : 0 ≤ sizeE e.f0 e.f1 e.f2 1048576 := by
    rw [sizeE_tot e _ (by omega)]
    unfold less
    rw [if_neg (by omega)]
    omega
  exact (sizeE_le (by omega) h1).2
theorem szEndS_l0 (suf : List S85) : ∀ (pre : List S85) (n : Int), (pre ++ suf).length ≤ 1000000000000 → 0 ≤ n → n ≤ 1048576 → (∀ x ∈ suf, fitE x) →
    laws_szEndpointS.l0v (pre ++ suf) n (pre.length : Int) = some (sizes szE suf n) := by
  induction suf with
  | nil =>
    intro pre n _ _ _ _
    rw [laws_szEndpointS.l0v_eq, if_neg (nlt_end pre)]
    rfl
  | cons x suf ih =>
    intro pre n hl h0 h1 hs
    have hn : pre.length < (pre ++ x :: suf).length := by simp
    rw [laws_szEndpointS.l0v_eq, if_pos (lt_mid pre suf x), if_pos (by omega), rdEndL_mid, szEnd_f x n h0 h1 (hs x List.mem_cons_self)]
    simp only [Option.bind_some, sizes, less]
    by_cases hc : n < (szE x : Int)
    · rw [if_pos hc, if_pos (by omega), if_pos hc]
    · rw [if_neg hc, if_neg (by omega), if_neg hc, up_mid pre x hn hl]
      rw [mid_snoc pre suf x] at hl ⊢
      exact ih (pre ++ [x]) _ hl (by omega) (by omega) (fun y hy => hs y (List.mem_cons_of_mem _ hy))
theorem szEndS_v (l : List S85) (n : Int) (h0 : 0 ≤ n) (h1 : n ≤ 1048576) (hl : l.length ≤ 100000000000000000) (hs : ∀ x ∈ l, fitE x) :
    laws_szEndpointS.fv l n = some (less (l.length + tot szE l) n) := by
  rw [laws_szEndpointS.fv_eq, w64 (by omega) (by omega), ← sizeOf1_tot szE l n h0]
  unfold sizeOf1
  by_cases hc : n < (l.length : Int)
  · rw [if_pos (by omega), if_pos hc]
  · rw [if_neg (by omega), if_neg hc]
    have h := szEndS_l0 l [] (n - (l.length : Int)) (by simp; omega) (by omega) (by omega) hs
    simpa using h
theorem toEndS_l0 (suf : List S85) : ∀ (pre : List S85) (q rest : List S50), q.length = pre.length → rest.length = suf.length → (pre ++ suf).length ≤ 1000000000000 → (∀ x ∈ suf, okE x.f0 x.f1 x.f2) → laws_toEndpointS.l0v (pre ++ suf) (q ++ rest) (pre.length : Int) = some (q ++ suf.map toE) := by
  induction suf with
  | nil =>
    intro pre q rest _ hr _ _
    rw [laws_toEndpointS.l0v_eq, if_neg (nlt_end pre)]
    simp at hr
    simp [hr]
  | cons x suf ih =>
    intro pre q rest hq hr hl hs
    cases rest with
    | nil => simp at hr
    | cons y rest =>
      have hn : pre.length < (pre ++ x :: suf).length := by simp
      rw [laws_toEndpointS.l0v_eq, if_pos (lt_mid pre suf x), if_pos (by omega), rdEndL_mid, toEnd_v _ _ _ _ (hs x List.mem_cons_self)]
      simp only [Option.bind_some]
      rw [up_mid pre x hn hl, ← hq, if_pos (lt_mid q rest y), set_mid]
      rw [mid_snoc pre suf x] at hl ⊢
      rw [show (⟨x.f0, x.f1, x.f2.map toB, x.f3⟩ : S50) = toE x from rfl, ih (pre ++ [x]) (q ++ [toE x]) rest (by simp [hq]) (by simpa using hr) hl (fun y hy => hs y (List.mem_cons_of_mem _ hy))]
      simp
theorem toEndS_v (l : List S85) (hl : l.length ≤ 1000000000000) (hs : ∀ x ∈ l, okE x.f0 x.f1 x.f2) : laws_toEndpointS.fv l = some (l.map toE) := by
  rw [laws_toEndpointS.fv_eq, if_pos (by omega), if_pos (by omega)]
  have h := toEndS_l0 l [] [] (List.replicate ((l.length : Int) : Int).toNat z50) rfl (by simp) (by simpa using hl) hs
  simpa using h
theorem eqEndS_l0 (sa : List S85) : ∀ (pre : List S50), (pre ++ sa.map toE).length ≤ 1000000000000 → (∀ x ∈ sa, okE x.f0 x.f1 x.f2) → laws_eqEndpointS.l0v (pre ++ sa.map toE) (pre ++ sa.map toE) (pre.length : Int) = some true := by
  induction sa with
  | nil =>
    intro pre _ _
    simp only [List.map_nil]
    rw [laws_eqEndpointS.l0v_eq, if_neg (nlt_end pre)]
  | cons x sa ih =>
    intro pre hl hs
    simp only [List.map_cons] at hl ⊢
    have hn : pre.length < (pre ++ toE x :: sa.map toE).length := by simp
    have h1 := eqEnd_v x.f0 x.f1 x.f2 x.f3 (hs x List.mem_cons_self)
    rw [laws_eqEndpointS.l0v_eq, if_pos (lt_mid pre (sa.map toE) (toE x)), if_pos (by omega), if_pos (lt_mid pre (sa.map toE) (toE x)), rdEnd_mid, up_mid pre (toE x) hn hl]
    simp only [toE] at h1 ⊢
    rw [h1]
    simp only [Option.bind_some, if_true]
    rw [mid_snoc pre _ _] at hl ⊢
    exact ih _ hl (fun y hy => hs y (List.mem_cons_of_mem _ hy))
theorem eqEndS_v (l : List S85) (hl : l.length ≤ 1000000000000) (hs : ∀ x ∈ l, okE x.f0 x.f1 x.f2) : laws_eqEndpointS.fv (l.map toE) (l.map toE) = some true := by
  rw [laws_eqEndpointS.fv_eq, if_pos rfl]
  simpa using eqEndS_l0 l [] (by simpa using hl) hs
end Go.Proofs.Ytchnkakjjbfklaa.Plain

/- Dials: their sizes, copies and equality, as the law's helpers tell them. Condition: at most 10 to the 12 of each. -/
set_option linter.unusedSimpArgs false
set_option linter.unusedVariables false
namespace Go.Proofs.Ytchnkakjjbfklaa.Plain
open Go.RowKit Go.Proofs.YtchnkakjjbfklaaW.PrintWords Go.Proofs.Ytchnkakjjbfklaa.Base Go.Proofs.Ytchnkakjjbfklaa.Print

theorem rdDial_mid (pre suf : List S55) (x : S55) : rd_T55 (pre ++ x :: suf) (pre.length : Int) = x := by simp [rd_T55]
theorem rdDialL_mid (pre suf : List S89) (x : S89) : rd_T89 (pre ++ x :: suf) (pre.length : Int) = x := by simp [rd_T89]
/-- The law's dial as the program's. -/
def toD (d : S89) : S55 := ⟨⟨d.f0.f0, d.f0.f1, d.f0.f2⟩, d.f1, d.f2⟩
def szD (d : S89) : Nat := d.f0.f2.length + d.f2.length
/-- Its rows are not too long. -/
def okD (d : S55) : Prop := d.f0.f2.length ≤ 1000000000000 ∧ d.f2.length ≤ 1000000000000
theorem szDialed_f (o : Bool) (v : Int) (l : List Int) (a : Int) (m : List Int) (n : Int) (h0 : 0 ≤ n) (h : n ≤ 1048576) (hl : l.length ≤ 1000000000000000000) (hm : m.length ≤ 1000000000000000000) : laws_szDialed.f o v l a m n = some (if n < ((l.length + m.length : Nat) : Int) then -1 else n - ((l.length + m.length : Nat) : Int)) := by
  unfold laws_szDialed.f laws_szDeal.f
  rw [szIntS_f l n h0 h hl]
  simp only [Option.bind_some]
  by_cases hc : n < (l.length : Int)
  · rw [if_pos hc, if_pos (by omega)]
    simp only [Option.bind_some]
    rw [if_pos (by omega), if_pos (by omega)]
  · rw [if_neg hc, if_neg (by omega)]
    simp only [Option.bind_some]
    rw [if_neg (by omega), szIntS_f m _ (by omega) (by omega) hm]
    simp only [Option.bind_some]
    by_cases hd : n - (l.length : Int) < (m.length : Int)
    · rw [if_pos hd, if_pos (by omega), if_pos (by omega)]
    · rw [if_neg hd, if_neg (by omega), if_neg (by omega)]
      congr 1
      omega
theorem szDialedS_l0 (suf : List S89) : ∀ (pre : List S89) (n : Int), (pre ++ suf).length ≤ 1000000000000 → 0 ≤ n → n ≤ 1048576 → (∀ x ∈ suf, x.f0.f2.length ≤ 1000000000000000000 ∧ x.f2.length ≤ 1000000000000000000) →
    laws_szDialedS.l0v (pre ++ suf) n (pre.length : Int) = some (sizes szD suf n) := by
  induction suf with
  | nil =>
    intro pre n _ _ _ _
    rw [laws_szDialedS.l0v_eq, if_neg (nlt_end pre)]
    rfl
  | cons x suf ih =>
    intro pre n hl h0 h1 hs
    have hn : pre.length < (pre ++ x :: suf).length := by simp
    have hx := hs x List.mem_cons_self
    rw [laws_szDialedS.l0v_eq, if_pos (lt_mid pre suf x), if_pos (by omega), rdDialL_mid, szDialed_f _ _ _ _ _ n h0 h1 hx.1 hx.2]
    simp only [Option.bind_some, sizes]
    have e : ((x.f0.f2.length + x.f2.length : Nat) : Int) = (szD x : Int) := rfl
    rw [e]
    by_cases hc : n < (szD x : Int)
    · rw [if_pos hc, if_pos (by omega), if_pos hc]
    · rw [if_neg hc, if_neg (by omega), if_neg hc, up_mid pre x hn hl]
      rw [mid_snoc pre suf x] at hl ⊢
      exact ih (pre ++ [x]) _ hl (by omega) (by omega) (fun y hy => hs y (List.mem_cons_of_mem _ hy))
theorem szDialedS_v (l : List S89) (n : Int) (h0 : 0 ≤ n) (h1 : n ≤ 1048576) (hl : l.length ≤ 100000000000000000) (hs : ∀ x ∈ l, x.f0.f2.length ≤ 1000000000000000000 ∧ x.f2.length ≤ 1000000000000000000) :
    laws_szDialedS.fv l n = some (sizeOf1 szD l n) := by
  rw [laws_szDialedS.fv_eq, w64 (by omega) (by omega)]
  unfold sizeOf1
  by_cases hc : n < (l.length : Int)
  · rw [if_pos (by omega), if_pos hc]
  · rw [if_neg (by omega), if_neg hc]
    have h := szDialedS_l0 l [] (n - (l.length : Int)) (by simp; omega) (by omega) (by omega) hs
    simpa using h
theorem toDialed_v (o : Bool) (v : Int) (l : List Int) (a : Int) (m : List Int) (hl : l.length ≤ 1000000000000) (hm : m.length ≤ 1000000000000) : laws_toDialed.fv o v l a m = some (o, v, l, a, m) := by
  rw [laws_toDialed.fv_eq, laws_toDeal.fv_eq, toIntS_v l hl, toIntS_v m hm]
  rfl
theorem toDialedS_l0 (suf : List S89) : ∀ (pre : List S89) (q rest : List S55), q.length = pre.length → rest.length = suf.length → (pre ++ suf).length ≤ 1000000000000 → (∀ x ∈ suf, okD (toD x)) → laws_toDialedS.l0v (pre ++ suf) (q ++ rest) (pre.length : Int) = some (q ++ suf.map toD) := by
  induction suf with
  | nil =>
    intro pre q rest _ hr _ _
    rw [laws_toDialedS.l0v_eq, if_neg (nlt_end pre)]
    simp at hr
    simp [hr]
  | cons x suf ih =>
    intro pre q rest hq hr hl hs
    cases rest with
    | nil => simp at hr
    | cons y rest =>
      have hn : pre.length < (pre ++ x :: suf).length := by simp
      have hx : x.f0.f2.length ≤ 1000000000000 ∧ x.f2.length ≤ 1000000000000 := hs x List.mem_cons_self
      rw [laws_toDialedS.l0v_eq, if_pos (lt_mid pre suf x), if_pos (by omega), rdDialL_mid, toDialed_v _ _ _ _ _ hx.1 hx.2]
      simp only [Option.bind_some]
      rw [up_mid pre x hn hl, ← hq, if_pos (lt_mid q rest y), set_mid]
      rw [mid_snoc pre suf x] at hl ⊢
      rw [show (⟨⟨x.f0.f0, x.f0.f1, x.f0.f2⟩, x.f1, x.f2⟩ : S55) = toD x from rfl, ih (pre ++ [x]) (q ++ [toD x]) rest (by simp [hq]) (by simpa using hr) hl (fun y hy => hs y (List.mem_cons_of_mem _ hy))]
      simp
theorem toDialedS_v (l : List S89) (hl : l.length ≤ 1000000000000) (hs : ∀ x ∈ l, okD (toD x)) : laws_toDialedS.fv l = some (l.map toD) := by
  rw [laws_toDialedS.fv_eq, if_pos (by omega), if_pos (by omega)]
  have h := toDialedS_l0 l [] [] (List.replicate ((l.length : Int) : Int).toNat z55) rfl (by simp) (by simpa using hl) hs
  simpa using h
theorem eqDialed_v (d : S55) (h : okD d) : laws_eqDialed.fv d.f0.f0 d.f0.f1 d.f0.f2 d.f1 d.f2 d.f0.f0 d.f0.f1 d.f0.f2 d.f1 d.f2 = some true := by
  rw [laws_eqDialed.fv_eq, laws_eqDeal.fv_eq, eqIntS_v _ _ h.1, eqIntS_v _ _ h.2]
  first | (simp; done) | (rcases Bool.eq_false_or_eq_true d.f0.f0 with h3 | h3 <;> simp [h3])
theorem eqDialedS_l0 (sa : List S55) : ∀ (pre : List S55), (pre ++ sa).length ≤ 1000000000000 → (∀ x ∈ sa, okD x) → laws_eqDialedS.l0v (pre ++ sa) (pre ++ sa) (pre.length : Int) = some true := by
  induction sa with
  | nil =>
    intro pre _ _
    rw [laws_eqDialedS.l0v_eq, if_neg (nlt_end pre)]
  | cons x sa ih =>
    intro pre hl hs
    have hn : pre.length < (pre ++ x :: sa).length := by simp
    rw [laws_eqDialedS.l0v_eq, if_pos (lt_mid pre sa x), if_pos (by omega), if_pos (lt_mid pre sa x), rdDial_mid, eqDialed_v x (hs x List.mem_cons_self), up_mid pre x hn hl]
    simp only [Option.bind_some, if_true]
    rw [mid_snoc pre sa x] at hl ⊢
    exact ih (pre ++ [x]) hl (fun y hy => hs y (List.mem_cons_of_mem _ hy))
theorem eqDialedS_v (l : List S55) (hl : l.length ≤ 1000000000000) (hs : ∀ x ∈ l, okD x) : laws_eqDialedS.fv l l = some true := by
  rw [laws_eqDialedS.fv_eq, if_pos rfl]
  exact eqDialedS_l0 l [] (by simpa using hl) hs
end Go.Proofs.Ytchnkakjjbfklaa.Plain

/- Rows of logged dials: their sizes, copies and equality, as the law's helpers tell them. Condition: at most 10 to the 12 of each. -/
set_option linter.unusedSimpArgs false
set_option linter.unusedVariables false
namespace Go.Proofs.Ytchnkakjjbfklaa.Plain
open Go.RowKit Go.Proofs.YtchnkakjjbfklaaW.PrintWords Go.Proofs.Ytchnkakjjbfklaa.Base Go.Proofs.Ytchnkakjjbfklaa.Print

theorem rdLog_mid (pre suf : List S57) (x : S57) : rd_T57 (pre ++ x :: suf) (pre.length : Int) = x := by simp [rd_T57]
theorem rdLogL_mid (pre suf : List S92) (x : S92) : rd_T92 (pre ++ x :: suf) (pre.length : Int) = x := by simp [rd_T92]
/-- The law's logged dial as the program's. -/
def toLg (d : S92) : S57 := ⟨d.f0, d.f1, d.f2, toD d.f3⟩
def szLg (d : S92) : Nat := szD d.f3
def okLg (d : S57) : Prop := okD d.f3
theorem szLogS_l0 (suf : List S92) : ∀ (pre : List S92) (n : Int), (pre ++ suf).length ≤ 1000000000000 → 0 ≤ n → n ≤ 1048576 → (∀ x ∈ suf, x.f3.f0.f2.length ≤ 1000000000000000000 ∧ x.f3.f2.length ≤ 1000000000000000000) →
    laws_szLoggedS.l0v (pre ++ suf) n (pre.length : Int) = some (sizes szLg suf n) := by
  induction suf with
  | nil =>
    intro pre n _ _ _ _
    rw [laws_szLoggedS.l0v_eq, if_neg (nlt_end pre)]
    rfl
  | cons x suf ih =>
    intro pre n hl h0 h1 hs
    have hn : pre.length < (pre ++ x :: suf).length := by simp
    have hx := hs x List.mem_cons_self
    rw [laws_szLoggedS.l0v_eq, if_pos (lt_mid pre suf x), if_pos (by omega), rdLogL_mid]
    unfold laws_szLogged.f
    rw [szDialed_f _ _ _ _ _ n h0 h1 hx.1 hx.2]
    simp only [Option.bind_some, sizes]
    have e : ((x.f3.f0.f2.length + x.f3.f2.length : Nat) : Int) = (szLg x : Int) := rfl
    rw [e]
    by_cases hc : n < (szLg x : Int)
    · rw [if_pos hc, if_pos (by omega), if_pos hc]
      simp
    · rw [if_neg hc, if_neg (by omega), if_neg hc]
      simp only [Option.bind_some]
      rw [if_neg (by omega), up_mid pre x hn hl]
      rw [mid_snoc pre suf x] at hl ⊢
      exact ih (pre ++ [x]) _ hl (by omega) (by omega) (fun y hy => hs y (List.mem_cons_of_mem _ hy))
theorem szLogS_v (l : List S92) (n : Int) (h0 : 0 ≤ n) (h1 : n ≤ 1048576) (hl : l.length ≤ 100000000000000000) (hs : ∀ x ∈ l, x.f3.f0.f2.length ≤ 1000000000000000000 ∧ x.f3.f2.length ≤ 1000000000000000000) :
    laws_szLoggedS.fv l n = some (less (l.length + tot szLg l) n) := by
  rw [laws_szLoggedS.fv_eq, w64 (by omega) (by omega), ← sizeOf1_tot szLg l n h0]
  unfold sizeOf1
  by_cases hc : n < (l.length : Int)
  · rw [if_pos (by omega), if_pos hc]
  · rw [if_neg (by omega), if_neg hc]
    have h := szLogS_l0 l [] (n - (l.length : Int)) (by simp; omega) (by omega) (by omega) hs
    simpa using h
theorem toLogS_l0 (suf : List S92) : ∀ (pre : List S92) (q rest : List S57), q.length = pre.length → rest.length = suf.length → (pre ++ suf).length ≤ 1000000000000 → (∀ x ∈ suf, okLg (toLg x)) → laws_toLoggedS.l0v (pre ++ suf) (q ++ rest) (pre.length : Int) = some (q ++ suf.map toLg) := by
  induction suf with
  | nil =>
    intro pre q rest _ hr _ _
    rw [laws_toLoggedS.l0v_eq, if_neg (nlt_end pre)]
    simp at hr
    simp [hr]
  | cons x suf ih =>
    intro pre q rest hq hr hl hs
    cases rest with
    | nil => simp at hr
    | cons y rest =>
      have hn : pre.length < (pre ++ x :: suf).length := by simp
      have hx : x.f3.f0.f2.length ≤ 1000000000000 ∧ x.f3.f2.length ≤ 1000000000000 := hs x List.mem_cons_self
      rw [laws_toLoggedS.l0v_eq, if_pos (lt_mid pre suf x), if_pos (by omega), rdLogL_mid, laws_toLogged.fv_eq, toDialed_v _ _ _ _ _ hx.1 hx.2]
      simp only [Option.bind_some]
      rw [up_mid pre x hn hl, ← hq, if_pos (lt_mid q rest y), set_mid]
      rw [mid_snoc pre suf x] at hl ⊢
      rw [show (⟨x.f0, x.f1, x.f2, ⟨⟨x.f3.f0.f0, x.f3.f0.f1, x.f3.f0.f2⟩, x.f3.f1, x.f3.f2⟩⟩ : S57) = toLg x from rfl, ih (pre ++ [x]) (q ++ [toLg x]) rest (by simp [hq]) (by simpa using hr) hl (fun y hy => hs y (List.mem_cons_of_mem _ hy))]
      simp
theorem toLogS_v (l : List S92) (hl : l.length ≤ 1000000000000) (hs : ∀ x ∈ l, okLg (toLg x)) : laws_toLoggedS.fv l = some (l.map toLg) := by
  rw [laws_toLoggedS.fv_eq, if_pos (by omega), if_pos (by omega)]
  have h := toLogS_l0 l [] [] (List.replicate ((l.length : Int) : Int).toNat z57) rfl (by simp) (by simpa using hl) hs
  simpa using h
theorem eqLogS_l0 (sa : List S57) : ∀ (pre : List S57), (pre ++ sa).length ≤ 1000000000000 → (∀ x ∈ sa, okLg x) → laws_eqLoggedS.l0v (pre ++ sa) (pre ++ sa) (pre.length : Int) = some true := by
  induction sa with
  | nil =>
    intro pre _ _
    rw [laws_eqLoggedS.l0v_eq, if_neg (nlt_end pre)]
  | cons x sa ih =>
    intro pre hl hs
    have hn : pre.length < (pre ++ x :: sa).length := by simp
    rw [laws_eqLoggedS.l0v_eq, if_pos (lt_mid pre sa x), if_pos (by omega), if_pos (lt_mid pre sa x), rdLog_mid, laws_eqLogged.fv_eq, eqDialed_v x.f3 (hs x List.mem_cons_self), up_mid pre x hn hl]
    simp only [Option.bind_some, if_true, bne_self_eq_false, Bool.false_eq_true, if_false]
    rw [mid_snoc pre sa x] at hl ⊢
    rcases Bool.eq_false_or_eq_true x.f2 with h3 | h3 <;> simp only [h3, if_true, Bool.false_eq_true, if_false, Option.bind_some] <;> exact ih (pre ++ [x]) hl (fun y hy => hs y (List.mem_cons_of_mem _ hy))
theorem eqLogS_v (l : List S57) (hl : l.length ≤ 1000000000000) (hs : ∀ x ∈ l, okLg x) : laws_eqLoggedS.fv l l = some true := by
  rw [laws_eqLoggedS.fv_eq, if_pos rfl]
  exact eqLogS_l0 l [] (by simpa using hl) hs
end Go.Proofs.Ytchnkakjjbfklaa.Plain

/- Ranges, of the program and of the reference. No condition. -/
set_option linter.unusedSimpArgs false
set_option linter.unusedVariables false
namespace Go.Proofs.Ytchnkakjjbfklaa.Plain
open Go.RowKit Go.Proofs.YtchnkakjjbfklaaW.PrintWords Go.Proofs.Ytchnkakjjbfklaa.Base Go.Proofs.Ytchnkakjjbfklaa.Print

/-- lo ≤ n ≤ hi -/
def inR (lo hi n : Int) : Bool := decide (lo ≤ n) && decide (n ≤ hi)
theorem inR_true {lo hi n : Int} : inR lo hi n = true ↔ lo ≤ n ∧ n ≤ hi := by simp [inR]
theorem inR_false {lo hi n : Int} : inR lo hi n = false ↔ n < lo ∨ hi < n := by
  simp only [inR, Bool.and_eq_false_iff, decide_eq_false_iff_not]
  omega
theorem inRange_f (n lo hi : Int) : impl_InRange.f n lo hi = some (inR lo hi n) := by
  unfold impl_InRange.f inR
  by_cases h : lo ≤ n <;> simp [h]
theorem l1In_f (n lo hi : Int) : spec_l1In.f n lo hi = some (inR lo hi n) := by
  unfold spec_l1In.f inR
  by_cases h : lo ≤ n <;> simp [h]
end Go.Proofs.Ytchnkakjjbfklaa.Plain

/- IsRollout and EqualRollouts, of the program and of the reference. Condition: the stages are at most 10 to the 12. -/
set_option linter.unusedSimpArgs false
set_option linter.unusedVariables false
namespace Go.Proofs.Ytchnkakjjbfklaa.Plain
open Go.RowKit Go.Proofs.YtchnkakjjbfklaaW.PrintWords Go.Proofs.Ytchnkakjjbfklaa.Base Go.Proofs.Ytchnkakjjbfklaa.Print

/-- Shares that grow from stage to stage. -/
def rises : Int → List Int → Bool
  | _, [] => true
  | p, x :: l => inR 1 100 x && (decide (p < x) && rises x l)
/-- What else a rollout keeps. -/
def isTail (v : Int) (l : List Int) (t : Int) : Bool := inR 1 9 v && (inR 1 5 (l.length : Int) && (decide (rd l ((l.length : Int) - 1) = 100) && inR 0 ((l.length : Int) - 1) t))
def isR (v : Int) (l : List Int) (t : Int) : Bool := rises 0 l && isTail v l t

theorem rd_last (pre suf : List Int) (h : pre ≠ []) : rd (pre ++ suf) ((pre.length : Int) - 1) = pre.getLastD 0 := by
  have hl : 0 < pre.length := List.length_pos_iff.mpr h
  have e : ((pre.length : Int) - 1).toNat = pre.length - 1 := by omega
  have h1 : pre.length - 1 < pre.length := by omega
  simp [rd, e, List.getD_eq_getElem?_getD, List.getElem?_append_left h1, List.getLastD_eq_getLast?, List.getLast?_eq_getElem?]
theorem specIsR_tail (l : List Int) (hl : l.length ≤ 1000000000000) (v t : Int) (f : Bool) : spec_IsRollout.l0v (l.length : Int) v l t f = some (isTail v l t) := by
  rw [spec_IsRollout.l0v_eq, if_neg (by omega), l1In_f, l1In_f]
  simp only [Option.bind_some, isTail]
  cases inR 1 9 v with
  | false => simp
  | true =>
    cases h5 : inR 1 5 (l.length : Int) with
    | false => simp
    | true =>
      have := inR_true.mp h5
      rw [w64 (by omega) (by omega), if_pos rfl, if_pos rfl, if_pos (by omega), if_pos (by omega), l1In_f]
      by_cases h : rd l ((l.length : Int) - 1) = 100 <;> simp [h]
theorem specIsR_l0 (v t : Int) (f : Bool) (suf : List Int) : ∀ pre : List Int, (pre ++ suf).length ≤ 1000000000000 →
    spec_IsRollout.l0v (pre.length : Int) v (pre ++ suf) t f = some (rises (pre.getLastD 0) suf && isTail v (pre ++ suf) t) := by
  induction suf with
  | nil =>
    intro pre hl
    simp only [List.append_nil] at hl ⊢
    rw [specIsR_tail pre hl]
    simp [rises]
  | cons x suf ih =>
    intro pre hl
    have hn : pre.length < (pre ++ x :: suf).length := by simp
    rw [spec_IsRollout.l0v_eq, if_pos (lt_mid pre suf x), if_pos (by omega), rd_mid, l1In_f]
    simp only [Option.bind_some, rises]
    cases hx : inR 1 100 x with
    | false => simp
    | true =>
      rw [if_pos rfl, up_mid pre x hn hl]
      have h1 := ih (pre ++ [x]) (by simpa using hl)
      rw [← mid_snoc pre suf x] at h1
      rw [h1]
      have hr := inR_true.mp hx
      by_cases hp : pre = []
      · subst hp
        rw [if_neg (by simp)]
        have h0 : (0 : Int) < x := by omega
        simp [h0]
      · have hpl : 0 < pre.length := List.length_pos_iff.mpr hp
        rw [if_pos (by omega), w64 (x := (pre.length : Int) - 1) (by omega) (by omega), if_pos (by omega), if_pos (by omega), rd_last pre _ hp]
        by_cases hlt : pre.getLastD 0 < x
        · rw [if_neg (by omega)]
          generalize pre.getLastD 0 = q at hlt
          simp [hlt]
        · rw [if_pos (by omega)]
          generalize pre.getLastD 0 = q at hlt
          simp [hlt]
theorem specIsR_v (v : Int) (l : List Int) (t : Int) (f : Bool) (hl : l.length ≤ 1000000000000) : spec_IsRollout.fv v l t f = some (isR v l t) := by
  rw [spec_IsRollout.fv_eq]
  simpa [isR] using specIsR_l0 v t f l [] (by simpa using hl)
theorem implIsR_l0 (v : Int) (l : List Int) (t : Int) (f : Bool) (hb : l.length ≤ 1000000000000) (m : Nat) : ∀ i : Nat, i + m = l.length → impl_IsRollout.l0v l (l.length : Int) (i : Int) v l t f = spec_IsRollout.l0v (i : Int) v l t f := by
  induction m with
  | zero =>
    intro i hi
    rw [impl_IsRollout.l0v_eq, spec_IsRollout.l0v_eq]
    simp only [show ¬ (i : Int) < (l.length : Int) by omega, if_false, inRange_f, l1In_f]
  | succ m ih =>
    intro i hi
    rw [impl_IsRollout.l0v_eq, spec_IsRollout.l0v_eq]
    simp only [show (i : Int) < (l.length : Int) by omega, show (0 : Int) ≤ i by omega, if_true, inRange_f, l1In_f]
    have e : wrap64 ((i : Int) + 1) = ((i + 1 : Nat) : Int) := by
      rw [w64 (by omega) (by omega)]
      omega
    rw [e, ih (i + 1) (by omega)]
theorem implIsR_v (v : Int) (l : List Int) (t : Int) (f : Bool) (hl : l.length ≤ 1000000000000) : impl_IsRollout.fv v l t f = some (isR v l t) := by
  rw [impl_IsRollout.fv_eq, ← specIsR_v v l t f hl, spec_IsRollout.fv_eq]
  exact implIsR_l0 v l t f hl l.length 0 (by omega)
theorem isR_facts {v : Int} {l : List Int} {t : Int} (h : isR v l t = true) : 1 ≤ l.length ∧ l.length ≤ 5 ∧ 0 ≤ t ∧ t < l.length ∧ 1 ≤ v ∧ v ≤ 9 := by
  simp only [isR, isTail, Bool.and_eq_true, inR_true] at h
  omega
/-- Are two rollouts the same? -/
def eqR (v : Int) (l : List Int) (t : Int) (f : Bool) (v' : Int) (l' : List Int) (t' : Int) (f' : Bool) : Bool := decide (v = v') && (decide (l = l') && (decide (t = t') && (f == f')))
theorem eqR_refl (v : Int) (l : List Int) (t : Int) (f : Bool) : eqR v l t f v l t f = true := by simp [eqR]
end Go.Proofs.Ytchnkakjjbfklaa.Plain

/- The law's helpers on rollouts. Condition: the stages are at most 10 to the 12. -/
set_option linter.unusedSimpArgs false
set_option linter.unusedVariables false
namespace Go.Proofs.Ytchnkakjjbfklaa.Plain
open Go.RowKit Go.Proofs.YtchnkakjjbfklaaW.PrintWords Go.Proofs.Ytchnkakjjbfklaa.Base Go.Proofs.Ytchnkakjjbfklaa.Print

theorem toRollout_v (v : Int) (l : List Int) (t : Int) (f : Bool) (hl : l.length ≤ 1000000000000) : laws_toRollout.fv v l t f = some (v, l, t, f) := by
  rw [laws_toRollout.fv_eq, toIntS_v l hl]
  rfl
theorem eqRollout_v (v : Int) (l : List Int) (t : Int) (f : Bool) (v' : Int) (l' : List Int) (t' : Int) (f' : Bool) (hl : l.length ≤ 1000000000000) : laws_eqRollout.fv v l t f v' l' t' f' = some (eqR v l t f v' l' t' f') := by
  rw [laws_eqRollout.fv_eq, eqIntS_v l l' hl]
  simp only [Option.bind_some, eqR]
  by_cases h1 : v = v' <;> by_cases h2 : l = l' <;> by_cases h3 : t = t' <;> cases f <;> cases f' <;> simp [h1, h2, h3]
/-- A rollout's size, taken from what is left. -/
theorem szRollout_f (v : Int) (l : List Int) (t : Int) (f : Bool) (n : Int) (h0 : 0 ≤ n) (h : n ≤ 1048576) (hl : l.length ≤ 1000000000000000000) : laws_szRollout.f v l t f n = some (if n < l.length then -1 else n - l.length) := by
  unfold laws_szRollout.f
  rw [szIntS_f l n h0 h hl]
  simp only [Option.bind_some]
  by_cases hc : n < l.length
  · rw [if_pos hc, if_pos (by omega)]
  · rw [if_neg hc, if_neg (by omega)]
end Go.Proofs.Ytchnkakjjbfklaa.Plain

/- Worlds: their sizes, copies and equality, as the law's helpers tell them. Condition: at most 10 to the 12 of each. -/
set_option linter.unusedSimpArgs false
set_option linter.unusedVariables false
namespace Go.Proofs.Ytchnkakjjbfklaa.Plain
open Go.RowKit Go.Proofs.YtchnkakjjbfklaaW.PrintWords Go.Proofs.Ytchnkakjjbfklaa.Base Go.Proofs.Ytchnkakjjbfklaa.Print

/-- How many rows and numbers a world has. -/
def szWo (s t : List Int) (e : List S85) (g : List Int) (d : List S89) (l : List S92) : Nat :=
  s.length + (t.length + ((e.length + tot szE e) + (g.length + ((d.length + tot szD d) + (l.length + tot szLg l)))))
/-- Its rows are of a length that the machine can hold. -/
def fitW (s t : List Int) (e : List S85) (g : List Int) (d : List S89) (l : List S92) : Prop :=
  s.length ≤ 1000000000000000000 ∧ t.length ≤ 1000000000000000000 ∧ (e.length ≤ 100000000000000000 ∧ ∀ x ∈ e, fitE x) ∧ g.length ≤ 1000000000000000000 ∧ (d.length ≤ 100000000000000000 ∧ ∀ x ∈ d, x.f0.f2.length ≤ 1000000000000000000 ∧ x.f2.length ≤ 1000000000000000000) ∧ (l.length ≤ 100000000000000000 ∧ ∀ x ∈ l, x.f3.f0.f2.length ≤ 1000000000000000000 ∧ x.f3.f2.length ≤ 1000000000000000000)
theorem szWorld_v (s t : List Int) (c : Int) (e : List S85) (v : Int) (g : List Int) (a : Int) (f : Bool) (b p : Int) (d : List S89) (l : List S92) (x y z n : Int) (h0 : 0 ≤ n) (h : n ≤ 1048576) (hf : fitW s t e g d l) :
    laws_szWorld.fv s t c e v g a f b p d l x y z n = some (less (szWo s t e g d l) n) := by
  obtain ⟨f1, f2, f3, f4, f5, f6⟩ := hf
  unfold szWo
  rw [laws_szWorld.fv_eq, szIntS_less s n h0 h f1]
  simp only [Option.bind_some]
  by_cases h1 : less s.length n < 0
  · rw [if_pos h1, less_neg_add _ h1 h0]
  · have b1 := less_in (Int.not_lt.mp h1)
    rw [if_neg h1, ← less_add _ h1]
    generalize less s.length n = n1 at h1 b1
    rw [szIntS_less t n1 (by omega) (by omega) f2]
    simp only [Option.bind_some]
    by_cases h2 : less t.length n1 < 0
    · rw [if_pos h2, less_neg_add _ h2 (by omega)]
    · have b2 := less_in (Int.not_lt.mp h2)
      rw [if_neg h2, ← less_add _ h2]
      generalize less t.length n1 = n2 at h2 b2
      rw [szEndS_v e n2 (by omega) (by omega) f3.1 f3.2]
      simp only [Option.bind_some]
      by_cases h3 : less (e.length + tot szE e) n2 < 0
      · rw [if_pos h3, less_neg_add _ h3 (by omega)]
      · have b3 := less_in (Int.not_lt.mp h3)
        rw [if_neg h3, ← less_add _ h3]
        generalize less (e.length + tot szE e) n2 = n3 at h3 b3
        rw [szRollout_f v g a f n3 (by omega) (by omega) f4]
        simp only [Option.bind_some, show (if n3 < (g.length : Int) then (-1 : Int) else n3 - (g.length : Int)) = less g.length n3 from rfl]
        by_cases h4 : less g.length n3 < 0
        · rw [if_pos h4, less_neg_add _ h4 (by omega)]
        · have b4 := less_in (Int.not_lt.mp h4)
          rw [if_neg h4, ← less_add _ h4]
          generalize less g.length n3 = n4 at h4 b4
          rw [szDialedS_v d n4 (by omega) (by omega) f5.1 f5.2, sizeOf1_tot szD d n4 (by omega)]
          simp only [Option.bind_some]
          by_cases h5 : less (d.length + tot szD d) n4 < 0
          · rw [if_pos h5, less_neg_add _ h5 (by omega)]
          · have b5 := less_in (Int.not_lt.mp h5)
            rw [if_neg h5, ← less_add _ h5]
            generalize less (d.length + tot szD d) n4 = n5 at h5 b5
            rw [szLogS_v l n5 (by omega) (by omega) f6.1 f6.2]
            simp only [Option.bind_some]
            by_cases h6 : less (l.length + tot szLg l) n5 < 0
            · rw [if_pos h6, show (-1 : Int) = less (l.length + tot szLg l) n5 from less_neg_add 0 h6 (by omega)]
            · rw [if_neg h6]
/-- Its rows are not too long. -/
def okW (s t : List Int) (e : List S85) (g : List Int) (d : List S89) (l : List S92) : Prop :=
  s.length ≤ 1000000000000 ∧ t.length ≤ 1000000000000 ∧ (e.length ≤ 1000000000000 ∧ ∀ x ∈ e, okE x.f0 x.f1 x.f2) ∧ g.length ≤ 1000000000000 ∧ (d.length ≤ 1000000000000 ∧ ∀ x ∈ d, okD (toD x)) ∧ (l.length ≤ 1000000000000 ∧ ∀ x ∈ l, okLg (toLg x))
theorem okW_less {s t : List Int} {e : List S85} {g : List Int} {d : List S89} {l : List S92} {n : Int} (hn : n ≤ 1048576) (h : 0 ≤ less (szWo s t e g d l) n) : okW s t e g d l := by
  obtain ⟨h1, _⟩ := less_in h
  unfold szWo at h1
  refine ⟨by omega, by omega, ⟨by omega, fun x hx => okE_less ?_⟩, by omega, ⟨by omega, fun x hx => ?_⟩, by omega, fun x hx => ?_⟩
  · have := tot_le szE hx
    omega
  · have := tot_le szD hx
    have h9 : szD x = x.f0.f2.length + x.f2.length := rfl
    exact ⟨by show x.f0.f2.length ≤ _; omega, by show x.f2.length ≤ _; omega⟩
  · have := tot_le szLg hx
    have h9 : szLg x = x.f3.f0.f2.length + x.f3.f2.length := rfl
    exact ⟨by show x.f3.f0.f2.length ≤ _; omega, by show x.f3.f2.length ≤ _; omega⟩
theorem toWorld_v (s t : List Int) (c : Int) (e : List S85) (v : Int) (g : List Int) (a : Int) (f : Bool) (b p : Int) (d : List S89) (l : List S92) (x y z : Int) (h : okW s t e g d l) :
    laws_toWorld.fv s t c e v g a f b p d l x y z = some (s, t, c, e.map toE, v, g, a, f, b, p, d.map toD, l.map toLg, x, y, z) := by
  obtain ⟨h1, h2, h3, h4, h5, h6⟩ := h
  rw [laws_toWorld.fv_eq, toIntS_v s h1, toIntS_v t h2, toEndS_v e h3.1 h3.2, toRollout_v v g a f h4, toDialedS_v d h5.1 h5.2, toLogS_v l h6.1 h6.2]
  rfl
theorem eqWorld_v (s t : List Int) (c : Int) (e : List S85) (v : Int) (g : List Int) (a : Int) (f : Bool) (b p : Int) (d : List S89) (l : List S92) (x y z : Int) (h : okW s t e g d l) :
    laws_eqWorld.fv s t c (e.map toE) v g a f b p (d.map toD) (l.map toLg) x y z s t c (e.map toE) v g a f b p (d.map toD) (l.map toLg) x y z = some true := by
  obtain ⟨h1, h2, h3, h4, h5, h6⟩ := h
  have h5' : ∀ x ∈ d.map toD, okD x := fun x hm => by
    obtain ⟨y, hy, rfl⟩ := List.mem_map.1 hm
    exact h5.2 y hy
  have h6' : ∀ x ∈ l.map toLg, okLg x := fun x hm => by
    obtain ⟨y, hy, rfl⟩ := List.mem_map.1 hm
    exact h6.2 y hy
  rw [laws_eqWorld.fv_eq, eqIntS_v s s h1, eqIntS_v t t h2, eqEndS_v e h3.1 h3.2, eqRollout_v v g a f v g a f h4, eqDialedS_v (d.map toD) (by rw [List.length_map]; exact h5.1) h5', eqLogS_v (l.map toLg) (by rw [List.length_map]; exact h6.1) h6', eqR_refl]
  simp
end Go.Proofs.Ytchnkakjjbfklaa.Plain

/- A row of rows, read. No program. No condition. -/
set_option linter.unusedSimpArgs false
set_option linter.unusedVariables false
namespace Go.Proofs.Ytchnkakjjbfklaa.Plain
open Go.RowKit Go.Proofs.YtchnkakjjbfklaaW.PrintWords Go.Proofs.Ytchnkakjjbfklaa.Base Go.Proofs.Ytchnkakjjbfklaa.Print

theorem rdL1_mid (pre suf : List (List Int)) (x : List Int) : rd_L1 (pre ++ x :: suf) (pre.length : Int) = x := by simp [rd_L1]
end Go.Proofs.Ytchnkakjjbfklaa.Plain

/- ListsOf, of both sides. Condition: at most 10 to the 12 of each. -/
set_option linter.unusedSimpArgs false
set_option linter.unusedVariables false
namespace Go.Proofs.Ytchnkakjjbfklaa.Plain
open Go.RowKit Go.Proofs.YtchnkakjjbfklaaW.PrintWords Go.Proofs.Ytchnkakjjbfklaa.Base Go.Proofs.Ytchnkakjjbfklaa.Print

theorem implLists_l0 (suf : List S50) : ∀ (pre : List S50) (out : List (List Int)), (pre ++ suf).length ≤ 1000000000000 → out.length ≤ pre.length → (∀ x ∈ suf, okEn x) →
    impl_ListsOf.l0v out (pre ++ suf) ((pre ++ suf).length : Int) (pre.length : Int) = some (out ++ suf.map (·.f0)) := by
  induction suf with
  | nil =>
    intro pre out _ _ _
    rw [impl_ListsOf.l0v_eq, if_neg (nlt_end pre)]
    simp
  | cons x suf ih =>
    intro pre out hl ho hs
    have hn : pre.length < (pre ++ x :: suf).length := by simp
    have hq : pre.length < 1000000000000 := by omega
    have hx := (hs x List.mem_cons_self).1
    have h0 : ([] : List Int).length + x.f0.length < 17592186044416 := by
      rw [List.length_nil]
      omega
    rw [impl_ListsOf.l0v_eq, if_pos (lt_mid pre suf x), if_pos (by omega), if_pos (lt_mid pre suf x), Option.bind_some, rdEnd_mid, if_pos h0, if_pos (by omega), up_mid pre x hn hl]
    rw [mid_snoc pre suf x] at hl ⊢
    rw [ih (pre ++ [x]) _ hl (by simp; omega) (fun y hy => hs y (List.mem_cons_of_mem _ hy))]
    simp
theorem implLists_v (s t : List Int) (c : Int) (e : List S50) (v : Int) (g : List Int) (a : Int) (f : Bool) (b p : Int) (d : List S55) (l : List S57) (x y z : Int) (he : e.length ≤ 1000000000000) (hs : ∀ x ∈ e, okEn x) : impl_ListsOf.fv s t c e v g a f b p d l x y z = some (e.map (·.f0)) := by
  rw [impl_ListsOf.fv_eq]
  simpa using implLists_l0 e [] [] (by simpa using he) (by simp) hs
theorem specLists_l0 (s t : List Int) (c v : Int) (g : List Int) (a : Int) (f : Bool) (b p : Int) (d : List S55) (l : List S57) (x' y' z' : Int) (suf : List S50) : ∀ (pre : List S50) (out : List (List Int)), (pre ++ suf).length ≤ 1000000000000 → out.length ≤ pre.length → (∀ x ∈ suf, okEn x) →
    spec_ListsOf.l0v out (pre.length : Int) s t c (pre ++ suf) v g a f b p d l x' y' z' = some (out ++ suf.map (·.f0)) := by
  induction suf with
  | nil =>
    intro pre out _ _ _
    rw [spec_ListsOf.l0v_eq, if_neg (nlt_end pre)]
    simp
  | cons x suf ih =>
    intro pre out hl ho hs
    have hn : pre.length < (pre ++ x :: suf).length := by simp
    have hq : pre.length < 1000000000000 := by omega
    have hx := (hs x List.mem_cons_self).1
    have h0 : ([] : List Int).length + x.f0.length < 17592186044416 := by
      rw [List.length_nil]
      omega
    rw [spec_ListsOf.l0v_eq, if_pos (lt_mid pre suf x), Option.bind_some, if_pos (by omega), rdEnd_mid, if_pos h0, if_pos (by omega), up_mid pre x hn hl]
    rw [mid_snoc pre suf x] at hl ⊢
    rw [ih (pre ++ [x]) _ hl (by simp; omega) (fun y hy => hs y (List.mem_cons_of_mem _ hy))]
    simp
theorem specLists_v (s t : List Int) (c : Int) (e : List S50) (v : Int) (g : List Int) (a : Int) (f : Bool) (b p : Int) (d : List S55) (l : List S57) (x y z : Int) (he : e.length ≤ 1000000000000) (hs : ∀ x ∈ e, okEn x) : spec_ListsOf.fv s t c e v g a f b p d l x y z = some (e.map (·.f0)) := by
  rw [spec_ListsOf.fv_eq]
  simpa using specLists_l0 s t c v g a f b p d l x y z e [] [] (by simpa using he) (by simp) hs
end Go.Proofs.Ytchnkakjjbfklaa.Plain

/- Lists of versions: ascending, from 1 to 9; membership; what two lists share. No program. No condition. -/
set_option linter.unusedSimpArgs false
set_option linter.unusedVariables false
namespace Go.Proofs.Ytchnkakjjbfklaa.Plain
open Go.RowKit Go.Proofs.YtchnkakjjbfklaaW.PrintWords Go.Proofs.Ytchnkakjjbfklaa.Base Go.Proofs.Ytchnkakjjbfklaa.Print

/-- Versions that grow, all above p. -/
def vers : Int → List Int → Bool
  | _, [] => true
  | p, x :: l => inR 1 9 x && (decide (p < x) && vers x l)
/-- A list of versions, and not empty. -/
def areV (l : List Int) : Bool := vers 0 l && decide (0 < l.length)
/-- Is x in the list? -/
def mem (l : List Int) (x : Int) : Bool := decide (x ∈ l)
/-- What two lists share. -/
def com (a b : List Int) : List Int := a.filter (mem b)
/-- The best version that two lists share. -/
def best (a b : List Int) : Int := if areV a && areV b then (com a b).getLastD 0 else 0
theorem mem_cons (x y : Int) (l : List Int) : mem (y :: l) x = (decide (y = x) || mem l x) := by
  by_cases h : y = x
  · simp [mem, h]
  · have h' : ¬ x = y := fun e => h e.symm
    simp [mem, h, h']
theorem mem_nil (x : Int) : mem [] x = false := by simp [mem]
theorem vers_le {p q : Int} {l : List Int} (h : vers p l = true) (hq : q ≤ p) : vers q l = true := by
  cases l with
  | nil => rfl
  | cons x l =>
    simp only [vers, Bool.and_eq_true, decide_eq_true_eq] at h ⊢
    exact ⟨h.1, by omega, h.2.2⟩
theorem vers_filter (f : Int → Bool) {l : List Int} : ∀ {p : Int}, vers p l = true → vers p (l.filter f) = true := by
  induction l with
  | nil =>
    intro p h
    rfl
  | cons x l ih =>
    intro p h
    simp only [vers, Bool.and_eq_true, decide_eq_true_eq] at h
    cases hf : f x with
    | true =>
      rw [List.filter_cons_of_pos hf]
      simp only [vers, Bool.and_eq_true, decide_eq_true_eq]
      exact ⟨h.1, h.2.1, ih h.2.2⟩
    | false =>
      rw [List.filter_cons_of_neg (by simp [hf])]
      exact vers_le (ih h.2.2) (by omega)
theorem vers_len {l : List Int} : ∀ {p : Int}, vers p l = true → p ≤ 9 → (l.length : Int) ≤ 9 - p := by
  induction l with
  | nil =>
    intro p _ hp
    simp
    omega
  | cons x l ih =>
    intro p h hp
    simp only [vers, Bool.and_eq_true, decide_eq_true_eq, inR_true] at h
    have := ih h.2.2 (by omega)
    simp only [List.length_cons]
    omega
theorem areV_len {l : List Int} (h : areV l = true) : l.length ≤ 9 := by
  simp only [areV, Bool.and_eq_true] at h
  have := vers_len h.1 (by omega)
  omega
theorem vers_mem {l : List Int} : ∀ {p : Int}, vers p l = true → ∀ x ∈ l, 1 ≤ x ∧ x ≤ 9 ∧ p < x := by
  induction l with
  | nil =>
    intro p _ x hx
    cases hx
  | cons y l ih =>
    intro p h x hx
    simp only [vers, Bool.and_eq_true, decide_eq_true_eq, inR_true] at h
    cases hx with
    | head => omega
    | tail _ hx =>
      have := ih h.2.2 x hx
      omega
theorem areV_mem {l : List Int} (h : areV l = true) : ∀ x ∈ l, 1 ≤ x ∧ x ≤ 9 := by
  simp only [areV, Bool.and_eq_true] at h
  intro x hx
  have := vers_mem h.1 x hx
  omega
theorem com_len (a b : List Int) : (com a b).length ≤ a.length := List.length_filter_le _ _
theorem lastD_cons (x : Int) (l : List Int) (d : Int) : (x :: l).getLastD d = l.getLastD x := by
  cases l <;> rfl
theorem rd_lastD (pre suf : List Int) (h : pre ≠ []) : rd (pre ++ suf) ((pre.length : Int) - 1) = pre.getLastD 0 := by
  have hl : 0 < pre.length := List.length_pos_iff.mpr h
  have e : ((pre.length : Int) - 1).toNat = pre.length - 1 := by omega
  have h1 : pre.length - 1 < pre.length := by omega
  simp [rd, e, List.getD_eq_getElem?_getD, List.getElem?_append_left h1, List.getLastD_eq_getLast?, List.getLast?_eq_getElem?]
theorem lastD_mem (l : List Int) (h : l ≠ []) (d : Int) : l.getLastD d ∈ l := by
  cases l with
  | nil => exact absurd rfl h
  | cons x l => exact List.getLast_mem _
end Go.Proofs.Ytchnkakjjbfklaa.Plain

/- When a box, a list of tags and an endpoint are in form. No program. No condition. -/
set_option linter.unusedSimpArgs false
set_option linter.unusedVariables false
namespace Go.Proofs.Ytchnkakjjbfklaa.Plain
open Go.RowKit Go.Proofs.YtchnkakjjbfklaaW.PrintWords Go.Proofs.Ytchnkakjjbfklaa.Base Go.Proofs.Ytchnkakjjbfklaa.Print

def isB (b : S95) : Bool := inR 0 9 b.f0 && (decide (b.f1.length ≤ 6) && (decide (b.f2.length ≤ 6) && (b.f1.all (inR 0 255) && b.f2.all (inR 0 255))))
/-- Is a tag one of those that mean nothing? -/
def res (x : Int) : Bool := inR 0 255 x && (Int.tmod x 16 == 10)
/-- Is x above the one before it? -/
def above : Option Int → Int → Bool
  | none, _ => true
  | some p, x => decide (p < x)
def asc : Option Int → List Int → Bool
  | _, [] => true
  | o, x :: l => above o x && asc (some x) l
/-- The same with all that the reference asks of a tag. -/
def tagsS : Option Int → List Int → Bool
  | _, [] => true
  | o, x :: l => inR 0 255 x && (!res x && (above o x && tagsS (some x) l))
theorem tagsS_eq (l : List Int) : ∀ o, tagsS o l = ((asc o l && l.all (inR 0 255)) && !(l.any res)) := by
  induction l with
  | nil =>
    intro o
    rfl
  | cons x l ih =>
    intro o
    simp only [tagsS, asc, List.all_cons, List.any_cons, ih]
    cases inR 0 255 x <;> cases res x <;> cases above o x <;> cases asc (some x) l <;> cases l.all (inR 0 255) <;> cases l.any res <;> rfl
/-- Is an endpoint in form? -/
def isE (v t : List Int) (p : List S95) (c : Int) : Bool :=
  areV v && (decide (t.length ≤ 5) && ((asc none t && t.all (inR 0 255)) && (!(t.any res) && (decide (p.length ≤ 4) && (p.all isB && inR 0 5 c)))))
theorem lastO (pre suf : List Int) (h : pre ≠ []) : pre.getLast? = some (rd (pre ++ suf) ((pre.length : Int) - 1)) := by
  rw [rd_lastD pre suf h, List.getLast?_eq_some_getLast h]
  cases pre with
  | nil => exact absurd rfl h
  | cons x l => rfl
end Go.Proofs.Ytchnkakjjbfklaa.Plain

/- l32Tags, of the reference. Condition: at most 10 to the 12 numbers. -/
set_option linter.unusedSimpArgs false
set_option linter.unusedVariables false
namespace Go.Proofs.Ytchnkakjjbfklaa.Plain
open Go.RowKit Go.Proofs.YtchnkakjjbfklaaW.PrintWords Go.Proofs.Ytchnkakjjbfklaa.Base Go.Proofs.Ytchnkakjjbfklaa.Print

theorem specTagsW_l0 (suf : List Int) : ∀ (pre : List Int), (pre ++ suf).length ≤ 1000000000000 →
    spec_l32Tags.l0v (pre ++ suf) (pre.length : Int) = some (asc pre.getLast? suf && suf.all (inR 0 255)) := by
  induction suf with
  | nil =>
    intro pre hl
    rw [spec_l32Tags.l0v_eq, if_neg (nlt_end pre)]
    simp [asc]
  | cons x suf ih =>
    intro pre hl
    have hn : pre.length < (pre ++ x :: suf).length := by simp
    rw [spec_l32Tags.l0v_eq, if_pos (lt_mid pre suf x), if_pos (by omega), rd_mid, l1In_f, up_mid pre x hn hl]
    have h1 := ih (pre ++ [x]) (by simpa using hl)
    rw [← mid_snoc pre suf x] at h1
    rw [h1, List.getLast?_concat]
    simp only [Option.bind_some, asc, List.all_cons]
    cases inR 0 255 x with
    | false => simp
    | true =>
      rw [if_pos rfl]
      by_cases he : pre = []
      · subst he
        rw [if_neg (by simp)]
        simp [above]
      · have hpl : 0 < pre.length := List.length_pos_iff.mpr he
        rw [if_pos (by omega), w64 (x := (pre.length : Int) - 1) (by omega) (by omega), if_pos (by omega), if_pos (by omega), lastO pre (x :: suf) he]
        simp only [above]
        by_cases hlt : rd (pre ++ x :: suf) ((pre.length : Int) - 1) < x
        · rw [if_neg (by omega)]
          simp [hlt]
        · rw [if_pos (by omega)]
          simp [hlt]
theorem specTagsW_v (l : List Int) (hl : l.length ≤ 1000000000000) : spec_l32Tags.fv l = some (asc none l && l.all (inR 0 255)) := by
  rw [spec_l32Tags.fv_eq]
  simpa using specTagsW_l0 l [] (by simpa using hl)
end Go.Proofs.Ytchnkakjjbfklaa.Plain

/- Lists of numbers in a range. Condition: the slice has at most 10 to the 12 numbers. -/
set_option linter.unusedSimpArgs false
set_option linter.unusedVariables false
namespace Go.Proofs.Ytchnkakjjbfklaa.Plain
open Go.RowKit Go.Proofs.YtchnkakjjbfklaaW.PrintWords Go.Proofs.Ytchnkakjjbfklaa.Base Go.Proofs.Ytchnkakjjbfklaa.Print

theorem areNumbers_l0 (lo hi : Int) (suf : List Int) : ∀ (pre : List Int), (pre ++ suf).length ≤ 1000000000000 →
    ∃ r, slices_IndexFunc_int_int_with_impl_areNumbers_1.l0v (pre ++ suf) ((pre ++ suf).length : Int) (pre.length : Int) lo hi = some r ∧ decide (r ≥ 0) = !(suf.all (inR lo hi)) := by
  induction suf with
  | nil =>
    intro pre _
    refine ⟨-1, ?_, by simp⟩
    rw [slices_IndexFunc_int_int_with_impl_areNumbers_1.l0v_eq, if_neg (nlt_end pre)]
  | cons x suf ih =>
    intro pre hl
    have hn : pre.length < (pre ++ x :: suf).length := by simp
    rw [slices_IndexFunc_int_int_with_impl_areNumbers_1.l0v_eq, if_pos (lt_mid pre suf x), if_pos (by omega), if_pos (lt_mid pre suf x), rd_mid]
    unfold impl_areNumbers_1.f
    rw [inRange_f]
    simp only [Option.bind_some]
    cases hx : inR lo hi x with
    | false =>
      refine ⟨(pre.length : Int), by simp, ?_⟩
      simp [hx]
    | true =>
      rw [up_mid pre x hn hl]
      simp only [Bool.not_true, Bool.false_eq_true, if_false]
      rw [mid_snoc pre suf x] at hl ⊢
      obtain ⟨r, h1, h2⟩ := ih (pre ++ [x]) hl
      exact ⟨r, h1, by rw [h2]; simp [hx]⟩

theorem areNumbers_v (l : List Int) (lo hi : Int) (hl : l.length ≤ 1000000000000) : impl_areNumbers.fv l lo hi = some (l.all (inR lo hi)) := by
  obtain ⟨r, h1, h2⟩ := areNumbers_l0 lo hi l [] (by simpa using hl)
  rw [impl_areNumbers.fv_eq, slices_ContainsFunc_int_int_with_impl_areNumbers_1.fv_eq, slices_IndexFunc_int_int_with_impl_areNumbers_1.fv_eq]
  simp only [List.nil_append, List.length_nil, Int.natCast_zero] at h1
  rw [h1]
  simp [h2]
end Go.Proofs.Ytchnkakjjbfklaa.Plain

/- IsBox, of the program. Condition: at most 10 to the 12 of each. -/
set_option linter.unusedSimpArgs false
set_option linter.unusedVariables false
namespace Go.Proofs.Ytchnkakjjbfklaa.Plain
open Go.RowKit Go.Proofs.YtchnkakjjbfklaaW.PrintWords Go.Proofs.Ytchnkakjjbfklaa.Base Go.Proofs.Ytchnkakjjbfklaa.Print

theorem implIsB_v (b : S95) (h : okB b) : impl_IsBox.fv b.f0 b.f1 b.f2 b.f3 = some (isB b) := by
  rw [impl_IsBox.fv_eq, inRange_f, areNumbers_v _ _ _ h.1, areNumbers_v _ _ _ h.2]
  simp only [Option.bind_some, isB]
  simp only [show ((b.f1.length : Int) ≤ 6) ↔ (b.f1.length ≤ 6) from by omega, show ((b.f2.length : Int) ≤ 6) ↔ (b.f2.length ≤ 6) from by omega]
  generalize inR 0 9 b.f0 = x
  generalize b.f1.all (inR 0 255) = y
  generalize b.f2.all (inR 0 255) = z
  by_cases h1 : b.f1.length ≤ 6 <;> by_cases h2 : b.f2.length ≤ 6 <;> cases x <;> cases y <;> cases z <;> simp [h1, h2]
end Go.Proofs.Ytchnkakjjbfklaa.Plain

/- AreVersions, of the program. Condition: at most 10 to the 12 numbers. -/
set_option linter.unusedSimpArgs false
set_option linter.unusedVariables false
namespace Go.Proofs.Ytchnkakjjbfklaa.Plain
open Go.RowKit Go.Proofs.YtchnkakjjbfklaaW.PrintWords Go.Proofs.Ytchnkakjjbfklaa.Base Go.Proofs.Ytchnkakjjbfklaa.Print

theorem implVers_l0 (suf : List Int) : ∀ pre : List Int, (pre ++ suf).length ≤ 1000000000000 →
    impl_AreVersions.l0v (pre ++ suf) (pre ++ suf) ((pre ++ suf).length : Int) (pre.length : Int) = some (vers (pre.getLastD 0) suf && decide (0 < (pre ++ suf).length)) := by
  induction suf with
  | nil =>
    intro pre hl
    rw [impl_AreVersions.l0v_eq, if_neg (nlt_end pre)]
    by_cases h : 0 < pre.length <;> simp [vers, h]
  | cons x suf ih =>
    intro pre hl
    have hn : pre.length < (pre ++ x :: suf).length := by simp
    rw [impl_AreVersions.l0v_eq, if_pos (lt_mid pre suf x), if_pos (by omega), if_pos (lt_mid pre suf x), rd_mid, inRange_f]
    simp only [Option.bind_some, vers]
    cases hx : inR 1 9 x with
    | false => simp
    | true =>
      rw [if_pos rfl, up_mid pre x hn hl]
      have h1 := ih (pre ++ [x]) (by simpa using hl)
      rw [← mid_snoc pre suf x] at h1
      rw [h1]
      have hr := inR_true.mp hx
      by_cases hp : pre = []
      · subst hp
        rw [if_neg (by simp)]
        have h0 : (0 : Int) < x := by omega
        simp [h0]
      · have hpl : 0 < pre.length := List.length_pos_iff.mpr hp
        rw [if_pos (by omega), w64 (x := (pre.length : Int) - 1) (by omega) (by omega), if_pos (by omega), if_pos (by omega), rd_lastD pre _ hp]
        by_cases hlt : pre.getLastD 0 < x
        · rw [if_neg (by omega)]
          generalize pre.getLastD 0 = q at hlt
          simp [hlt]
        · rw [if_pos (by omega)]
          generalize pre.getLastD 0 = q at hlt
          simp [hlt]
theorem implVers_v (l : List Int) (hl : l.length ≤ 1000000000000) : impl_AreVersions.fv l = some (areV l) := by
  rw [impl_AreVersions.fv_eq]
  simpa [areV] using implVers_l0 l [] (by simpa using hl)
end Go.Proofs.Ytchnkakjjbfklaa.Plain

/- IsBox, areTags, IsHardened and IsEndpoint, of the program. Condition: at most 10 to the 12 of each. -/
set_option linter.unusedSimpArgs false
set_option linter.unusedVariables false
namespace Go.Proofs.Ytchnkakjjbfklaa.Plain
open Go.RowKit Go.Proofs.YtchnkakjjbfklaaW.PrintWords Go.Proofs.Ytchnkakjjbfklaa.Base Go.Proofs.Ytchnkakjjbfklaa.Print

theorem implRes_f (x : Int) : impl_IsReserved.f x = some (res x) := by
  unfold impl_IsReserved.f res
  rw [inRange_f]
  cases inR 0 255 x <;> simp
theorem implHard_l0 (suf : List Int) : ∀ (pre : List Int), (pre ++ suf).length ≤ 1000000000000 →
    ∃ r, slices_IndexFunc_int_int_with_impl_IsReserved.l0v (pre ++ suf) ((pre ++ suf).length : Int) (pre.length : Int) = some r ∧ decide (r ≥ 0) = suf.any res := by
  induction suf with
  | nil =>
    intro pre _
    refine ⟨-1, ?_, by simp⟩
    rw [slices_IndexFunc_int_int_with_impl_IsReserved.l0v_eq, if_neg (nlt_end pre)]
  | cons x suf ih =>
    intro pre hl
    have hn : pre.length < (pre ++ x :: suf).length := by simp
    rw [slices_IndexFunc_int_int_with_impl_IsReserved.l0v_eq, if_pos (lt_mid pre suf x), if_pos (by omega), if_pos (lt_mid pre suf x), rd_mid, implRes_f]
    simp only [Option.bind_some]
    cases hx : res x with
    | true =>
      rw [if_pos rfl]
      exact ⟨(pre.length : Int), rfl, by simp [hx]⟩
    | false =>
      rw [if_neg (by simp), up_mid pre x hn hl]
      rw [mid_snoc pre suf x] at hl ⊢
      obtain ⟨r, h1, h2⟩ := ih (pre ++ [x]) hl
      exact ⟨r, h1, by rw [h2]; simp [hx]⟩
theorem implHard_v (l : List Int) (hl : l.length ≤ 1000000000000) : impl_IsHardened.fv l = some (l.any res) := by
  obtain ⟨r, h1, h2⟩ := implHard_l0 l [] (by simpa using hl)
  rw [impl_IsHardened.fv_eq, slices_ContainsFunc_int_int_with_impl_IsReserved.fv_eq, slices_IndexFunc_int_int_with_impl_IsReserved.fv_eq]
  simp only [List.nil_append, List.length_nil, Int.natCast_zero] at h1
  rw [h1]
  simp [h2]
theorem implTags_l0 (suf : List Int) : ∀ (pre : List Int), (pre ++ suf).length ≤ 1000000000000 →
    impl_areTags.l0v (pre ++ suf) (pre ++ suf) ((pre ++ suf).length : Int) (pre.length : Int) = some (asc pre.getLast? suf && (pre ++ suf).all (inR 0 255)) := by
  induction suf with
  | nil =>
    intro pre hl
    rw [impl_areTags.l0v_eq, if_neg (nlt_end pre), areNumbers_v _ _ _ hl]
    simp only [Option.bind_some, asc, Bool.true_and]
  | cons x suf ih =>
    intro pre hl
    have hn : pre.length < (pre ++ x :: suf).length := by simp
    have hp : (pre ++ x :: suf).length ≤ 1000000000000 := hl
    rw [impl_areTags.l0v_eq, if_pos (lt_mid pre suf x), if_pos (by omega), if_pos (lt_mid pre suf x), rd_mid, up_mid pre x hn hl]
    have h1 := ih (pre ++ [x]) (by simpa using hl)
    rw [← mid_snoc pre suf x] at h1
    rw [h1, List.getLast?_concat]
    simp only [asc]
    by_cases he : pre = []
    · subst he
      rw [if_neg (by simp)]
      simp [above]
    · have hpl : 0 < pre.length := List.length_pos_iff.mpr he
      rw [if_pos (by omega), w64 (x := (pre.length : Int) - 1) (by omega) (by omega), if_pos (by omega), if_pos (by omega), lastO pre (x :: suf) he]
      simp only [above]
      by_cases hlt : rd (pre ++ x :: suf) ((pre.length : Int) - 1) < x
      · rw [if_neg (by omega)]
        simp [hlt]
      · rw [if_pos (by omega)]
        simp [hlt]
theorem implTags_v (l : List Int) (hl : l.length ≤ 1000000000000) : impl_areTags.fv l = some (asc none l && l.all (inR 0 255)) := by
  rw [impl_areTags.fv_eq]
  simpa using implTags_l0 l [] (by simpa using hl)
theorem implBs_l0 (suf : List S95) : ∀ (pre : List S95), (pre ++ suf).length ≤ 1000000000000 → (∀ x ∈ suf, okB x) →
    ∃ r, slices_IndexFunc_impl_Box_impl_Box_with_impl_IsEndpoint_1.l0v (pre ++ suf) ((pre ++ suf).length : Int) (pre.length : Int) = some r ∧ decide (r ≥ 0) = !(suf.all isB) := by
  induction suf with
  | nil =>
    intro pre _ _
    refine ⟨-1, ?_, by simp⟩
    rw [slices_IndexFunc_impl_Box_impl_Box_with_impl_IsEndpoint_1.l0v_eq, if_neg (nlt_end pre)]
  | cons x suf ih =>
    intro pre hl hs
    have hn : pre.length < (pre ++ x :: suf).length := by simp
    rw [slices_IndexFunc_impl_Box_impl_Box_with_impl_IsEndpoint_1.l0v_eq, if_pos (lt_mid pre suf x), if_pos (by omega), if_pos (lt_mid pre suf x), rdBox_mid, impl_IsEndpoint_1.fv_eq, implIsB_v x (hs x List.mem_cons_self)]
    simp only [Option.bind_some]
    cases hx : isB x with
    | false =>
      rw [if_pos (show (!false) = true from rfl)]
      exact ⟨(pre.length : Int), rfl, by simp [hx]⟩
    | true =>
      rw [if_neg (by simp), up_mid pre x hn hl]
      rw [mid_snoc pre suf x] at hl ⊢
      obtain ⟨r, h1, h2⟩ := ih (pre ++ [x]) hl (fun y hy => hs y (List.mem_cons_of_mem _ hy))
      exact ⟨r, h1, by rw [h2]; simp [hx]⟩
theorem implBs_v (l : List S95) (hl : l.length ≤ 1000000000000) (hs : ∀ x ∈ l, okB x) : slices_ContainsFunc_impl_Box_impl_Box_with_impl_IsEndpoint_1.fv l = some (!(l.all isB)) := by
  obtain ⟨r, h1, h2⟩ := implBs_l0 l [] (by simpa using hl) hs
  rw [slices_ContainsFunc_impl_Box_impl_Box_with_impl_IsEndpoint_1.fv_eq, slices_IndexFunc_impl_Box_impl_Box_with_impl_IsEndpoint_1.fv_eq]
  simp only [List.nil_append, List.length_nil, Int.natCast_zero] at h1
  rw [h1]
  simp only [Option.bind_some, h2]
theorem implIsE_v (v t : List Int) (p : List S95) (c : Int) (hv : v.length ≤ 1000000000000) (ht : t.length ≤ 1000000000000) (hp : p.length ≤ 1000000000000) (hs : ∀ x ∈ p, okB x) : impl_IsEndpoint.fv v t p c = some (isE v t p c) := by
  rw [impl_IsEndpoint.fv_eq, implVers_v v hv, implTags_v t ht, implHard_v t ht, implBs_v p hp hs, inRange_f]
  simp only [Option.bind_some, isE, show ((t.length : Int) ≤ 5) ↔ (t.length ≤ 5) from by omega, show ((p.length : Int) ≤ 4) ↔ (p.length ≤ 4) from by omega]
  generalize areV v = x0
  generalize asc none t = x1
  generalize t.all (inR 0 255) = x2
  generalize t.any res = x3
  generalize p.all isB = x4
  by_cases h1 : t.length ≤ 5 <;> by_cases h2 : p.length ≤ 4 <;> cases x0 <;> cases x1 <;> cases x2 <;> cases x3 <;> cases x4 <;> simp [h1, h2]
end Go.Proofs.Ytchnkakjjbfklaa.Plain

/- Lists of bytes, of the reference. Condition: at most 10 to the 12 numbers. -/
set_option linter.unusedSimpArgs false
set_option linter.unusedVariables false
namespace Go.Proofs.Ytchnkakjjbfklaa.Plain
open Go.RowKit Go.Proofs.YtchnkakjjbfklaaW.PrintWords Go.Proofs.Ytchnkakjjbfklaa.Base Go.Proofs.Ytchnkakjjbfklaa.Print

theorem specByte_l0 (suf : List Int) : ∀ (pre : List Int), (pre ++ suf).length ≤ 1000000000000 → spec_l9Byte.l0v (pre ++ suf) (pre.length : Int) = some (suf.all (inR 0 255)) := by
  induction suf with
  | nil =>
    intro pre _
    rw [spec_l9Byte.l0v_eq, if_neg (nlt_end pre)]
    rfl
  | cons x suf ih =>
    intro pre hl
    have hn : pre.length < (pre ++ x :: suf).length := by simp
    rw [spec_l9Byte.l0v_eq, if_pos (lt_mid pre suf x), if_pos (by omega), rd_mid, l1In_f, up_mid pre x hn hl]
    simp only [Option.bind_some, List.all_cons]
    cases inR 0 255 x with
    | false => simp
    | true =>
      rw [if_pos rfl]
      rw [mid_snoc pre suf x] at hl ⊢
      rw [ih (pre ++ [x]) hl, Bool.true_and]
theorem specByte_v (l : List Int) (hl : l.length ≤ 1000000000000) : spec_l9Byte.fv l = some (l.all (inR 0 255)) := by
  rw [spec_l9Byte.fv_eq]
  simpa using specByte_l0 l [] (by simpa using hl)
end Go.Proofs.Ytchnkakjjbfklaa.Plain

/- IsBox, of the reference. Condition: at most 10 to the 12 of each. -/
set_option linter.unusedSimpArgs false
set_option linter.unusedVariables false
namespace Go.Proofs.Ytchnkakjjbfklaa.Plain
open Go.RowKit Go.Proofs.YtchnkakjjbfklaaW.PrintWords Go.Proofs.Ytchnkakjjbfklaa.Base Go.Proofs.Ytchnkakjjbfklaa.Print

theorem specIsB_v (b : S95) (h : okB b) : spec_IsBox.fv b.f0 b.f1 b.f2 b.f3 = some (isB b) := by
  rw [spec_IsBox.fv_eq, l1In_f, specByte_v _ h.1, specByte_v _ h.2]
  simp only [Option.bind_some, isB]
  simp only [show ((b.f1.length : Int) ≤ 6) ↔ (b.f1.length ≤ 6) from by omega, show ((b.f2.length : Int) ≤ 6) ↔ (b.f2.length ≤ 6) from by omega]
  generalize inR 0 9 b.f0 = x
  generalize b.f1.all (inR 0 255) = y
  generalize b.f2.all (inR 0 255) = z
  by_cases h1 : b.f1.length ≤ 6 <;> by_cases h2 : b.f2.length ≤ 6 <;> cases x <;> cases y <;> cases z <;> simp [h1, h2]
end Go.Proofs.Ytchnkakjjbfklaa.Plain

/- AreVersions, of the reference. Condition: at most 10 to the 12 numbers. -/
set_option linter.unusedSimpArgs false
set_option linter.unusedVariables false
namespace Go.Proofs.Ytchnkakjjbfklaa.Plain
open Go.RowKit Go.Proofs.YtchnkakjjbfklaaW.PrintWords Go.Proofs.Ytchnkakjjbfklaa.Base Go.Proofs.Ytchnkakjjbfklaa.Print

theorem specVers_l0 (suf : List Int) : ∀ pre : List Int, (pre ++ suf).length ≤ 1000000000000 →
    spec_AreVersions.l0v (pre ++ suf) (pre.length : Int) = some (vers (pre.getLastD 0) suf && decide (0 < (pre ++ suf).length)) := by
  induction suf with
  | nil =>
    intro pre hl
    rw [spec_AreVersions.l0v_eq, if_neg (nlt_end pre)]
    by_cases h : 0 < pre.length <;> simp [vers, h]
  | cons x suf ih =>
    intro pre hl
    have hn : pre.length < (pre ++ x :: suf).length := by simp
    rw [spec_AreVersions.l0v_eq, if_pos (lt_mid pre suf x), if_pos (by omega), rd_mid, l1In_f]
    simp only [Option.bind_some, vers]
    cases hx : inR 1 9 x with
    | false => simp
    | true =>
      rw [if_pos rfl, up_mid pre x hn hl]
      have h1 := ih (pre ++ [x]) (by simpa using hl)
      rw [← mid_snoc pre suf x] at h1
      rw [h1]
      have hr := inR_true.mp hx
      by_cases hp : pre = []
      · subst hp
        rw [if_neg (by simp)]
        have h0 : (0 : Int) < x := by omega
        simp [h0]
      · have hpl : 0 < pre.length := List.length_pos_iff.mpr hp
        rw [if_pos (by omega), w64 (x := (pre.length : Int) - 1) (by omega) (by omega), if_pos (by omega), if_pos (by omega), rd_lastD pre _ hp]
        by_cases hlt : pre.getLastD 0 < x
        · rw [if_neg (by omega)]
          generalize pre.getLastD 0 = q at hlt
          simp [hlt]
        · rw [if_pos (by omega)]
          generalize pre.getLastD 0 = q at hlt
          simp [hlt]
theorem specVers_v (l : List Int) (hl : l.length ≤ 1000000000000) : spec_AreVersions.fv l = some (areV l) := by
  rw [spec_AreVersions.fv_eq]
  simpa [areV] using specVers_l0 l [] (by simpa using hl)
end Go.Proofs.Ytchnkakjjbfklaa.Plain

/- IsBox and IsEndpoint, of the reference. Condition: at most 10 to the 12 of each. -/
set_option linter.unusedSimpArgs false
set_option linter.unusedVariables false
namespace Go.Proofs.Ytchnkakjjbfklaa.Plain
open Go.RowKit Go.Proofs.YtchnkakjjbfklaaW.PrintWords Go.Proofs.Ytchnkakjjbfklaa.Base Go.Proofs.Ytchnkakjjbfklaa.Print

theorem specRes_f (x : Int) : spec_IsReserved.f x = some (res x) := by
  unfold spec_IsReserved.f res
  rw [l1In_f]
  cases inR 0 255 x <;> simp
theorem specIsE_l1 (v t : List Int) (c : Int) (hv : v.length ≤ 1000000000000) (suf : List S95) : ∀ (pre : List S95), (pre ++ suf).length ≤ 1000000000000 → (∀ x ∈ suf, okB x) →
    spec_IsEndpoint.l1v (pre.length : Int) v t (pre ++ suf) c = some (suf.all isB && (areV v && (decide (t.length ≤ 5) && (decide ((pre ++ suf).length ≤ 4) && inR 0 5 c)))) := by
  induction suf with
  | nil =>
    intro pre hl _
    rw [spec_IsEndpoint.l1v_eq, if_neg (nlt_end pre), specVers_v v hv, l1In_f]
    simp only [Option.bind_some, List.all_nil, Bool.true_and]
    cases areV v with
    | false => simp
    | true =>
      by_cases h1 : t.length ≤ 5
      · rw [if_pos rfl, if_pos (by omega)]
        by_cases h2 : (pre ++ []).length ≤ 4
        · rw [if_pos (by omega)]
          simp only [h1, h2, decide_true, Bool.true_and]
        · rw [if_neg (by omega)]
          simp only [h1, h2, decide_true, decide_false, Bool.true_and, Bool.false_and]
      · rw [if_pos rfl, if_neg (by omega)]
        simp [h1]
  | cons x suf ih =>
    intro pre hl hs
    have hn : pre.length < (pre ++ x :: suf).length := by simp
    rw [spec_IsEndpoint.l1v_eq, if_pos (lt_mid pre suf x), if_pos (by omega), rdBox_mid, specIsB_v x (hs x List.mem_cons_self), up_mid pre x hn hl]
    simp only [Option.bind_some, List.all_cons]
    cases isB x with
    | false => simp
    | true =>
      rw [if_pos rfl]
      rw [mid_snoc pre suf x] at hl ⊢
      rw [ih (pre ++ [x]) hl (fun y hy => hs y (List.mem_cons_of_mem _ hy)), Bool.true_and]
theorem specIsE_l0 (v : List Int) (p : List S95) (c : Int) (hv : v.length ≤ 1000000000000) (hp : p.length ≤ 1000000000000) (hs : ∀ x ∈ p, okB x) (suf : List Int) : ∀ (pre : List Int), (pre ++ suf).length ≤ 1000000000000 →
    spec_IsEndpoint.l0v (pre.length : Int) v (pre ++ suf) p c = some (tagsS pre.getLast? suf && (p.all isB && (areV v && (decide ((pre ++ suf).length ≤ 5) && (decide (p.length ≤ 4) && inR 0 5 c))))) := by
  induction suf with
  | nil =>
    intro pre hl
    have h := specIsE_l1 v (pre ++ []) c hv p [] (by simpa using hp) hs
    simp only [List.nil_append, List.length_nil, Int.natCast_zero] at h
    rw [spec_IsEndpoint.l0v_eq, if_neg (nlt_end pre), h]
    simp only [tagsS, Bool.true_and]
  | cons x suf ih =>
    intro pre hl
    have hn : pre.length < (pre ++ x :: suf).length := by simp
    rw [spec_IsEndpoint.l0v_eq, if_pos (lt_mid pre suf x), if_pos (by omega), rd_mid, l1In_f, specRes_f, up_mid pre x hn hl]
    have h1 := ih (pre ++ [x]) (by simpa using hl)
    rw [← mid_snoc pre suf x] at h1
    rw [h1, List.getLast?_concat]
    simp only [Option.bind_some, tagsS]
    cases inR 0 255 x with
    | false => simp
    | true =>
      cases res x with
      | true => simp
      | false =>
        rw [if_pos rfl, if_neg (by simp)]
        by_cases he : pre = []
        · subst he
          rw [if_neg (by simp)]
          simp [above]
        · have hpl : 0 < pre.length := List.length_pos_iff.mpr he
          rw [if_pos (by omega), w64 (x := (pre.length : Int) - 1) (by omega) (by omega), if_pos (by omega), if_pos (by omega), lastO pre (x :: suf) he]
          simp only [above]
          by_cases hlt : rd (pre ++ x :: suf) ((pre.length : Int) - 1) < x
          · rw [if_neg (by omega)]
            simp [hlt]
          · rw [if_pos (by omega)]
            simp [hlt]
theorem specIsE_v (v t : List Int) (p : List S95) (c : Int) (hv : v.length ≤ 1000000000000) (ht : t.length ≤ 1000000000000) (hp : p.length ≤ 1000000000000) (hs : ∀ x ∈ p, okB x) : spec_IsEndpoint.fv v t p c = some (isE v t p c) := by
  rw [spec_IsEndpoint.fv_eq]
  have h := specIsE_l0 v p c hv hp hs t [] (by simpa using ht)
  simp only [List.nil_append, List.length_nil, Int.natCast_zero] at h
  rw [h, tagsS_eq]
  unfold isE
  rw [List.getLast?_nil]
  congr 1
  cases asc none t <;> cases t.all (inR 0 255) <;> cases t.any res <;> cases p.all isB <;> cases areV v <;> cases inR 0 5 c <;> cases decide (t.length ≤ 5) <;> cases decide (p.length ≤ 4) <;> rfl
end Go.Proofs.Ytchnkakjjbfklaa.Plain

/- How many lists reach the server, and by which version. No program. No condition. -/
set_option linter.unusedSimpArgs false
set_option linter.unusedVariables false
namespace Go.Proofs.Ytchnkakjjbfklaa.Plain
open Go.RowKit Go.Proofs.YtchnkakjjbfklaaW.PrintWords Go.Proofs.Ytchnkakjjbfklaa.Base Go.Proofs.Ytchnkakjjbfklaa.Print

/-- How many lists have v as their best version with the server. -/
def uses (s : List Int) (v : Int) : List (List Int) → Int
  | [] => 0
  | l :: r => (if best s l = v then 1 else 0) + uses s v r
/-- Does none fail? -/
def allR (s : List Int) (r : List (List Int)) : Bool := r.all (fun l => decide (best s l ≠ 0))
theorem uses_in (s : List Int) (v : Int) (r : List (List Int)) : 0 ≤ uses s v r ∧ uses s v r ≤ r.length := by
  induction r with
  | nil => simp [uses]
  | cons l r ih =>
    simp only [uses, List.length_cons]
    split <;> omega
end Go.Proofs.Ytchnkakjjbfklaa.Plain

/- slices.Contains on whole numbers. Condition: at most 10 to the 12 numbers. -/
set_option linter.unusedSimpArgs false
set_option linter.unusedVariables false
namespace Go.Proofs.Ytchnkakjjbfklaa.Plain
open Go.RowKit Go.Proofs.YtchnkakjjbfklaaW.PrintWords Go.Proofs.Ytchnkakjjbfklaa.Base Go.Proofs.Ytchnkakjjbfklaa.Print

theorem slIndex_l0 (x : Int) (suf : List Int) : ∀ (pre : List Int), (pre ++ suf).length ≤ 1000000000000 →
    ∃ r, slices_Index_int_int.l0v (pre ++ suf) x ((pre ++ suf).length : Int) (pre.length : Int) = some r ∧ decide (r ≥ 0) = mem suf x := by
  induction suf with
  | nil =>
    intro pre _
    refine ⟨-1, ?_, by simp [mem]⟩
    rw [slices_Index_int_int.l0v_eq, if_neg (nlt_end pre)]
  | cons y suf ih =>
    intro pre hl
    have hn : pre.length < (pre ++ y :: suf).length := by simp
    rw [slices_Index_int_int.l0v_eq, if_pos (lt_mid pre suf y), if_pos (by omega), if_pos (lt_mid pre suf y), rd_mid]
    by_cases hxy : x = y
    · rw [if_pos hxy]
      refine ⟨(pre.length : Int), rfl, ?_⟩
      rw [mem_cons, hxy]
      simp
    · rw [if_neg hxy, up_mid pre y hn hl]
      rw [mid_snoc pre suf y] at hl ⊢
      obtain ⟨r, h1, h2⟩ := ih (pre ++ [y]) hl
      refine ⟨r, h1, ?_⟩
      rw [h2, mem_cons]
      simp [show ¬ y = x from fun e => hxy e.symm]
theorem slHas_v (l : List Int) (x : Int) (hl : l.length ≤ 1000000000000) : slices_Contains_int_int.fv l x = some (mem l x) := by
  obtain ⟨r, h1, h2⟩ := slIndex_l0 x l [] (by simpa using hl)
  rw [slices_Contains_int_int.fv_eq, slices_Index_int_int.fv_eq]
  simp only [List.nil_append, List.length_nil, Int.natCast_zero] at h1
  rw [h1]
  simp [h2]
end Go.Proofs.Ytchnkakjjbfklaa.Plain

/- CommonOf, BestCommon and without, of the program. Condition: at most 10 to the 12 numbers each. -/
set_option linter.unusedSimpArgs false
set_option linter.unusedVariables false
namespace Go.Proofs.Ytchnkakjjbfklaa.Plain
open Go.RowKit Go.Proofs.YtchnkakjjbfklaaW.PrintWords Go.Proofs.Ytchnkakjjbfklaa.Base Go.Proofs.Ytchnkakjjbfklaa.Print

theorem implCom_l0 (b : List Int) (hb : b.length ≤ 1000000000000) (suf : List Int) : ∀ (pre out : List Int), (pre ++ suf).length ≤ 1000000000000 → out.length ≤ pre.length →
    impl_CommonOf.l0v b out (pre ++ suf) ((pre ++ suf).length : Int) (pre.length : Int) = some (out ++ com suf b) := by
  induction suf with
  | nil =>
    intro pre out _ _
    rw [impl_CommonOf.l0v_eq, if_neg (nlt_end pre)]
    simp [com]
  | cons x suf ih =>
    intro pre out hl ho
    have hn : pre.length < (pre ++ x :: suf).length := by simp
    have hp : pre.length < 1000000000000 := by omega
    rw [impl_CommonOf.l0v_eq, if_pos (lt_mid pre suf x), if_pos (by omega), if_pos (lt_mid pre suf x), rd_mid, slHas_v b x hb, up_mid pre x hn hl]
    simp only [Option.bind_some]
    rw [mid_snoc pre suf x] at hl ⊢
    cases hx : mem b x with
    | true =>
      rw [if_pos rfl, if_pos (by omega), ih (pre ++ [x]) (out ++ [x]) hl (by simp; omega)]
      simp [com, hx]
    | false =>
      rw [if_neg (by simp), ih (pre ++ [x]) out hl (by simp; omega)]
      simp [com, hx]
theorem implCom_v (a b : List Int) (ha : a.length ≤ 1000000000000) (hb : b.length ≤ 1000000000000) : impl_CommonOf.fv a b = some (com a b) := by
  rw [impl_CommonOf.fv_eq]
  simpa using implCom_l0 b hb a [] [] (by simpa using ha) (by simp)
theorem implMax_l0 (suf : List Int) : ∀ (pre : List Int) (m : Int), (pre ++ suf).length ≤ 1000000000000 → vers m suf = true →
    impl_BestCommon.l0v m (pre ++ suf) ((pre ++ suf).length : Int) (pre.length : Int) = some (suf.getLastD m) := by
  induction suf with
  | nil =>
    intro pre m _ _
    rw [impl_BestCommon.l0v_eq, if_neg (nlt_end pre)]
    simp
  | cons x suf ih =>
    intro pre m hl hv
    have hn : pre.length < (pre ++ x :: suf).length := by simp
    have hp : pre.length < 1000000000000 := by omega
    simp only [vers, Bool.and_eq_true, decide_eq_true_eq] at hv
    have hm : mx m x = x := by
      unfold mx
      split <;> omega
    rw [impl_BestCommon.l0v_eq, if_pos (lt_mid pre suf x), if_pos (by omega), if_pos (lt_mid pre suf x), rd_mid, up_mid pre x hn hl, hm]
    rw [mid_snoc pre suf x] at hl ⊢
    rw [ih (pre ++ [x]) x hl hv.2.2]
    rw [lastD_cons]
theorem implBest_v (a b : List Int) (ha : a.length ≤ 1000000000000) (hb : b.length ≤ 1000000000000) : impl_BestCommon.fv a b = some (best a b) := by
  rw [impl_BestCommon.fv_eq, implVers_v a ha, implVers_v b hb]
  simp only [Option.bind_some, impl_BestCommon.j0v_eq, implCom_v a b ha hb]
  unfold best
  cases h1 : areV a with
  | false => simp
  | true =>
    cases areV b with
    | false => simp
    | true =>
      have hc := com_len a b
      have hv : vers 0 (com a b) = true := vers_filter _ (by simp only [areV, Bool.and_eq_true] at h1; exact h1.1)
      have h := implMax_l0 (com a b) [] 0 (by simp; omega) hv
      simp only [List.nil_append, List.length_nil, Int.natCast_zero] at h
      simp [h]
end Go.Proofs.Ytchnkakjjbfklaa.Plain

/- AllReach, of the program. Condition: at most 10 to the 12 of each. -/
set_option linter.unusedSimpArgs false
set_option linter.unusedVariables false
namespace Go.Proofs.Ytchnkakjjbfklaa.Plain
open Go.RowKit Go.Proofs.YtchnkakjjbfklaaW.PrintWords Go.Proofs.Ytchnkakjjbfklaa.Base Go.Proofs.Ytchnkakjjbfklaa.Print

theorem implReach_l0 (s : List Int) (hs : s.length ≤ 1000000000000) (r : List (List Int)) : ∀ (pre : List (List Int)), (pre ++ r).length ≤ 1000000000000 → (∀ x ∈ r, x.length ≤ 1000000000000) →
    ∃ q, slices_IndexFunc_int_int_with_impl_AllReach_1.l0v (pre ++ r) ((pre ++ r).length : Int) (pre.length : Int) s = some q ∧ decide (q ≥ 0) = !(allR s r) := by
  induction r with
  | nil =>
    intro pre _ _
    refine ⟨-1, ?_, by simp [allR]⟩
    rw [slices_IndexFunc_int_int_with_impl_AllReach_1.l0v_eq, if_neg (nlt_end pre)]
  | cons x r ih =>
    intro pre hl hr
    have hn : pre.length < (pre ++ x :: r).length := by simp
    rw [slices_IndexFunc_int_int_with_impl_AllReach_1.l0v_eq, if_pos (lt_mid pre r x), if_pos (by omega), if_pos (lt_mid pre r x), rdL1_mid, impl_AllReach_1.fv_eq, implBest_v s x hs (hr x List.mem_cons_self)]
    simp only [Option.bind_some, beq_iff_eq]
    by_cases hx : best s x = 0
    · rw [if_pos hx]
      refine ⟨(pre.length : Int), rfl, ?_⟩
      simp [allR, hx]
    · rw [if_neg hx, up_mid pre x hn hl]
      rw [mid_snoc pre r x] at hl ⊢
      obtain ⟨q, h1, h2⟩ := ih (pre ++ [x]) hl (fun y hy => hr y (List.mem_cons_of_mem _ hy))
      refine ⟨q, h1, ?_⟩
      rw [h2]
      simp [allR, hx]
theorem implReach_v (s : List Int) (r : List (List Int)) (hs : s.length ≤ 1000000000000) (hl : r.length ≤ 1000000000000) (hr : ∀ x ∈ r, x.length ≤ 1000000000000) : impl_AllReach.fv s r = some (areV s && allR s r) := by
  obtain ⟨q, h1, h2⟩ := implReach_l0 s hs r [] (by simpa using hl) hr
  simp only [List.nil_append, List.length_nil, Int.natCast_zero] at h1
  rw [impl_AllReach.fv_eq, slices_ContainsFunc_int_int_with_impl_AllReach_1.fv_eq, slices_IndexFunc_int_int_with_impl_AllReach_1.fv_eq, implVers_v s hs, h1]
  simp only [Option.bind_some, h2]
  cases areV s <;> simp
end Go.Proofs.Ytchnkakjjbfklaa.Plain

/- Membership, of the reference. Condition: at most 10 to the 12 numbers. -/
set_option linter.unusedSimpArgs false
set_option linter.unusedVariables false
namespace Go.Proofs.Ytchnkakjjbfklaa.Plain
open Go.RowKit Go.Proofs.YtchnkakjjbfklaaW.PrintWords Go.Proofs.Ytchnkakjjbfklaa.Base Go.Proofs.Ytchnkakjjbfklaa.Print

theorem l9Has_l0 (x : Int) (suf : List Int) : ∀ (pre : List Int), (pre ++ suf).length ≤ 1000000000000 →
    spec_l9Has.l0v (pre ++ suf) x (pre.length : Int) = some (mem suf x) := by
  induction suf with
  | nil =>
    intro pre _
    rw [spec_l9Has.l0v_eq, if_neg (nlt_end pre)]
    simp [mem]
  | cons y suf ih =>
    intro pre hl
    have hn : pre.length < (pre ++ y :: suf).length := by simp
    rw [spec_l9Has.l0v_eq, if_pos (lt_mid pre suf y), if_pos (by omega), rd_mid, mem_cons]
    by_cases hxy : y = x
    · rw [if_pos hxy]
      simp [hxy]
    · rw [if_neg hxy, up_mid pre y hn hl]
      rw [mid_snoc pre suf y] at hl ⊢
      rw [ih (pre ++ [y]) hl]
      simp [hxy]
theorem l9Has_v (l : List Int) (x : Int) (hl : l.length ≤ 1000000000000) : spec_l9Has.fv l x = some (mem l x) := by
  rw [spec_l9Has.fv_eq]
  simpa using l9Has_l0 x l [] (by simpa using hl)
end Go.Proofs.Ytchnkakjjbfklaa.Plain

/- CommonOf and BestCommon, of the reference. Condition: at most 10 to the 12 numbers each. -/
set_option linter.unusedSimpArgs false
set_option linter.unusedVariables false
namespace Go.Proofs.Ytchnkakjjbfklaa.Plain
open Go.RowKit Go.Proofs.YtchnkakjjbfklaaW.PrintWords Go.Proofs.Ytchnkakjjbfklaa.Base Go.Proofs.Ytchnkakjjbfklaa.Print

theorem specCom_l0 (b : List Int) (hb : b.length ≤ 1000000000000) (suf : List Int) : ∀ (pre out : List Int), (pre ++ suf).length ≤ 1000000000000 → out.length ≤ pre.length →
    spec_CommonOf.l0v (pre ++ suf) b out (pre.length : Int) = some (out ++ com suf b) := by
  induction suf with
  | nil =>
    intro pre out _ _
    rw [spec_CommonOf.l0v_eq, if_neg (nlt_end pre)]
    simp [com]
  | cons x suf ih =>
    intro pre out hl ho
    have hn : pre.length < (pre ++ x :: suf).length := by simp
    have hp : pre.length < 1000000000000 := by omega
    rw [spec_CommonOf.l0v_eq, if_pos (lt_mid pre suf x), if_pos (by omega), rd_mid, l9Has_v b x hb, up_mid pre x hn hl]
    simp only [Option.bind_some]
    rw [mid_snoc pre suf x] at hl ⊢
    cases hx : mem b x with
    | true =>
      rw [if_pos rfl, if_pos (by omega), ih (pre ++ [x]) (out ++ [x]) hl (by simp; omega)]
      simp [com, hx]
    | false =>
      rw [if_neg (by simp), ih (pre ++ [x]) out hl (by simp; omega)]
      simp [com, hx]
theorem specCom_v (a b : List Int) (ha : a.length ≤ 1000000000000) (hb : b.length ≤ 1000000000000) : spec_CommonOf.fv a b = some (com a b) := by
  rw [spec_CommonOf.fv_eq]
  simpa using specCom_l0 b hb a [] [] (by simpa using ha) (by simp)
theorem specBest_v (a b : List Int) (ha : a.length ≤ 1000000000000) (hb : b.length ≤ 1000000000000) : spec_BestCommon.fv a b = some (best a b) := by
  rw [spec_BestCommon.fv_eq, specCom_v a b ha hb, specVers_v a ha, specVers_v b hb]
  simp only [Option.bind_some, best]
  cases areV a with
  | false => simp
  | true =>
    cases areV b with
    | false => simp
    | true =>
      have hc := com_len a b
      simp only [if_true, Bool.and_self]
      by_cases h : (com a b).length = 0
      · have h' : com a b = [] := List.length_eq_zero_iff.mp h
        simp [h']
      · have hp : com a b ≠ [] := fun e => h (by rw [e]; rfl)
        rw [if_neg (by omega), w64 (by omega) (by omega), if_pos (by omega), if_pos (by omega)]
        have := rd_lastD (com a b) [] hp
        rw [List.append_nil] at this
        rw [this]
end Go.Proofs.Ytchnkakjjbfklaa.Plain

/- AllReach, of the reference. Condition: at most 10 to the 12 of each. -/
set_option linter.unusedSimpArgs false
set_option linter.unusedVariables false
namespace Go.Proofs.Ytchnkakjjbfklaa.Plain
open Go.RowKit Go.Proofs.YtchnkakjjbfklaaW.PrintWords Go.Proofs.Ytchnkakjjbfklaa.Base Go.Proofs.Ytchnkakjjbfklaa.Print

theorem specReach_l0 (s : List Int) (hs : s.length ≤ 1000000000000) (r : List (List Int)) : ∀ (pre : List (List Int)), (pre ++ r).length ≤ 1000000000000 → (∀ x ∈ r, x.length ≤ 1000000000000) →
    spec_AllReach.l0v s (pre ++ r) (pre.length : Int) = some (areV s && allR s r) := by
  induction r with
  | nil =>
    intro pre _ _
    rw [spec_AllReach.l0v_eq, if_neg (nlt_end pre), specVers_v s hs]
    simp [allR]
  | cons x r ih =>
    intro pre hl hr
    have hn : pre.length < (pre ++ x :: r).length := by simp
    rw [spec_AllReach.l0v_eq, if_pos (lt_mid pre r x), if_pos (by omega), rdL1_mid, specBest_v s x hs (hr x List.mem_cons_self)]
    simp only [Option.bind_some]
    by_cases hx : best s x = 0
    · rw [if_pos hx]
      simp [allR, hx]
    · rw [if_neg hx, up_mid pre x hn hl]
      rw [mid_snoc pre r x] at hl ⊢
      rw [ih (pre ++ [x]) hl (fun y hy => hr y (List.mem_cons_of_mem _ hy))]
      simp [allR, hx]
theorem specReach_v (s : List Int) (r : List (List Int)) (hs : s.length ≤ 1000000000000) (hl : r.length ≤ 1000000000000) (hr : ∀ x ∈ r, x.length ≤ 1000000000000) : spec_AllReach.fv s r = some (areV s && allR s r) := by
  rw [spec_AllReach.fv_eq]
  simpa using specReach_l0 s hs r [] (by simpa using hl) hr
end Go.Proofs.Ytchnkakjjbfklaa.Plain

/- IsWorld, of both sides. Condition: at most 10 to the 12 of each. -/
set_option linter.unusedSimpArgs false
set_option linter.unusedVariables false
namespace Go.Proofs.Ytchnkakjjbfklaa.Plain
open Go.RowKit Go.Proofs.YtchnkakjjbfklaaW.PrintWords Go.Proofs.Ytchnkakjjbfklaa.Base Go.Proofs.Ytchnkakjjbfklaa.Print

def isEn (e : S50) : Bool := isE e.f0 e.f1 e.f2 e.f3
def isW2 (g : List Int) (b p : Int) (d : List S55) (l : List S57) (x y z : Int) : Bool :=
  inR 1 100 b && (inR 0 100 p && (decide (d.length ≤ 60) && (decide (l.length ≤ 60) && (inR 0 10000 x && (inR 0 (l.length : Int) y && inR 0 (g.length : Int) z)))))
def isW1 (s t : List Int) (c : Int) (e : List S50) (v : Int) (g : List Int) (a : Int) : Bool :=
  areV s && ((asc none t && t.all (inR 0 255)) && (inR 1 2147483646 c && (decide (e.length ≤ 6) && (isR v g a && (mem s v && allR s (e.map (·.f0)))))))
/-- Is it a world? -/
def isW (s t : List Int) (c : Int) (e : List S50) (v : Int) (g : List Int) (a b p : Int) (d : List S55) (l : List S57) (x y z : Int) : Bool :=
  e.all isEn && (isW1 s t c e v g a && isW2 g b p d l x y z)
theorem specKey_f (c : Int) : spec_IsValidKey.f c = some (inR 1 2147483646 c) := by
  unfold spec_IsValidKey.f
  rw [l1In_f]
  rfl
theorem implKey_f (c : Int) : impl_IsValidKey.f c = some (inR 1 2147483646 c) := by
  unfold impl_IsValidKey.f
  rw [inRange_f]
  rfl
theorem lists_ok {e : List S50} (hs : ∀ x ∈ e, okEn x) : ∀ x ∈ e.map (·.f0), x.length ≤ 1000000000000 := fun x hx => by
  obtain ⟨y, hy, rfl⟩ := List.mem_map.1 hx
  exact (hs y hy).1
theorem implAllE_l0 (suf : List S50) : ∀ (pre : List S50), (pre ++ suf).length ≤ 1000000000000 → (∀ x ∈ suf, okEn x) →
    ∃ r, slices_IndexFunc_impl_Endpoint_impl_Endpoint_with_impl_IsWorld_1.l0v (pre ++ suf) ((pre ++ suf).length : Int) (pre.length : Int) = some r ∧ decide (r ≥ 0) = !(suf.all isEn) := by
  induction suf with
  | nil =>
    intro pre _ _
    refine ⟨-1, ?_, by simp⟩
    rw [slices_IndexFunc_impl_Endpoint_impl_Endpoint_with_impl_IsWorld_1.l0v_eq, if_neg (nlt_end pre)]
  | cons x suf ih =>
    intro pre hl hs
    have hn : pre.length < (pre ++ x :: suf).length := by simp
    obtain ⟨a1, a2, a3, a4⟩ := hs x List.mem_cons_self
    rw [slices_IndexFunc_impl_Endpoint_impl_Endpoint_with_impl_IsWorld_1.l0v_eq, if_pos (lt_mid pre suf x), if_pos (by omega), if_pos (lt_mid pre suf x), rdEnd_mid, impl_IsWorld_1.fv_eq, implIsE_v _ _ _ _ a1 a2 a3 a4]
    simp only [Option.bind_some]
    rw [show isE x.f0 x.f1 x.f2 x.f3 = isEn x from rfl]
    cases hx : isEn x with
    | false =>
      rw [if_pos (show (!false) = true from rfl)]
      exact ⟨(pre.length : Int), rfl, by simp [hx]⟩
    | true =>
      rw [if_neg (by simp), up_mid pre x hn hl]
      rw [mid_snoc pre suf x] at hl ⊢
      obtain ⟨r, h1, h2⟩ := ih (pre ++ [x]) hl (fun y hy => hs y (List.mem_cons_of_mem _ hy))
      exact ⟨r, h1, by rw [h2]; simp [hx]⟩
theorem implAllE_v (l : List S50) (hl : l.length ≤ 1000000000000) (hs : ∀ x ∈ l, okEn x) : slices_ContainsFunc_impl_Endpoint_impl_Endpoint_with_impl_IsWorld_1.fv l = some (!(l.all isEn)) := by
  obtain ⟨r, h1, h2⟩ := implAllE_l0 l [] (by simpa using hl) hs
  rw [slices_ContainsFunc_impl_Endpoint_impl_Endpoint_with_impl_IsWorld_1.fv_eq, slices_IndexFunc_impl_Endpoint_impl_Endpoint_with_impl_IsWorld_1.fv_eq]
  simp only [List.nil_append, List.length_nil, Int.natCast_zero] at h1
  rw [h1]
  simp only [Option.bind_some, h2]
section
variable (s t : List Int) (c : Int) (e : List S50) (v : Int) (g : List Int) (a : Int) (f : Bool) (b p : Int) (d : List S55) (l : List S57) (x y z : Int)
theorem implW_j2 (q : Bool) : impl_IsWorld.j2v q s t c e v g a f b p d l x y z = some (!q && (decide (d.length ≤ 60) && (decide (l.length ≤ 60) && (inR 0 10000 x && (inR 0 (l.length : Int) y && inR 0 (g.length : Int) z))))) := by
  rw [impl_IsWorld.j2v_eq]
  cases q with
  | true => rfl
  | false =>
    rw [if_neg (by simp)]
    by_cases h1 : d.length ≤ 60
    · by_cases h2 : l.length ≤ 60
      · rw [if_pos (by omega), if_pos (by omega), inRange_f, Option.bind_some, inRange_f, Option.bind_some, inRange_f, Option.bind_some]
        simp only [h1, h2, decide_true, Bool.not_false, Bool.true_and]
        cases inR 0 10000 x <;> cases inR 0 (l.length : Int) y <;> rfl
      · rw [if_pos (by omega), if_neg (by omega)]
        simp [h2]
    · rw [if_neg (by omega)]
      simp [h1]
theorem implW_j1 (hs : s.length ≤ 1000000000000) (hg : g.length ≤ 1000000000000) (q : Bool) : impl_IsWorld.j1v q s t c e v g a f b p d l x y z = some (!q && (isR v g a && (mem s v && isW2 g b p d l x y z))) := by
  rw [impl_IsWorld.j1v_eq]
  cases q with
  | true => rfl
  | false =>
    rw [if_neg (by simp), implIsR_v v g a f hg, Option.bind_some, slHas_v s v hs, Option.bind_some, inRange_f, Option.bind_some, inRange_f, Option.bind_some]
    simp only [implW_j2, isW2, Bool.not_false, Bool.true_and, Bool.not_not, Bool.not_true, Bool.false_and]
    cases isR v g a <;> cases mem s v <;> cases inR 1 100 b <;> simp
theorem implIsW_v (hs : s.length ≤ 1000000000000) (ht : t.length ≤ 1000000000000) (he : e.length ≤ 1000000000000) (hx : ∀ x ∈ e, okEn x) (hg : g.length ≤ 1000000000000) : impl_IsWorld.fv s t c e v g a f b p d l x y z = some (isW s t c e v g a b p d l x y z) := by
  rw [impl_IsWorld.fv_eq, implLists_v s t c e v g a f b p d l x y z he hx, Option.bind_some, implReach_v s _ hs (by rw [List.length_map]; exact he) (lists_ok hx), Option.bind_some, implTags_v t ht, Option.bind_some, implKey_f, Option.bind_some]
  simp only [impl_IsWorld.j0v_eq, implAllE_v e he hx, Option.bind_some, implW_j1 s t c e v g a f b p d l x y z hs hg, isW, isW1]
  by_cases h1 : e.length ≤ 6
  · have h6 : ¬ (e.length : Int) > 6 := by omega
    simp only [h1, h6, decide_true, if_true, if_false]
    generalize areV s = x0
    generalize allR s (e.map (·.f0)) = x1
    generalize (asc none t && t.all (inR 0 255)) = x2
    generalize inR 1 2147483646 c = x3
    generalize e.all isEn = x4
    generalize isR v g a = x5
    generalize mem s v = x6
    generalize isW2 g b p d l x y z = x7
    cases x0 <;> cases x1 <;> cases x2 <;> cases x3 <;> cases x4 <;> cases x5 <;> cases x6 <;> cases x7 <;> rfl
  · have h6 : (e.length : Int) > 6 := by omega
    simp only [h1, h6, decide_false, Bool.and_false, Bool.false_and, Bool.not_true, if_true, ite_self]
theorem specW_j1 (q : Bool) : spec_IsWorld.j1v q s t c e v g a f b p d l x y z = some (!q && isW2 g b p d l x y z) := by
  rw [spec_IsWorld.j1v_eq]
  cases q with
  | true => rfl
  | false =>
    rw [if_neg (by simp), l1In_f, Option.bind_some, l1In_f, Option.bind_some, l1In_f, Option.bind_some, l1In_f, Option.bind_some, l1In_f, Option.bind_some]
    simp only [isW2]
    by_cases h1 : d.length ≤ 60
    · by_cases h2 : l.length ≤ 60
      · rw [if_pos (show (d.length : Int) ≤ 60 by omega), if_pos (show (l.length : Int) ≤ 60 by omega)]
        simp only [h1, h2, decide_true, Bool.not_false, Bool.true_and]
        cases inR 1 100 b <;> cases inR 0 100 p <;> cases inR 0 10000 x <;> cases inR 0 (l.length : Int) y <;> rfl
      · rw [if_neg (show ¬ (l.length : Int) ≤ 60 by omega)]
        simp [h2]
    · rw [if_neg (show ¬ (d.length : Int) ≤ 60 by omega)]
      simp [h1]
end
theorem specW_l0 (s t : List Int) (c v : Int) (g : List Int) (a : Int) (f : Bool) (b p : Int) (d : List S55) (l : List S57) (x' y' z' : Int) (hs : s.length ≤ 1000000000000) (ht : t.length ≤ 1000000000000) (hg : g.length ≤ 1000000000000) (suf : List S50) : ∀ (pre : List S50), (pre ++ suf).length ≤ 1000000000000 → (∀ x ∈ pre ++ suf, okEn x) →
    spec_IsWorld.l0v (pre.length : Int) s t c (pre ++ suf) v g a f b p d l x' y' z' = some (suf.all isEn && (isW1 s t c (pre ++ suf) v g a && isW2 g b p d l x' y' z')) := by
  induction suf with
  | nil =>
    intro pre hl hx
    have h9 : (pre ++ ([] : List S50)).length ≤ 1000000000000 := hl
    rw [spec_IsWorld.l0v_eq, if_neg (nlt_end pre), specVers_v s hs, Option.bind_some, specTagsW_v t ht, Option.bind_some, specKey_f, Option.bind_some, specIsR_v v g a f hg, Option.bind_some, l9Has_v s v hs, Option.bind_some, specLists_v s t c (pre ++ []) v g a f b p d l x' y' z' hl hx, Option.bind_some, specReach_v s _ hs (by rw [List.length_map]; exact hl) (lists_ok hx), Option.bind_some]
    simp only [specW_j1, isW1, List.all_nil, Bool.true_and]
    by_cases h1 : (pre ++ ([] : List S50)).length ≤ 6
    · rw [if_neg (show ¬ ((pre ++ ([] : List S50)).length : Int) > 6 by omega)]
      simp only [h1, decide_true]
      generalize areV s = x0
      generalize allR s ((pre ++ ([] : List S50)).map (·.f0)) = x1
      generalize (asc none t && t.all (inR 0 255)) = x2
      generalize inR 1 2147483646 c = x3
      generalize isR v g a = x5
      generalize mem s v = x6
      generalize isW2 g b p d l x' y' z' = x7
      cases x0 <;> cases x1 <;> cases x2 <;> cases x3 <;> cases x5 <;> cases x6 <;> cases x7 <;> rfl
    · rw [if_pos (show ((pre ++ ([] : List S50)).length : Int) > 6 by omega)]
      simp only [h1, decide_false, Bool.and_false, Bool.false_and, Bool.not_true, ite_self]
  | cons x suf ih =>
    intro pre hl hx
    have hn : pre.length < (pre ++ x :: suf).length := by simp
    obtain ⟨a1, a2, a3, a4⟩ := hx x (by simp)
    rw [spec_IsWorld.l0v_eq, if_pos (lt_mid pre suf x), if_pos (by omega), rdEnd_mid, specIsE_v _ _ _ _ a1 a2 a3 a4, Option.bind_some, up_mid pre x hn hl]
    rw [show isE x.f0 x.f1 x.f2 x.f3 = isEn x from rfl]
    simp only [List.all_cons]
    cases hq : isEn x with
    | false => rfl
    | true =>
      rw [if_pos rfl, Bool.true_and]
      rw [mid_snoc pre suf x] at hl hx ⊢
      exact ih (pre ++ [x]) hl hx
theorem specIsW_v (s t : List Int) (c : Int) (e : List S50) (v : Int) (g : List Int) (a : Int) (f : Bool) (b p : Int) (d : List S55) (l : List S57) (x y z : Int) (hs : s.length ≤ 1000000000000) (ht : t.length ≤ 1000000000000) (he : e.length ≤ 1000000000000) (hx : ∀ x ∈ e, okEn x) (hg : g.length ≤ 1000000000000) : spec_IsWorld.fv s t c e v g a f b p d l x y z = some (isW s t c e v g a b p d l x y z) := by
  rw [spec_IsWorld.fv_eq]
  exact specW_l0 s t c v g a f b p d l x y z hs ht hg e [] (by simpa using he) (by simpa using hx)
end Go.Proofs.Ytchnkakjjbfklaa.Plain

/- FnExactIsWorld: whatever the world, the program's IsWorld and the reference's IsWorld return the same and leave the world as it was. No condition. -/
set_option linter.unusedSimpArgs false
set_option linter.unusedVariables false
namespace Go.Proofs.Ytchnkakjjbfklaa.Pure
open Go.RowKit Go.Proofs.YtchnkakjjbfklaaW.PrintWords Go.Proofs.Ytchnkakjjbfklaa.Base Go.Proofs.Ytchnkakjjbfklaa.Print Go.Proofs.Ytchnkakjjbfklaa.Plain

theorem FnExactIsWorld : laws_FnExactIsWorld.Pure := by
  rintro ⟨s, t, c, e, ⟨v, g, a, f⟩, b, p, d, l, x, y, z⟩ ⟨⟨hs, _⟩, ⟨ht, _⟩, _, ⟨he, hE⟩, ⟨_, ⟨hg, _⟩, _, _⟩, _, _, ⟨hd, hD⟩, ⟨hl, hL⟩, _, _, _⟩
  have hs : s.length * 8 ≤ 140737488351232 := hs
  have ht : t.length * 8 ≤ 140737488351232 := ht
  have hg : g.length * 8 ≤ 140737488351232 := hg
  have he : e.length * 80 ≤ 140737488351232 := he
  have hd : d.length * 72 ≤ 140737488351232 := hd
  have hl : l.length * 96 ≤ 140737488351232 := hl
  have hf : fitW s t e g d l := by
    refine ⟨by omega, by omega, ⟨by omega, fun q hq => ?_⟩, by omega, ⟨by omega, fun q hq => ?_⟩, by omega, fun q hq => ?_⟩
    · obtain ⟨⟨h1, _⟩, ⟨h2, _⟩, ⟨h3, h4⟩, _⟩ := hE q hq
      have h3 : q.f2.length * 64 ≤ 140737488351232 := h3
      refine ⟨by omega, by omega, by omega, fun r hr => ?_⟩
      obtain ⟨_, ⟨h5, _⟩, ⟨h6, _⟩, _⟩ := h4 r hr
      exact ⟨by omega, by omega⟩
    · obtain ⟨⟨_, _, ⟨h5, _⟩⟩, _, ⟨h6, _⟩⟩ := hD q hq
      exact ⟨by omega, by omega⟩
    · obtain ⟨_, _, _, ⟨_, _, ⟨h5, _⟩⟩, _, ⟨h6, _⟩⟩ := hL q hq
      exact ⟨by omega, by omega⟩
  refine ends (g := fun k => laws_FnExactIsWorld.f k s t c e v g a f b p d l x y z) ?_
  show laws_FnExactIsWorld.fv s t c e v g a f b p d l x y z = some true
  rw [laws_FnExactIsWorld.fv_eq, szWorld_v s t c e v g a f b p d l x y z 1048576 (by omega) (by omega) hf]
  simp only [Option.bind_some]
  by_cases h1 : less (szWo s t e g d l) 1048576 < 0
  · rw [if_pos h1]
  · have o := okW_less (by omega) (Int.not_lt.mp h1)
    have oE : ∀ q ∈ e.map toE, okEn q := fun q hm => by
      obtain ⟨r, hr, rfl⟩ := List.mem_map.1 hm
      exact okE_of (o.2.2.1.2 r hr)
    have oe : (e.map toE).length ≤ 1000000000000 := by
      rw [List.length_map]
      exact o.2.2.1.1
    rw [if_neg h1, toWorld_v s t c e v g a f b p d l x y z o]
    simp only [Option.bind_some, specIsW_v s t c (e.map toE) v g a f b p (d.map toD) (l.map toLg) x y z o.1 o.2.1 oe oE o.2.2.2.1, implIsW_v s t c (e.map toE) v g a f b p (d.map toD) (l.map toLg) x y z o.1 o.2.1 oe oE o.2.2.2.1, eqWorld_v s t c e v g a f b p d l x y z o]
    first | rfl | simp | (cases isW s t c (e.map toE) v g a b p (d.map toD) (l.map toLg) x y z <;> simp)
end Go.Proofs.Ytchnkakjjbfklaa.Pure
