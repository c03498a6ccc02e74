/- FnExactListsOf: whatever the world, the program's ListsOf and the reference's ListsOf return the same, leave the world as it was, and the result shares no memory. No condition. -/
import Derived.Test.YtfhndlgbjhffiaaLimsFnExactListsOf
import Derived.Test.YtfhndlgbjhffiaaPrint1
import Derived.Test.YtfhndlgbjhffiaaPrint0
import Derived.Test.YtfhndlgbjhffiaaPrint6
import Derived.Test.YtfhndlgbjhffiaaShapes
import Derived.Test.YtfhndlgbjhffiaaPrint7
/- Lists read by a whole number's index, and whole numbers that fit. No condition. -/
set_option linter.unusedSimpArgs false
set_option linter.unusedVariables false
namespace Go.Proofs.Ytfhndlgbjhffiaa.Plain
open Go.RowKit Go.Proofs.YtfhndlgbjhffiaaW.PrintWords

theorem w64 {x : Int} (h0 : -9223372036854775808 ≤ x) (h1 : x ≤ 9223372036854775807) : wrap64 x = x := by
  unfold wrap64
  omega
theorem rd_mid (pre suf : List Int) (x : Int) : rd (pre ++ x :: suf) (pre.length : Int) = x := by simp [rd]
theorem lt_mid {α : Type} (pre suf : List α) (x : α) : (pre.length : Int) < ((pre ++ x :: suf).length : Int) := by
  simp
  omega
theorem nlt_end {α : Type} (pre : List α) : ¬ (pre.length : Int) < ((pre ++ []).length : Int) := by simp
theorem up_mid {α : Type} (pre : List α) (x : α) {n : Nat} (h : pre.length < n) (hn : n ≤ 1000000000000) : wrap64 ((pre.length : Int) + 1) = ((pre ++ [x]).length : Int) := by
  rw [w64 (by omega) (by omega)]
  simp
theorem set_mid {α : Type} (pre suf : List α) (x y : α) : (pre ++ x :: suf).set (pre.length : Int).toNat y = (pre ++ [y]) ++ suf := by
  rw [Int.toNat_natCast, List.set_append_right _ _ (Nat.le_refl _), Nat.sub_self]
  simp
theorem mid_snoc {α : Type} (pre suf : List α) (x : α) : pre ++ x :: suf = (pre ++ [x]) ++ suf := by simp
theorem beq_ints (a b : List Int) : (a == b) = decide (a = b) := by
  by_cases h : a = b <;> simp [h]
end Go.Proofs.Ytfhndlgbjhffiaa.Plain

/- What the law's own helpers on slices of whole numbers come to: a copy, equality, marks. Condition: the slice has at most 2 to the 40 numbers. -/
set_option linter.unusedSimpArgs false
set_option linter.unusedVariables false
namespace Go.Proofs.Ytfhndlgbjhffiaa.Plain
open Go.RowKit Go.Proofs.YtfhndlgbjhffiaaW.PrintWords Go.Proofs.Ytfhndlgbjhffiaa.Base Go.Proofs.Ytfhndlgbjhffiaa.Print

theorem toIntS_l0 (suf : List Int) : ∀ (pre rest : List Int), rest.length = suf.length → (pre ++ suf).length ≤ 1000000000000 → laws_toIntS.l0v (pre ++ suf) (pre ++ rest) (pre.length : Int) = some (pre ++ suf) := by
  induction suf with
  | nil =>
    intro pre rest hr _
    rw [laws_toIntS.l0v_eq, if_neg (nlt_end pre)]
    simp at hr
    rw [hr]
  | cons x suf ih =>
    intro pre rest hr hl
    cases rest with
    | nil => simp at hr
    | cons y rest =>
      have hn : pre.length < (pre ++ x :: suf).length := by simp
      rw [laws_toIntS.l0v_eq, if_pos (lt_mid pre suf x), if_pos (by omega), if_pos (lt_mid pre rest y), rd_mid, set_mid, up_mid pre x hn hl]
      rw [mid_snoc pre suf x] at hl ⊢
      have h1 := ih (pre ++ [x]) rest (by simpa using hr) hl
      simp only [List.length_append, List.length_cons, List.length_nil] at h1 ⊢
      exact h1

theorem toIntS_v (l : List Int) (hl : l.length ≤ 1000000000000) : laws_toIntS.fv l = some l := by
  rw [laws_toIntS.fv_eq, if_pos (by omega), if_pos (by omega)]
  have h := toIntS_l0 l [] (List.replicate ((l.length : Int) : Int).toNat 0) (by simp) (by simpa using hl)
  simpa using h

theorem eqIntS_l0 (sa : List Int) : ∀ (pre sb : List Int), sb.length = sa.length → (pre ++ sa).length ≤ 1000000000000 → laws_eqIntS.l0v (pre ++ sa) (pre ++ sb) (pre.length : Int) = some (decide (sa = sb)) := by
  induction sa with
  | nil =>
    intro pre sb hr _
    rw [laws_eqIntS.l0v_eq, if_neg (nlt_end pre)]
    simp at hr
    simp [hr]
  | cons x sa ih =>
    intro pre sb hr hl
    cases sb with
    | nil => simp at hr
    | cons y sb =>
      have hn : pre.length < (pre ++ x :: sa).length := by simp
      rw [laws_eqIntS.l0v_eq, if_pos (lt_mid pre sa x), if_pos (by omega), if_pos (lt_mid pre sb y), rd_mid, rd_mid, up_mid pre x hn hl]
      by_cases hxy : x = y
      · subst hxy
        rw [if_pos rfl]
        rw [mid_snoc pre sa x] at hl ⊢
        rw [mid_snoc pre sb x]
        rw [ih (pre ++ [x]) sb (by simpa using hr) hl]
        simp
      · rw [if_neg hxy]
        simp [hxy]

theorem eqIntS_v (a b : List Int) (hl : a.length ≤ 1000000000000) : laws_eqIntS.fv a b = some (decide (a = b)) := by
  rw [laws_eqIntS.fv_eq]
  by_cases h : a.length = b.length
  · rw [if_pos (by omega)]
    have h1 := eqIntS_l0 a [] b h.symm (by simpa using hl)
    simpa using h1
  · rw [if_neg (by omega)]
    have : a ≠ b := fun e => h (by rw [e])
    simp [this]
end Go.Proofs.Ytfhndlgbjhffiaa.Plain

/- What is left of a size, row by row. Condition: at most 2 to the 20 is left. -/
set_option linter.unusedSimpArgs false
set_option linter.unusedVariables false
namespace Go.Proofs.Ytfhndlgbjhffiaa.Plain
open Go.RowKit Go.Proofs.YtfhndlgbjhffiaaW.PrintWords Go.Proofs.Ytfhndlgbjhffiaa.Base Go.Proofs.Ytfhndlgbjhffiaa.Print

theorem szIntS_f (l : List Int) (n : Int) (h0 : 0 ≤ n) (h : n ≤ 1048576) (hl : l.length ≤ 1000000000000000000) : laws_szIntS.f l n = some (if n < l.length then -1 else n - l.length) := by
  unfold laws_szIntS.f
  rw [w64 (by omega) (by omega)]
  by_cases hc : n < l.length
  · rw [if_pos (by omega), if_pos hc]
  · rw [if_neg (by omega), if_neg hc]
/-- What is left of n behind the rows, each with a size of its own; -1 where they are too large. -/
def sizes {α : Type} (f : α → Nat) : List α → Int → Int
  | [], n => n
  | x :: l, n => if n < (f x : Int) then -1 else sizes f l (n - (f x : Int))
/-- The same, with one for each row. -/
def sizeOf1 {α : Type} (f : α → Nat) (l : List α) (n : Int) : Int := if n < (l.length : Int) then -1 else sizes f l (n - (l.length : Int))
theorem sizes_le {α : Type} (f : α → Nat) (l : List α) : ∀ n : Int, 0 ≤ sizes f l n → sizes f l n ≤ n ∧ ∀ x ∈ l, (f x : Int) ≤ n := by
  induction l with
  | nil =>
    intro n h
    exact ⟨Int.le_refl _, fun x hx => by cases hx⟩
  | cons y l ih =>
    intro n h
    simp only [sizes] at h ⊢
    by_cases hc : n < (f y : Int)
    · rw [if_pos hc] at h
      omega
    · rw [if_neg hc] at h ⊢
      obtain ⟨h1, h2⟩ := ih _ h
      refine ⟨by omega, fun x hx => ?_⟩
      cases hx with
      | head => omega
      | tail _ hx =>
        have := h2 x hx
        omega
theorem sizeOf1_le {α : Type} (f : α → Nat) (l : List α) (n : Int) (h : 0 ≤ sizeOf1 f l n) : sizeOf1 f l n ≤ n ∧ (l.length : Int) ≤ n ∧ ∀ x ∈ l, (f x : Int) ≤ n := by
  unfold sizeOf1 at h ⊢
  by_cases hc : n < (l.length : Int)
  · rw [if_pos hc] at h
    omega
  · rw [if_neg hc] at h ⊢
    obtain ⟨h1, h2⟩ := sizes_le f l _ h
    exact ⟨by omega, by omega, fun x hx => by
      have := h2 x hx
      omega⟩
theorem sizes_neg {α : Type} (f : α → Nat) (l : List α) : ∀ n : Int, 0 ≤ n → sizes f l n < 0 → sizes f l n = -1 := by
  induction l with
  | nil =>
    intro n h0 h
    simp only [sizes] at h
    omega
  | cons y l ih =>
    intro n h0 h
    simp only [sizes] at h ⊢
    by_cases hc : n < (f y : Int)
    · rw [if_pos hc]
    · rw [if_neg hc] at h ⊢
      exact ih _ (by omega) h
end Go.Proofs.Ytfhndlgbjhffiaa.Plain

/- When two boxes, and two paths, are the same. No program. No condition. -/
set_option linter.unusedSimpArgs false
set_option linter.unusedVariables false
namespace Go.Proofs.Ytfhndlgbjhffiaa.Plain
open Go.RowKit Go.Proofs.YtfhndlgbjhffiaaW.PrintWords Go.Proofs.Ytfhndlgbjhffiaa.Base Go.Proofs.Ytfhndlgbjhffiaa.Print

theorem rdBox_mid (pre suf : List S102) (x : S102) : rd_T102 (pre ++ x :: suf) (pre.length : Int) = x := by simp [rd_T102]
/-- Its rows are not too long. -/
def okB (b : S102) : Prop := b.f1.length ≤ 1000000000000 ∧ b.f2.length ≤ 1000000000000
def eqB (a b : S102) : Bool := decide (a.f0 = b.f0) && (decide (a.f1 = b.f1) && (decide (a.f2 = b.f2) && (a.f3 == b.f3)))
def eqBs : List S102 → List S102 → Bool
  | [], [] => true
  | a :: l, b :: m => eqB a b && eqBs l m
  | _, _ => false
theorem eqBs_len {l m : List S102} : l.length ≠ m.length → eqBs l m = false := by
  induction l generalizing m with
  | nil =>
    intro h
    cases m with
    | nil => exact absurd rfl h
    | cons b m => rfl
  | cons a l ih =>
    intro h
    cases m with
    | nil => rfl
    | cons b m =>
      simp only [eqBs]
      rw [ih (by simpa using h), Bool.and_false]
end Go.Proofs.Ytfhndlgbjhffiaa.Plain

/- Boxes: their sizes, copies and equality, as the law's helpers tell them. Condition: at most 10 to the 12 of each. -/
set_option linter.unusedSimpArgs false
set_option linter.unusedVariables false
namespace Go.Proofs.Ytfhndlgbjhffiaa.Plain
open Go.RowKit Go.Proofs.YtfhndlgbjhffiaaW.PrintWords Go.Proofs.Ytfhndlgbjhffiaa.Base Go.Proofs.Ytfhndlgbjhffiaa.Print

theorem rdBoxL_mid (pre suf : List S104) (x : S104) : rd_T104 (pre ++ x :: suf) (pre.length : Int) = x := by simp [rd_T104]
/-- The law's box as the program's. -/
def toB (b : S104) : S102 := ⟨b.f0, b.f1, b.f2, b.f3⟩
def szB (b : S104) : Nat := b.f1.length + b.f2.length
theorem szBox_f (a : Int) (l m : List Int) (f : Bool) (n : Int) (h0 : 0 ≤ n) (h : n ≤ 1048576) (hl : l.length ≤ 1000000000000000000) (hm : m.length ≤ 1000000000000000000) : laws_szBox.f a l m f n = some (if n < ((l.length + m.length : Nat) : Int) then -1 else n - ((l.length + m.length : Nat) : Int)) := by
  unfold laws_szBox.f
  rw [szIntS_f l n h0 h hl]
  simp only [Option.bind_some]
  by_cases hc : n < (l.length : Int)
  · rw [if_pos hc, if_pos (by omega), if_pos (by omega)]
  · rw [if_neg hc, if_neg (by omega), szIntS_f m _ (by omega) (by omega) hm]
    simp only [Option.bind_some]
    by_cases hd : n - (l.length : Int) < (m.length : Int)
    · rw [if_pos hd, if_pos (by omega), if_pos (by omega)]
    · rw [if_neg hd, if_neg (by omega), if_neg (by omega)]
      congr 1
      omega
theorem szBoxS_l0 (suf : List S104) : ∀ (pre : List S104) (n : Int), (pre ++ suf).length ≤ 1000000000000 → 0 ≤ n → n ≤ 1048576 → (∀ x ∈ suf, x.f1.length ≤ 1000000000000000000 ∧ x.f2.length ≤ 1000000000000000000) →
    laws_szBoxS.l0v (pre ++ suf) n (pre.length : Int) = some (sizes szB suf n) := by
  induction suf with
  | nil =>
    intro pre n _ _ _ _
    rw [laws_szBoxS.l0v_eq, if_neg (nlt_end pre)]
    rfl
  | cons x suf ih =>
    intro pre n hl h0 h1 hs
    have hn : pre.length < (pre ++ x :: suf).length := by simp
    have hx := hs x List.mem_cons_self
    rw [laws_szBoxS.l0v_eq, if_pos (lt_mid pre suf x), if_pos (by omega), rdBoxL_mid, szBox_f _ _ _ _ n h0 h1 hx.1 hx.2]
    simp only [Option.bind_some, sizes]
    have e : ((x.f1.length + x.f2.length : Nat) : Int) = (szB x : Int) := rfl
    rw [e]
    by_cases hc : n < (szB x : Int)
    · rw [if_pos hc, if_pos (by omega), if_pos hc]
    · rw [if_neg hc, if_neg (by omega), if_neg hc, up_mid pre x hn hl]
      rw [mid_snoc pre suf x] at hl ⊢
      exact ih (pre ++ [x]) _ hl (by omega) (by omega) (fun y hy => hs y (List.mem_cons_of_mem _ hy))
theorem szBoxS_v (l : List S104) (n : Int) (h0 : 0 ≤ n) (h1 : n ≤ 1048576) (hl : l.length ≤ 100000000000000000) (hs : ∀ x ∈ l, x.f1.length ≤ 1000000000000000000 ∧ x.f2.length ≤ 1000000000000000000) :
    laws_szBoxS.fv l n = some (sizeOf1 szB l n) := by
  rw [laws_szBoxS.fv_eq, w64 (by omega) (by omega)]
  unfold sizeOf1
  by_cases hc : n < (l.length : Int)
  · rw [if_pos (by omega), if_pos hc]
  · rw [if_neg (by omega), if_neg hc]
    have h := szBoxS_l0 l [] (n - (l.length : Int)) (by simp; omega) (by omega) (by omega) hs
    simpa using h
theorem toBox_v (a : Int) (l m : List Int) (f : Bool) (hl : l.length ≤ 1000000000000) (hm : m.length ≤ 1000000000000) : laws_toBox.fv a l m f = some (a, l, m, f) := by
  rw [laws_toBox.fv_eq, toIntS_v l hl, toIntS_v m hm]
  rfl
theorem toBoxS_l0 (suf : List S104) : ∀ (pre : List S104) (q rest : List S102), q.length = pre.length → rest.length = suf.length → (pre ++ suf).length ≤ 1000000000000 → (∀ x ∈ suf, okB (toB x)) → laws_toBoxS.l0v (pre ++ suf) (q ++ rest) (pre.length : Int) = some (q ++ suf.map toB) := by
  induction suf with
  | nil =>
    intro pre q rest _ hr _ _
    rw [laws_toBoxS.l0v_eq, if_neg (nlt_end pre)]
    simp at hr
    simp [hr]
  | cons x suf ih =>
    intro pre q rest hq hr hl hs
    cases rest with
    | nil => simp at hr
    | cons y rest =>
      have hn : pre.length < (pre ++ x :: suf).length := by simp
      have hx : x.f1.length ≤ 1000000000000 ∧ x.f2.length ≤ 1000000000000 := hs x List.mem_cons_self
      rw [laws_toBoxS.l0v_eq, if_pos (lt_mid pre suf x), if_pos (by omega), rdBoxL_mid, toBox_v _ _ _ _ hx.1 hx.2]
      simp only [Option.bind_some]
      rw [up_mid pre x hn hl, ← hq, if_pos (lt_mid q rest y), set_mid]
      rw [mid_snoc pre suf x] at hl ⊢
      rw [show (⟨x.f0, x.f1, x.f2, x.f3⟩ : S102) = toB x from rfl, ih (pre ++ [x]) (q ++ [toB x]) rest (by simp [hq]) (by simpa using hr) hl (fun y hy => hs y (List.mem_cons_of_mem _ hy))]
      simp
theorem toBoxS_v (l : List S104) (hl : l.length ≤ 1000000000000) (hs : ∀ x ∈ l, okB (toB x)) : laws_toBoxS.fv l = some (l.map toB) := by
  rw [laws_toBoxS.fv_eq, if_pos (by omega), if_pos (by omega)]
  have h := toBoxS_l0 l [] [] (List.replicate ((l.length : Int) : Int).toNat z102) rfl (by simp) (by simpa using hl) hs
  simpa using h
theorem eqBox_v (b : S102) (h : okB b) : laws_eqBox.fv b.f0 b.f1 b.f2 b.f3 b.f0 b.f1 b.f2 b.f3 = some true := by
  rw [laws_eqBox.fv_eq, if_pos rfl, eqIntS_v _ _ h.1, eqIntS_v _ _ h.2]
  first | (simp; done) | (rcases Bool.eq_false_or_eq_true b.f3 with h3 | h3 <;> simp [h3])
theorem eqBoxS_l0 (sa : List S102) : ∀ (pre : List S102), (pre ++ sa).length ≤ 1000000000000 → (∀ x ∈ sa, okB x) → laws_eqBoxS.l0v (pre ++ sa) (pre ++ sa) (pre.length : Int) = some true := by
  induction sa with
  | nil =>
    intro pre _ _
    rw [laws_eqBoxS.l0v_eq, if_neg (nlt_end pre)]
  | cons x sa ih =>
    intro pre hl hs
    have hn : pre.length < (pre ++ x :: sa).length := by simp
    rw [laws_eqBoxS.l0v_eq, if_pos (lt_mid pre sa x), if_pos (by omega), if_pos (lt_mid pre sa x), rdBox_mid, eqBox_v x (hs x List.mem_cons_self), up_mid pre x hn hl]
    simp only [Option.bind_some, if_true]
    rw [mid_snoc pre sa x] at hl ⊢
    exact ih (pre ++ [x]) hl (fun y hy => hs y (List.mem_cons_of_mem _ hy))
theorem eqBoxS_v (l : List S102) (hl : l.length ≤ 1000000000000) (hs : ∀ x ∈ l, okB x) : laws_eqBoxS.fv l l = some true := by
  rw [laws_eqBoxS.fv_eq, if_pos rfl]
  exact eqBoxS_l0 l [] (by simpa using hl) hs
end Go.Proofs.Ytfhndlgbjhffiaa.Plain

/- Endpoints: their sizes, copies and equality, as the law's helpers tell them. Condition: at most 10 to the 12 of each. -/
set_option linter.unusedSimpArgs false
set_option linter.unusedVariables false
namespace Go.Proofs.Ytfhndlgbjhffiaa.Plain
open Go.RowKit Go.Proofs.YtfhndlgbjhffiaaW.PrintWords Go.Proofs.Ytfhndlgbjhffiaa.Base Go.Proofs.Ytfhndlgbjhffiaa.Print

/-- What is left of n behind an endpoint. -/
def sizeE (v t : List Int) (p : List S104) (n : Int) : Int :=
  if n < (v.length : Int) then -1 else if n - (v.length : Int) < (t.length : Int) then -1 else if sizeOf1 szB p (n - (v.length : Int) - (t.length : Int)) < 0 then -1 else sizeOf1 szB p (n - (v.length : Int) - (t.length : Int))
/-- Its rows are not too long. -/
def okE (v t : List Int) (p : List S104) : Prop := v.length ≤ 1000000000000 ∧ t.length ≤ 1000000000000 ∧ p.length ≤ 1000000000000 ∧ ∀ x ∈ p, okB (toB x)
theorem szEnd_v (v t : List Int) (p : List S104) (c n : Int) (h0 : 0 ≤ n) (h : n ≤ 1048576) (hv : v.length ≤ 1000000000000000000) (ht : t.length ≤ 1000000000000000000) (hp : p.length ≤ 100000000000000000) (hs : ∀ x ∈ p, x.f1.length ≤ 1000000000000000000 ∧ x.f2.length ≤ 1000000000000000000) : laws_szEndpoint.fv v t p c n = some (sizeE v t p n) := by
  rw [laws_szEndpoint.fv_eq, szIntS_f v n h0 h hv]
  simp only [Option.bind_some, sizeE]
  by_cases h1 : n < (v.length : Int)
  · rw [if_pos h1, if_pos (by omega), if_pos h1]
  · rw [if_neg h1, if_neg (by omega), if_neg h1, szIntS_f t _ (by omega) (by omega) ht]
    simp only [Option.bind_some]
    by_cases h2 : n - (v.length : Int) < (t.length : Int)
    · rw [if_pos h2, if_pos (by omega), if_pos h2]
    · rw [if_neg h2, if_neg (by omega), if_neg h2, szBoxS_v p _ (by omega) (by omega) hp hs]
      simp only [Option.bind_some]
      split <;> rfl
theorem sizeE_le {v t : List Int} {p : List S104} {n : Int} (h1 : n ≤ 1048576) (h : 0 ≤ sizeE v t p n) : sizeE v t p n ≤ n ∧ okE v t p := by
  unfold sizeE at h ⊢
  by_cases h2 : n < (v.length : Int)
  · rw [if_pos h2] at h
    omega
  · rw [if_neg h2] at h ⊢
    by_cases h3 : n - (v.length : Int) < (t.length : Int)
    · rw [if_pos h3] at h
      omega
    · rw [if_neg h3] at h ⊢
      by_cases h4 : sizeOf1 szB p (n - (v.length : Int) - (t.length : Int)) < 0
      · rw [if_pos h4] at h
        omega
      · rw [if_neg h4] at h ⊢
        obtain ⟨a, b, c⟩ := sizeOf1_le szB p _ h
        refine ⟨by omega, by omega, by omega, by omega, fun x hx => ?_⟩
        have h5 := c x hx
        unfold szB at h5
        exact ⟨by show x.f1.length ≤ _; omega, by show x.f2.length ≤ _; omega⟩
theorem toEnd_v (v t : List Int) (p : List S104) (c : Int) (h : okE v t p) : laws_toEndpoint.fv v t p c = some (v, t, p.map toB, c) := by
  obtain ⟨h1, h2, h3, h4⟩ := h
  rw [laws_toEndpoint.fv_eq, toIntS_v v h1, toIntS_v t h2, toBoxS_v p h3 h4]
  rfl
theorem eqEnd_v (v t : List Int) (p : List S104) (c : Int) (h : okE v t p) : laws_eqEndpoint.fv v t (p.map toB) c v t (p.map toB) c = some true := by
  obtain ⟨h1, h2, h3, h4⟩ := h
  have h5 : ∀ x ∈ p.map toB, okB x := by
    intro x hx
    obtain ⟨y, hy, rfl⟩ := List.mem_map.1 hx
    exact h4 y hy
  rw [laws_eqEndpoint.fv_eq, eqIntS_v v v h1, eqIntS_v t t h2, eqBoxS_v (p.map toB) (by rw [List.length_map]; exact h3) h5]
  simp
theorem okE_boxes {v t : List Int} {p : List S104} (h : okE v t p) : ∀ x ∈ p.map toB, okB x := by
  intro x hx
  obtain ⟨y, hy, rfl⟩ := List.mem_map.1 hx
  exact h.2.2.2 y hy
end Go.Proofs.Ytfhndlgbjhffiaa.Plain

/- Sizes in all. Condition: what is left is no less than nothing. -/
set_option linter.unusedSimpArgs false
set_option linter.unusedVariables false
namespace Go.Proofs.Ytfhndlgbjhffiaa.Plain
open Go.RowKit Go.Proofs.YtfhndlgbjhffiaaW.PrintWords Go.Proofs.Ytfhndlgbjhffiaa.Base Go.Proofs.Ytfhndlgbjhffiaa.Print

/-- All sizes together. -/
def tot {α : Type} (f : α → Nat) : List α → Nat
  | [] => 0
  | x :: l => f x + tot f l
/-- What is left behind so much. -/
def less (m : Nat) (n : Int) : Int := if n < (m : Int) then -1 else n - (m : Int)
theorem sizes_tot {α : Type} (f : α → Nat) (l : List α) : ∀ n : Int, 0 ≤ n → sizes f l n = less (tot f l) n := by
  induction l with
  | nil =>
    intro n h
    have e : ((tot f ([] : List α) : Nat) : Int) = 0 := rfl
    show n = less (tot f ([] : List α)) n
    unfold less
    rw [e, if_neg (by omega)]
    omega
  | cons x l ih =>
    intro n h
    have e : ((tot f (x :: l) : Nat) : Int) = (f x : Int) + (tot f l : Int) := by simp [tot]
    rw [show less (tot f (x :: l)) n = if n < ((tot f (x :: l) : Nat) : Int) then -1 else n - ((tot f (x :: l) : Nat) : Int) from rfl, e]
    simp only [sizes]
    by_cases hc : n < (f x : Int)
    · rw [if_pos hc, if_pos (by omega)]
    · rw [if_neg hc, ih _ (by omega)]
      unfold less
      by_cases hd : n - (f x : Int) < (tot f l : Int)
      · rw [if_pos hd, if_pos (by omega)]
      · rw [if_neg hd, if_neg (by omega)]
        omega
theorem sizeOf1_tot {α : Type} (f : α → Nat) (l : List α) (n : Int) (h : 0 ≤ n) : sizeOf1 f l n = less (l.length + tot f l) n := by
  unfold sizeOf1
  by_cases hc : n < (l.length : Int)
  · rw [if_pos hc]
    unfold less
    rw [if_pos (by omega)]
  · rw [if_neg hc, sizes_tot f l _ (by omega)]
    unfold less
    by_cases hd : n - (l.length : Int) < (tot f l : Int)
    · rw [if_pos hd, if_pos (by omega)]
    · rw [if_neg hd, if_neg (by omega)]
      omega
theorem tot_le {α : Type} (f : α → Nat) {l : List α} {x : α} (h : x ∈ l) : f x ≤ tot f l := by
  induction l with
  | nil => cases h
  | cons y l ih =>
    simp only [tot]
    cases h with
    | head => omega
    | tail _ h =>
      have := ih h
      omega
theorem less_in {m : Nat} {n : Int} (h : 0 ≤ less m n) : (m : Int) ≤ n ∧ less m n = n - (m : Int) := by
  unfold less at h ⊢
  by_cases hc : n < (m : Int)
  · rw [if_pos hc] at h
    omega
  · rw [if_neg hc]
    omega
theorem less_neg {m : Nat} {n : Int} (h : less m n < 0) (h0 : 0 ≤ n) : n < (m : Int) := by
  unfold less at h
  by_cases hc : n < (m : Int)
  · exact hc
  · rw [if_neg hc] at h
    omega
/-- One size behind another. -/
theorem less_bind {m p : Nat} {n : Int} (h0 : 0 ≤ n) : (if less m n < 0 then (-1 : Int) else less p (less m n)) = less (m + p) n := by
  by_cases h : less m n < 0
  · have := less_neg h h0
    rw [if_pos h]
    unfold less
    rw [if_pos (by omega)]
  · obtain ⟨h1, h2⟩ := less_in (Int.not_lt.mp h)
    rw [if_neg h, h2]
    unfold less
    by_cases hd : n - (m : Int) < (p : Int)
    · rw [if_pos hd, if_pos (by omega)]
    · rw [if_neg hd, if_neg (by omega)]
      omega
theorem less_neg_add {m : Nat} (p : Nat) {n : Int} (h : less m n < 0) (h0 : 0 ≤ n) : (-1 : Int) = less (m + p) n := by
  have := less_neg h h0
  unfold less
  rw [if_pos (by omega)]
theorem less_add {m : Nat} (p : Nat) {n : Int} (h : ¬ less m n < 0) : less p (less m n) = less (m + p) n := by
  obtain ⟨h1, h2⟩ := less_in (Int.not_lt.mp h)
  rw [h2]
  unfold less
  by_cases hd : n - (m : Int) < (p : Int)
  · rw [if_pos hd, if_pos (by omega)]
  · rw [if_neg hd, if_neg (by omega)]
    omega
theorem szIntS_less (l : List Int) (n : Int) (h0 : 0 ≤ n) (h : n ≤ 1048576) (hl : l.length ≤ 1000000000000000000) : laws_szIntS.f l n = some (less l.length n) := szIntS_f l n h0 h hl
/-- Two rows the same, one by one. -/
def eqG {α : Type} (f : α → α → Bool) : List α → List α → Bool
  | [], [] => true
  | a :: l, b :: m => f a b && eqG f l m
  | _, _ => false
theorem eqG_len {α : Type} (f : α → α → Bool) {l m : List α} : l.length ≠ m.length → eqG f l m = false := by
  induction l generalizing m with
  | nil =>
    intro h
    cases m with
    | nil => exact absurd rfl h
    | cons b m => rfl
  | cons a l ih =>
    intro h
    cases m with
    | nil => rfl
    | cons b m =>
      simp only [eqG]
      rw [ih (by simpa using h), Bool.and_false]
end Go.Proofs.Ytfhndlgbjhffiaa.Plain

/- Rows of endpoints: their sizes, copies and equality, as the law's helpers tell them. Condition: at most 10 to the 12 of each. -/
set_option linter.unusedSimpArgs false
set_option linter.unusedVariables false
namespace Go.Proofs.Ytfhndlgbjhffiaa.Plain
open Go.RowKit Go.Proofs.YtfhndlgbjhffiaaW.PrintWords Go.Proofs.Ytfhndlgbjhffiaa.Base Go.Proofs.Ytfhndlgbjhffiaa.Print

theorem rdEnd_mid (pre suf : List S56) (x : S56) : rd_T56 (pre ++ x :: suf) (pre.length : Int) = x := by simp [rd_T56]
theorem rdEndL_mid (pre suf : List S74) (x : S74) : rd_T74 (pre ++ x :: suf) (pre.length : Int) = x := by simp [rd_T74]
/-- The law's endpoint as the program's. -/
def toE (e : S74) : S56 := ⟨e.f0, e.f1, e.f2.map toB, e.f3⟩
def szE (e : S74) : Nat := e.f0.length + (e.f1.length + (e.f2.length + tot szB e.f2))
/-- Its rows are not too long. -/
def okEn (e : S56) : Prop := e.f0.length ≤ 1000000000000 ∧ e.f1.length ≤ 1000000000000 ∧ e.f2.length ≤ 1000000000000 ∧ ∀ x ∈ e.f2, okB x
/-- Its rows are of a length that the machine can hold. -/
def fitE (e : S74) : Prop := e.f0.length ≤ 1000000000000000000 ∧ e.f1.length ≤ 1000000000000000000 ∧ e.f2.length ≤ 100000000000000000 ∧ ∀ x ∈ e.f2, x.f1.length ≤ 1000000000000000000 ∧ x.f2.length ≤ 1000000000000000000
theorem okE_of {e : S74} (h : okE e.f0 e.f1 e.f2) : okEn (toE e) := by
  obtain ⟨h1, h2, h3, h4⟩ := h
  refine ⟨h1, h2, ?_, okE_boxes ⟨h1, h2, h3, h4⟩⟩
  show (e.f2.map toB).length ≤ _
  rw [List.length_map]
  exact h3
theorem sizeE_tot (e : S74) (n : Int) (h0 : 0 ≤ n) : sizeE e.f0 e.f1 e.f2 n = less (szE e) n := by
  unfold sizeE szE less
  by_cases h1 : n < (e.f0.length : Int)
  · rw [if_pos h1, if_pos (by omega)]
  · rw [if_neg h1]
    by_cases h2 : n - (e.f0.length : Int) < (e.f1.length : Int)
    · rw [if_pos h2, if_pos (by omega)]
    · rw [if_neg h2, sizeOf1_tot szB _ _ (by omega)]
      unfold less
      by_cases h3 : n - (e.f0.length : Int) - (e.f1.length : Int) < ((e.f2.length + tot szB e.f2 : Nat) : Int)
      · rw [if_pos h3, if_pos (by omega), if_pos (by omega)]
      · rw [if_neg h3, if_neg (by omega), if_neg (by omega)]
        omega
theorem szEnd_f (e : S74) (n : Int) (h0 : 0 ≤ n) (h : n ≤ 1048576) (hf : fitE e) : laws_szEndpoint.fv e.f0 e.f1 e.f2 e.f3 n = some (less (szE e) n) := by
  rw [szEnd_v e.f0 e.f1 e.f2 e.f3 n h0 h hf.1 hf.2.1 hf.2.2.1 hf.2.2.2, sizeE_tot e n h0]
theorem okE_less {e : S74} (h : (szE e : Int) ≤ 1048576) : okE e.f0 e.f1 e.f2 := by
  have h1 : 0 ≤ sizeE e.f0 e.f1 e.f2 1048576 := by
    rw [sizeE_tot e _ (by omega)]
    unfold less
    rw [if_neg (by omega)]
    omega
  exact (sizeE_le (by omega) h1).2
theorem szEndS_l0 (suf : List S74) : ∀ (pre : List S74) (n : Int), (pre ++ suf).length ≤ 1000000000000 → 0 ≤ n → n ≤ 1048576 → (∀ x ∈ suf, fitE x) →
    laws_szEndpointS.l0v (pre ++ suf) n (pre.length : Int) = some (sizes szE suf n) := by
  induction suf with
  | nil =>
    intro pre n _ _ _ _
    rw [laws_szEndpointS.l0v_eq, if_neg (nlt_end pre)]
    rfl
  | cons x suf ih =>
    intro pre n hl h0 h1 hs
    have hn : pre.length < (pre ++ x :: suf).length := by simp
    rw [laws_szEndpointS.l0v_eq, if_pos (lt_mid pre suf x), if_pos (by omega), rdEndL_mid, szEnd_f x n h0 h1 (hs x List.mem_cons_self)]
    simp only [Option.bind_some, sizes, less]
    by_cases hc : n < (szE x : Int)
    · rw [if_pos hc, if_pos (by omega), if_pos hc]
    · rw [if_neg hc, if_neg (by omega), if_neg hc, up_mid pre x hn hl]
      rw [mid_snoc pre suf x] at hl ⊢
      exact ih (pre ++ [x]) _ hl (by omega) (by omega) (fun y hy => hs y (List.mem_cons_of_mem _ hy))
theorem szEndS_v (l : List S74) (n : Int) (h0 : 0 ≤ n) (h1 : n ≤ 1048576) (hl : l.length ≤ 100000000000000000) (hs : ∀ x ∈ l, fitE x) :
    laws_szEndpointS.fv l n = some (less (l.length + tot szE l) n) := by
  rw [laws_szEndpointS.fv_eq, w64 (by omega) (by omega), ← sizeOf1_tot szE l n h0]
  unfold sizeOf1
  by_cases hc : n < (l.length : Int)
  · rw [if_pos (by omega), if_pos hc]
  · rw [if_neg (by omega), if_neg hc]
    have h := szEndS_l0 l [] (n - (l.length : Int)) (by simp; omega) (by omega) (by omega) hs
    simpa using h
theorem toEndS_l0 (suf : List S74) : ∀ (pre : List S74) (q rest : List S56), q.length = pre.length → rest.length = suf.length → (pre ++ suf).length ≤ 1000000000000 → (∀ x ∈ suf, okE x.f0 x.f1 x.f2) → laws_toEndpointS.l0v (pre ++ suf) (q ++ rest) (pre.length : Int) = some (q ++ suf.map toE) := by
  induction suf with
  | nil =>
    intro pre q rest _ hr _ _
    rw [laws_toEndpointS.l0v_eq, if_neg (nlt_end pre)]
    simp at hr
    simp [hr]
  | cons x suf ih =>
    intro pre q rest hq hr hl hs
    cases rest with
    | nil => simp at hr
    | cons y rest =>
      have hn : pre.length < (pre ++ x :: suf).length := by simp
      rw [laws_toEndpointS.l0v_eq, if_pos (lt_mid pre suf x), if_pos (by omega), rdEndL_mid, toEnd_v _ _ _ _ (hs x List.mem_cons_self)]
      simp only [Option.bind_some]
      rw [up_mid pre x hn hl, ← hq, if_pos (lt_mid q rest y), set_mid]
      rw [mid_snoc pre suf x] at hl ⊢
      rw [show (⟨x.f0, x.f1, x.f2.map toB, x.f3⟩ : S56) = toE x from rfl, ih (pre ++ [x]) (q ++ [toE x]) rest (by simp [hq]) (by simpa using hr) hl (fun y hy => hs y (List.mem_cons_of_mem _ hy))]
      simp
theorem toEndS_v (l : List S74) (hl : l.length ≤ 1000000000000) (hs : ∀ x ∈ l, okE x.f0 x.f1 x.f2) : laws_toEndpointS.fv l = some (l.map toE) := by
  rw [laws_toEndpointS.fv_eq, if_pos (by omega), if_pos (by omega)]
  have h := toEndS_l0 l [] [] (List.replicate ((l.length : Int) : Int).toNat z56) rfl (by simp) (by simpa using hl) hs
  simpa using h
theorem eqEndS_l0 (sa : List S74) : ∀ (pre : List S56), (pre ++ sa.map toE).length ≤ 1000000000000 → (∀ x ∈ sa, okE x.f0 x.f1 x.f2) → laws_eqEndpointS.l0v (pre ++ sa.map toE) (pre ++ sa.map toE) (pre.length : Int) = some true := by
  induction sa with
  | nil =>
    intro pre _ _
    simp only [List.map_nil]
    rw [laws_eqEndpointS.l0v_eq, if_neg (nlt_end pre)]
  | cons x sa ih =>
    intro pre hl hs
    simp only [List.map_cons] at hl ⊢
    have hn : pre.length < (pre ++ toE x :: sa.map toE).length := by simp
    have h1 := eqEnd_v x.f0 x.f1 x.f2 x.f3 (hs x List.mem_cons_self)
    rw [laws_eqEndpointS.l0v_eq, if_pos (lt_mid pre (sa.map toE) (toE x)), if_pos (by omega), if_pos (lt_mid pre (sa.map toE) (toE x)), rdEnd_mid, up_mid pre (toE x) hn hl]
    simp only [toE] at h1 ⊢
    rw [h1]
    simp only [Option.bind_some, if_true]
    rw [mid_snoc pre _ _] at hl ⊢
    exact ih _ hl (fun y hy => hs y (List.mem_cons_of_mem _ hy))
theorem eqEndS_v (l : List S74) (hl : l.length ≤ 1000000000000) (hs : ∀ x ∈ l, okE x.f0 x.f1 x.f2) : laws_eqEndpointS.fv (l.map toE) (l.map toE) = some true := by
  rw [laws_eqEndpointS.fv_eq, if_pos rfl]
  simpa using eqEndS_l0 l [] (by simpa using hl) hs
end Go.Proofs.Ytfhndlgbjhffiaa.Plain

/- How many marks boxes and endpoints take. Condition: few of them. -/
set_option linter.unusedSimpArgs false
set_option linter.unusedVariables false
namespace Go.Proofs.Ytfhndlgbjhffiaa.Plain
open Go.RowKit Go.Proofs.YtfhndlgbjhffiaaW.PrintWords Go.Proofs.Ytfhndlgbjhffiaa.Base Go.Proofs.Ytfhndlgbjhffiaa.Print Go.Proofs.Ytfhndlgbjhffiaa.Short

theorem cnt_eq (n : Nat) : ∀ k : Int, 0 ≤ k → k + n ≤ 4000000000000000000 → cnt n k = k + n := by
  induction n with
  | zero =>
    intro k _ _
    simp [cnt]
  | succ n ih =>
    intro k h0 h1
    simp only [cnt]
    rw [w64 (by omega) (by omega), ih (k + 1) (by omega) (by omega)]
    omega
theorem boxC_in (l : List S104) : ∀ k : Int, 0 ≤ k → k + 10 * ((l.length + tot szB l : Nat) : Int) ≤ 4000000000000000000 → k ≤ markC102 (l.map toB) k ∧ markC102 (l.map toB) k ≤ k + 10 * ((l.length + tot szB l : Nat) : Int) := by
  induction l with
  | nil =>
    intro k h0 h1
    simp only [List.map_nil, markC102]
    omega
  | cons x l ih =>
    intro k h0 h1
    have e1 : ((x :: l).length + tot szB (x :: l)) = 1 + szB x + (l.length + tot szB l) := by
      simp only [List.length_cons, tot]
      omega
    rw [e1] at h1 ⊢
    simp only [List.map_cons, markC102]
    have hx : k ≤ markE102 (toB x) k ∧ markE102 (toB x) k ≤ k + 10 * ((1 + szB x : Nat) : Int) := by
      unfold markE102 szB toB
      unfold szB at h1
      simp only
      rw [w64 (x := k + 1) (by omega) (by omega), cnt_eq _ (k + 1) (by omega) (by omega), cnt_eq _ _ (by omega) (by omega), w64 (by omega) (by omega)]
      omega
    have := ih (markE102 (toB x) k) (by omega) (by omega)
    omega
end Go.Proofs.Ytfhndlgbjhffiaa.Plain

/- A row of dials, read. No program. No condition. -/
set_option linter.unusedSimpArgs false
set_option linter.unusedVariables false
namespace Go.Proofs.Ytfhndlgbjhffiaa.Plain
open Go.RowKit Go.Proofs.YtfhndlgbjhffiaaW.PrintWords Go.Proofs.Ytfhndlgbjhffiaa.Base Go.Proofs.Ytfhndlgbjhffiaa.Print

theorem rdDial_mid (pre suf : List S86) (x : S86) : rd_T86 (pre ++ x :: suf) (pre.length : Int) = x := by simp [rd_T86]
/-- Its rows are not too long. -/
def okD (d : S86) : Prop := d.f0.f2.length ≤ 1000000000000 ∧ d.f2.length ≤ 1000000000000
end Go.Proofs.Ytfhndlgbjhffiaa.Plain

/- Dials: their sizes, copies and equality, as the law's helpers tell them. Condition: at most 10 to the 12 of each. -/
set_option linter.unusedSimpArgs false
set_option linter.unusedVariables false
namespace Go.Proofs.Ytfhndlgbjhffiaa.Plain
open Go.RowKit Go.Proofs.YtfhndlgbjhffiaaW.PrintWords Go.Proofs.Ytfhndlgbjhffiaa.Base Go.Proofs.Ytfhndlgbjhffiaa.Print

theorem rdDialL_mid (pre suf : List S79) (x : S79) : rd_T79 (pre ++ x :: suf) (pre.length : Int) = x := by simp [rd_T79]
/-- The law's dial as the program's. -/
def toD (d : S79) : S86 := ⟨⟨d.f0.f0, d.f0.f1, d.f0.f2⟩, d.f1, d.f2⟩
def szD (d : S79) : Nat := d.f0.f2.length + d.f2.length
theorem szDialed_f (o : Bool) (v : Int) (l : List Int) (a : Int) (m : List Int) (n : Int) (h0 : 0 ≤ n) (h : n ≤ 1048576) (hl : l.length ≤ 1000000000000000000) (hm : m.length ≤ 1000000000000000000) : laws_szDialed.f o v l a m n = some (if n < ((l.length + m.length : Nat) : Int) then -1 else n - ((l.length + m.length : Nat) : Int)) := by
  unfold laws_szDialed.f laws_szDeal.f
  rw [szIntS_f l n h0 h hl]
  simp only [Option.bind_some]
  by_cases hc : n < (l.length : Int)
  · rw [if_pos hc, if_pos (by omega)]
    simp only [Option.bind_some]
    rw [if_pos (by omega), if_pos (by omega)]
  · rw [if_neg hc, if_neg (by omega)]
    simp only [Option.bind_some]
    rw [if_neg (by omega), szIntS_f m _ (by omega) (by omega) hm]
    simp only [Option.bind_some]
    by_cases hd : n - (l.length : Int) < (m.length : Int)
    · rw [if_pos hd, if_pos (by omega), if_pos (by omega)]
    · rw [if_neg hd, if_neg (by omega), if_neg (by omega)]
      congr 1
      omega
theorem szDialedS_l0 (suf : List S79) : ∀ (pre : List S79) (n : Int), (pre ++ suf).length ≤ 1000000000000 → 0 ≤ n → n ≤ 1048576 → (∀ x ∈ suf, x.f0.f2.length ≤ 1000000000000000000 ∧ x.f2.length ≤ 1000000000000000000) →
    laws_szDialedS.l0v (pre ++ suf) n (pre.length : Int) = some (sizes szD suf n) := by
  induction suf with
  | nil =>
    intro pre n _ _ _ _
    rw [laws_szDialedS.l0v_eq, if_neg (nlt_end pre)]
    rfl
  | cons x suf ih =>
    intro pre n hl h0 h1 hs
    have hn : pre.length < (pre ++ x :: suf).length := by simp
    have hx := hs x List.mem_cons_self
    rw [laws_szDialedS.l0v_eq, if_pos (lt_mid pre suf x), if_pos (by omega), rdDialL_mid, szDialed_f _ _ _ _ _ n h0 h1 hx.1 hx.2]
    simp only [Option.bind_some, sizes]
    have e : ((x.f0.f2.length + x.f2.length : Nat) : Int) = (szD x : Int) := rfl
    rw [e]
    by_cases hc : n < (szD x : Int)
    · rw [if_pos hc, if_pos (by omega), if_pos hc]
    · rw [if_neg hc, if_neg (by omega), if_neg hc, up_mid pre x hn hl]
      rw [mid_snoc pre suf x] at hl ⊢
      exact ih (pre ++ [x]) _ hl (by omega) (by omega) (fun y hy => hs y (List.mem_cons_of_mem _ hy))
theorem szDialedS_v (l : List S79) (n : Int) (h0 : 0 ≤ n) (h1 : n ≤ 1048576) (hl : l.length ≤ 100000000000000000) (hs : ∀ x ∈ l, x.f0.f2.length ≤ 1000000000000000000 ∧ x.f2.length ≤ 1000000000000000000) :
    laws_szDialedS.fv l n = some (sizeOf1 szD l n) := by
  rw [laws_szDialedS.fv_eq, w64 (by omega) (by omega)]
  unfold sizeOf1
  by_cases hc : n < (l.length : Int)
  · rw [if_pos (by omega), if_pos hc]
  · rw [if_neg (by omega), if_neg hc]
    have h := szDialedS_l0 l [] (n - (l.length : Int)) (by simp; omega) (by omega) (by omega) hs
    simpa using h
theorem toDialed_v (o : Bool) (v : Int) (l : List Int) (a : Int) (m : List Int) (hl : l.length ≤ 1000000000000) (hm : m.length ≤ 1000000000000) : laws_toDialed.fv o v l a m = some (o, v, l, a, m) := by
  rw [laws_toDialed.fv_eq, laws_toDeal.fv_eq, toIntS_v l hl, toIntS_v m hm]
  rfl
theorem toDialedS_l0 (suf : List S79) : ∀ (pre : List S79) (q rest : List S86), q.length = pre.length → rest.length = suf.length → (pre ++ suf).length ≤ 1000000000000 → (∀ x ∈ suf, okD (toD x)) → laws_toDialedS.l0v (pre ++ suf) (q ++ rest) (pre.length : Int) = some (q ++ suf.map toD) := by
  induction suf with
  | nil =>
    intro pre q rest _ hr _ _
    rw [laws_toDialedS.l0v_eq, if_neg (nlt_end pre)]
    simp at hr
    simp [hr]
  | cons x suf ih =>
    intro pre q rest hq hr hl hs
    cases rest with
    | nil => simp at hr
    | cons y rest =>
      have hn : pre.length < (pre ++ x :: suf).length := by simp
      have hx : x.f0.f2.length ≤ 1000000000000 ∧ x.f2.length ≤ 1000000000000 := hs x List.mem_cons_self
      rw [laws_toDialedS.l0v_eq, if_pos (lt_mid pre suf x), if_pos (by omega), rdDialL_mid, toDialed_v _ _ _ _ _ hx.1 hx.2]
      simp only [Option.bind_some]
      rw [up_mid pre x hn hl, ← hq, if_pos (lt_mid q rest y), set_mid]
      rw [mid_snoc pre suf x] at hl ⊢
      rw [show (⟨⟨x.f0.f0, x.f0.f1, x.f0.f2⟩, x.f1, x.f2⟩ : S86) = toD x from rfl, ih (pre ++ [x]) (q ++ [toD x]) rest (by simp [hq]) (by simpa using hr) hl (fun y hy => hs y (List.mem_cons_of_mem _ hy))]
      simp
theorem toDialedS_v (l : List S79) (hl : l.length ≤ 1000000000000) (hs : ∀ x ∈ l, okD (toD x)) : laws_toDialedS.fv l = some (l.map toD) := by
  rw [laws_toDialedS.fv_eq, if_pos (by omega), if_pos (by omega)]
  have h := toDialedS_l0 l [] [] (List.replicate ((l.length : Int) : Int).toNat z86) rfl (by simp) (by simpa using hl) hs
  simpa using h
theorem eqDialed_v (d : S86) (h : okD d) : laws_eqDialed.fv d.f0.f0 d.f0.f1 d.f0.f2 d.f1 d.f2 d.f0.f0 d.f0.f1 d.f0.f2 d.f1 d.f2 = some true := by
  rw [laws_eqDialed.fv_eq, laws_eqDeal.fv_eq, eqIntS_v _ _ h.1, eqIntS_v _ _ h.2]
  first | (simp; done) | (rcases Bool.eq_false_or_eq_true d.f0.f0 with h3 | h3 <;> simp [h3])
theorem eqDialedS_l0 (sa : List S86) : ∀ (pre : List S86), (pre ++ sa).length ≤ 1000000000000 → (∀ x ∈ sa, okD x) → laws_eqDialedS.l0v (pre ++ sa) (pre ++ sa) (pre.length : Int) = some true := by
  induction sa with
  | nil =>
    intro pre _ _
    rw [laws_eqDialedS.l0v_eq, if_neg (nlt_end pre)]
  | cons x sa ih =>
    intro pre hl hs
    have hn : pre.length < (pre ++ x :: sa).length := by simp
    rw [laws_eqDialedS.l0v_eq, if_pos (lt_mid pre sa x), if_pos (by omega), if_pos (lt_mid pre sa x), rdDial_mid, eqDialed_v x (hs x List.mem_cons_self), up_mid pre x hn hl]
    simp only [Option.bind_some, if_true]
    rw [mid_snoc pre sa x] at hl ⊢
    exact ih (pre ++ [x]) hl (fun y hy => hs y (List.mem_cons_of_mem _ hy))
theorem eqDialedS_v (l : List S86) (hl : l.length ≤ 1000000000000) (hs : ∀ x ∈ l, okD x) : laws_eqDialedS.fv l l = some true := by
  rw [laws_eqDialedS.fv_eq, if_pos rfl]
  exact eqDialedS_l0 l [] (by simpa using hl) hs
end Go.Proofs.Ytfhndlgbjhffiaa.Plain

/- Rows of logged dials: their sizes, copies and equality, as the law's helpers tell them. Condition: at most 10 to the 12 of each. -/
set_option linter.unusedSimpArgs false
set_option linter.unusedVariables false
namespace Go.Proofs.Ytfhndlgbjhffiaa.Plain
open Go.RowKit Go.Proofs.YtfhndlgbjhffiaaW.PrintWords Go.Proofs.Ytfhndlgbjhffiaa.Base Go.Proofs.Ytfhndlgbjhffiaa.Print

theorem rdLog_mid (pre suf : List S89) (x : S89) : rd_T89 (pre ++ x :: suf) (pre.length : Int) = x := by simp [rd_T89]
theorem rdLogL_mid (pre suf : List S82) (x : S82) : rd_T82 (pre ++ x :: suf) (pre.length : Int) = x := by simp [rd_T82]
/-- The law's logged dial as the program's. -/
def toLg (d : S82) : S89 := ⟨d.f0, d.f1, d.f2, toD d.f3⟩
def szLg (d : S82) : Nat := szD d.f3
def okLg (d : S89) : Prop := okD d.f3
theorem szLogS_l0 (suf : List S82) : ∀ (pre : List S82) (n : Int), (pre ++ suf).length ≤ 1000000000000 → 0 ≤ n → n ≤ 1048576 → (∀ x ∈ suf, x.f3.f0.f2.length ≤ 1000000000000000000 ∧ x.f3.f2.length ≤ 1000000000000000000) →
    laws_szLoggedS.l0v (pre ++ suf) n (pre.length : Int) = some (sizes szLg suf n) := by
  induction suf with
  | nil =>
    intro pre n _ _ _ _
    rw [laws_szLoggedS.l0v_eq, if_neg (nlt_end pre)]
    rfl
  | cons x suf ih =>
    intro pre n hl h0 h1 hs
    have hn : pre.length < (pre ++ x :: suf).length := by simp
    have hx := hs x List.mem_cons_self
    rw [laws_szLoggedS.l0v_eq, if_pos (lt_mid pre suf x), if_pos (by omega), rdLogL_mid]
    unfold laws_szLogged.f
    rw [szDialed_f _ _ _ _ _ n h0 h1 hx.1 hx.2]
    simp only [Option.bind_some, sizes]
    have e : ((x.f3.f0.f2.length + x.f3.f2.length : Nat) : Int) = (szLg x : Int) := rfl
    rw [e]
    by_cases hc : n < (szLg x : Int)
    · rw [if_pos hc, if_pos (by omega), if_pos hc]
      simp
    · rw [if_neg hc, if_neg (by omega), if_neg hc]
      simp only [Option.bind_some]
      rw [if_neg (by omega), up_mid pre x hn hl]
      rw [mid_snoc pre suf x] at hl ⊢
      exact ih (pre ++ [x]) _ hl (by omega) (by omega) (fun y hy => hs y (List.mem_cons_of_mem _ hy))
theorem szLogS_v (l : List S82) (n : Int) (h0 : 0 ≤ n) (h1 : n ≤ 1048576) (hl : l.length ≤ 100000000000000000) (hs : ∀ x ∈ l, x.f3.f0.f2.length ≤ 1000000000000000000 ∧ x.f3.f2.length ≤ 1000000000000000000) :
    laws_szLoggedS.fv l n = some (less (l.length + tot szLg l) n) := by
  rw [laws_szLoggedS.fv_eq, w64 (by omega) (by omega), ← sizeOf1_tot szLg l n h0]
  unfold sizeOf1
  by_cases hc : n < (l.length : Int)
  · rw [if_pos (by omega), if_pos hc]
  · rw [if_neg (by omega), if_neg hc]
    have h := szLogS_l0 l [] (n - (l.length : Int)) (by simp; omega) (by omega) (by omega) hs
    simpa using h
theorem toLogS_l0 (suf : List S82) : ∀ (pre : List S82) (q rest : List S89), q.length = pre.length → rest.length = suf.length → (pre ++ suf).length ≤ 1000000000000 → (∀ x ∈ suf, okLg (toLg x)) → laws_toLoggedS.l0v (pre ++ suf) (q ++ rest) (pre.length : Int) = some (q ++ suf.map toLg) := by
  induction suf with
  | nil =>
    intro pre q rest _ hr _ _
    rw [laws_toLoggedS.l0v_eq, if_neg (nlt_end pre)]
    simp at hr
    simp [hr]
  | cons x suf ih =>
    intro pre q rest hq hr hl hs
    cases rest with
    | nil => simp at hr
    | cons y rest =>
      have hn : pre.length < (pre ++ x :: suf).length := by simp
      have hx : x.f3.f0.f2.length ≤ 1000000000000 ∧ x.f3.f2.length ≤ 1000000000000 := hs x List.mem_cons_self
      rw [laws_toLoggedS.l0v_eq, if_pos (lt_mid pre suf x), if_pos (by omega), rdLogL_mid, laws_toLogged.fv_eq, toDialed_v _ _ _ _ _ hx.1 hx.2]
      simp only [Option.bind_some]
      rw [up_mid pre x hn hl, ← hq, if_pos (lt_mid q rest y), set_mid]
      rw [mid_snoc pre suf x] at hl ⊢
      rw [show (⟨x.f0, x.f1, x.f2, ⟨⟨x.f3.f0.f0, x.f3.f0.f1, x.f3.f0.f2⟩, x.f3.f1, x.f3.f2⟩⟩ : S89) = toLg x from rfl, ih (pre ++ [x]) (q ++ [toLg x]) rest (by simp [hq]) (by simpa using hr) hl (fun y hy => hs y (List.mem_cons_of_mem _ hy))]
      simp
theorem toLogS_v (l : List S82) (hl : l.length ≤ 1000000000000) (hs : ∀ x ∈ l, okLg (toLg x)) : laws_toLoggedS.fv l = some (l.map toLg) := by
  rw [laws_toLoggedS.fv_eq, if_pos (by omega), if_pos (by omega)]
  have h := toLogS_l0 l [] [] (List.replicate ((l.length : Int) : Int).toNat z89) rfl (by simp) (by simpa using hl) hs
  simpa using h
theorem eqLogS_l0 (sa : List S89) : ∀ (pre : List S89), (pre ++ sa).length ≤ 1000000000000 → (∀ x ∈ sa, okLg x) → laws_eqLoggedS.l0v (pre ++ sa) (pre ++ sa) (pre.length : Int) = some true := by
  induction sa with
  | nil =>
    intro pre _ _
    rw [laws_eqLoggedS.l0v_eq, if_neg (nlt_end pre)]
  | cons x sa ih =>
    intro pre hl hs
    have hn : pre.length < (pre ++ x :: sa).length := by simp
    rw [laws_eqLoggedS.l0v_eq, if_pos (lt_mid pre sa x), if_pos (by omega), if_pos (lt_mid pre sa x), rdLog_mid, laws_eqLogged.fv_eq, eqDialed_v x.f3 (hs x List.mem_cons_self), up_mid pre x hn hl]
    simp only [Option.bind_some, if_true, bne_self_eq_false, Bool.false_eq_true, if_false]
    rw [mid_snoc pre sa x] at hl ⊢
    rcases Bool.eq_false_or_eq_true x.f2 with h3 | h3 <;> simp only [h3, if_true, Bool.false_eq_true, if_false, Option.bind_some] <;> exact ih (pre ++ [x]) hl (fun y hy => hs y (List.mem_cons_of_mem _ hy))
theorem eqLogS_v (l : List S89) (hl : l.length ≤ 1000000000000) (hs : ∀ x ∈ l, okLg x) : laws_eqLoggedS.fv l l = some true := by
  rw [laws_eqLoggedS.fv_eq, if_pos rfl]
  exact eqLogS_l0 l [] (by simpa using hl) hs
end Go.Proofs.Ytfhndlgbjhffiaa.Plain

/- Are two rollouts the same? No condition. -/
set_option linter.unusedSimpArgs false
set_option linter.unusedVariables false
namespace Go.Proofs.Ytfhndlgbjhffiaa.Plain
open Go.RowKit Go.Proofs.YtfhndlgbjhffiaaW.PrintWords Go.Proofs.Ytfhndlgbjhffiaa.Base
/-- Are two rollouts the same? -/
def eqR (v : Int) (l : List Int) (t : Int) (f : Bool) (v' : Int) (l' : List Int) (t' : Int) (f' : Bool) : Bool := decide (v = v') && (decide (l = l') && (decide (t = t') && (f == f')))
theorem eqR_refl (v : Int) (l : List Int) (t : Int) (f : Bool) : eqR v l t f v l t f = true := by simp [eqR]
end Go.Proofs.Ytfhndlgbjhffiaa.Plain

/- The law's helpers on rollouts. Condition: the stages are at most 10 to the 12. -/
set_option linter.unusedSimpArgs false
set_option linter.unusedVariables false
namespace Go.Proofs.Ytfhndlgbjhffiaa.Plain
open Go.RowKit Go.Proofs.YtfhndlgbjhffiaaW.PrintWords Go.Proofs.Ytfhndlgbjhffiaa.Base Go.Proofs.Ytfhndlgbjhffiaa.Print

theorem toRollout_v (v : Int) (l : List Int) (t : Int) (f : Bool) (hl : l.length ≤ 1000000000000) : laws_toRollout.fv v l t f = some (v, l, t, f) := by
  rw [laws_toRollout.fv_eq, toIntS_v l hl]
  rfl
theorem eqRollout_v (v : Int) (l : List Int) (t : Int) (f : Bool) (v' : Int) (l' : List Int) (t' : Int) (f' : Bool) (hl : l.length ≤ 1000000000000) : laws_eqRollout.fv v l t f v' l' t' f' = some (eqR v l t f v' l' t' f') := by
  rw [laws_eqRollout.fv_eq, eqIntS_v l l' hl]
  simp only [Option.bind_some, eqR]
  by_cases h1 : v = v' <;> by_cases h2 : l = l' <;> by_cases h3 : t = t' <;> cases f <;> cases f' <;> simp [h1, h2, h3]
/-- A rollout's size, taken from what is left. -/
theorem szRollout_f (v : Int) (l : List Int) (t : Int) (f : Bool) (n : Int) (h0 : 0 ≤ n) (h : n ≤ 1048576) (hl : l.length ≤ 1000000000000000000) : laws_szRollout.f v l t f n = some (if n < l.length then -1 else n - l.length) := by
  unfold laws_szRollout.f
  rw [szIntS_f l n h0 h hl]
  simp only [Option.bind_some]
  by_cases hc : n < l.length
  · rw [if_pos hc, if_pos (by omega)]
  · rw [if_neg hc, if_neg (by omega)]
end Go.Proofs.Ytfhndlgbjhffiaa.Plain

/- Worlds: their sizes, copies and equality, as the law's helpers tell them. Condition: at most 10 to the 12 of each. -/
set_option linter.unusedSimpArgs false
set_option linter.unusedVariables false
namespace Go.Proofs.Ytfhndlgbjhffiaa.Plain
open Go.RowKit Go.Proofs.YtfhndlgbjhffiaaW.PrintWords Go.Proofs.Ytfhndlgbjhffiaa.Base Go.Proofs.Ytfhndlgbjhffiaa.Print

/-- How many rows and numbers a world has. -/
def szWo (s t : List Int) (e : List S74) (g : List Int) (d : List S79) (l : List S82) : Nat :=
  s.length + (t.length + ((e.length + tot szE e) + (g.length + ((d.length + tot szD d) + (l.length + tot szLg l)))))
/-- Its rows are of a length that the machine can hold. -/
def fitW (s t : List Int) (e : List S74) (g : List Int) (d : List S79) (l : List S82) : Prop :=
  s.length ≤ 1000000000000000000 ∧ t.length ≤ 1000000000000000000 ∧ (e.length ≤ 100000000000000000 ∧ ∀ x ∈ e, fitE x) ∧ g.length ≤ 1000000000000000000 ∧ (d.length ≤ 100000000000000000 ∧ ∀ x ∈ d, x.f0.f2.length ≤ 1000000000000000000 ∧ x.f2.length ≤ 1000000000000000000) ∧ (l.length ≤ 100000000000000000 ∧ ∀ x ∈ l, x.f3.f0.f2.length ≤ 1000000000000000000 ∧ x.f3.f2.length ≤ 1000000000000000000)
theorem szWorld_v (s t : List Int) (c : Int) (e : List S74) (v : Int) (g : List Int) (a : Int) (f : Bool) (b p : Int) (d : List S79) (l : List S82) (x y z n : Int) (h0 : 0 ≤ n) (h : n ≤ 1048576) (hf : fitW s t e g d l) :
    laws_szWorld.fv s t c e v g a f b p d l x y z n = some (less (szWo s t e g d l) n) := by
  obtain ⟨f1, f2, f3, f4, f5, f6⟩ := hf
  unfold szWo
  rw [laws_szWorld.fv_eq, szIntS_less s n h0 h f1]
  simp only [Option.bind_some]
  by_cases h1 : less s.length n < 0
  · rw [if_pos h1, less_neg_add _ h1 h0]
  · have b1 := less_in (Int.not_lt.mp h1)
    rw [if_neg h1, ← less_add _ h1]
    generalize less s.length n = n1 at h1 b1
    rw [szIntS_less t n1 (by omega) (by omega) f2]
    simp only [Option.bind_some]
    by_cases h2 : less t.length n1 < 0
    · rw [if_pos h2, less_neg_add _ h2 (by omega)]
    · have b2 := less_in (Int.not_lt.mp h2)
      rw [if_neg h2, ← less_add _ h2]
      generalize less t.length n1 = n2 at h2 b2
      rw [szEndS_v e n2 (by omega) (by omega) f3.1 f3.2]
      simp only [Option.bind_some]
      by_cases h3 : less (e.length + tot szE e) n2 < 0
      · rw [if_pos h3, less_neg_add _ h3 (by omega)]
      · have b3 := less_in (Int.not_lt.mp h3)
        rw [if_neg h3, ← less_add _ h3]
        generalize less (e.length + tot szE e) n2 = n3 at h3 b3
        rw [szRollout_f v g a f n3 (by omega) (by omega) f4]
        simp only [Option.bind_some, show (if n3 < (g.length : Int) then (-1 : Int) else n3 - (g.length : Int)) = less g.length n3 from rfl]
        by_cases h4 : less g.length n3 < 0
        · rw [if_pos h4, less_neg_add _ h4 (by omega)]
        · have b4 := less_in (Int.not_lt.mp h4)
          rw [if_neg h4, ← less_add _ h4]
          generalize less g.length n3 = n4 at h4 b4
          rw [szDialedS_v d n4 (by omega) (by omega) f5.1 f5.2, sizeOf1_tot szD d n4 (by omega)]
          simp only [Option.bind_some]
          by_cases h5 : less (d.length + tot szD d) n4 < 0
          · rw [if_pos h5, less_neg_add _ h5 (by omega)]
          · have b5 := less_in (Int.not_lt.mp h5)
            rw [if_neg h5, ← less_add _ h5]
            generalize less (d.length + tot szD d) n4 = n5 at h5 b5
            rw [szLogS_v l n5 (by omega) (by omega) f6.1 f6.2]
            simp only [Option.bind_some]
            by_cases h6 : less (l.length + tot szLg l) n5 < 0
            · rw [if_pos h6, show (-1 : Int) = less (l.length + tot szLg l) n5 from less_neg_add 0 h6 (by omega)]
            · rw [if_neg h6]
/-- Its rows are not too long. -/
def okW (s t : List Int) (e : List S74) (g : List Int) (d : List S79) (l : List S82) : Prop :=
  s.length ≤ 1000000000000 ∧ t.length ≤ 1000000000000 ∧ (e.length ≤ 1000000000000 ∧ ∀ x ∈ e, okE x.f0 x.f1 x.f2) ∧ g.length ≤ 1000000000000 ∧ (d.length ≤ 1000000000000 ∧ ∀ x ∈ d, okD (toD x)) ∧ (l.length ≤ 1000000000000 ∧ ∀ x ∈ l, okLg (toLg x))
theorem okW_less {s t : List Int} {e : List S74} {g : List Int} {d : List S79} {l : List S82} {n : Int} (hn : n ≤ 1048576) (h : 0 ≤ less (szWo s t e g d l) n) : okW s t e g d l := by
  obtain ⟨h1, _⟩ := less_in h
  unfold szWo at h1
  refine ⟨by omega, by omega, ⟨by omega, fun x hx => okE_less ?_⟩, by omega, ⟨by omega, fun x hx => ?_⟩, by omega, fun x hx => ?_⟩
  · have := tot_le szE hx
    omega
  · have := tot_le szD hx
    have h9 : szD x = x.f0.f2.length + x.f2.length := rfl
    exact ⟨by show x.f0.f2.length ≤ _; omega, by show x.f2.length ≤ _; omega⟩
  · have := tot_le szLg hx
    have h9 : szLg x = x.f3.f0.f2.length + x.f3.f2.length := rfl
    exact ⟨by show x.f3.f0.f2.length ≤ _; omega, by show x.f3.f2.length ≤ _; omega⟩
theorem toWorld_v (s t : List Int) (c : Int) (e : List S74) (v : Int) (g : List Int) (a : Int) (f : Bool) (b p : Int) (d : List S79) (l : List S82) (x y z : Int) (h : okW s t e g d l) :
    laws_toWorld.fv s t c e v g a f b p d l x y z = some (s, t, c, e.map toE, v, g, a, f, b, p, d.map toD, l.map toLg, x, y, z) := by
  obtain ⟨h1, h2, h3, h4, h5, h6⟩ := h
  rw [laws_toWorld.fv_eq, toIntS_v s h1, toIntS_v t h2, toEndS_v e h3.1 h3.2, toRollout_v v g a f h4, toDialedS_v d h5.1 h5.2, toLogS_v l h6.1 h6.2]
  rfl
theorem eqWorld_v (s t : List Int) (c : Int) (e : List S74) (v : Int) (g : List Int) (a : Int) (f : Bool) (b p : Int) (d : List S79) (l : List S82) (x y z : Int) (h : okW s t e g d l) :
    laws_eqWorld.fv s t c (e.map toE) v g a f b p (d.map toD) (l.map toLg) x y z s t c (e.map toE) v g a f b p (d.map toD) (l.map toLg) x y z = some true := by
  obtain ⟨h1, h2, h3, h4, h5, h6⟩ := h
  have h5' : ∀ x ∈ d.map toD, okD x := fun x hm => by
    obtain ⟨y, hy, rfl⟩ := List.mem_map.1 hm
    exact h5.2 y hy
  have h6' : ∀ x ∈ l.map toLg, okLg x := fun x hm => by
    obtain ⟨y, hy, rfl⟩ := List.mem_map.1 hm
    exact h6.2 y hy
  rw [laws_eqWorld.fv_eq, eqIntS_v s s h1, eqIntS_v t t h2, eqEndS_v e h3.1 h3.2, eqRollout_v v g a f v g a f h4, eqDialedS_v (d.map toD) (by rw [List.length_map]; exact h5.1) h5', eqLogS_v (l.map toLg) (by rw [List.length_map]; exact h6.1) h6', eqR_refl]
  simp
end Go.Proofs.Ytfhndlgbjhffiaa.Plain

/- How many marks a world takes. Condition: a world that is small enough. -/
set_option linter.unusedSimpArgs false
set_option linter.unusedVariables false
namespace Go.Proofs.Ytfhndlgbjhffiaa.Plain
open Go.RowKit Go.Proofs.YtfhndlgbjhffiaaW.PrintWords Go.Proofs.Ytfhndlgbjhffiaa.Base Go.Proofs.Ytfhndlgbjhffiaa.Print Go.Proofs.Ytfhndlgbjhffiaa.Short

theorem endC_in (l : List S74) : ∀ k : Int, 0 ≤ k → k + 10 * ((l.length + tot szE l : Nat) : Int) ≤ 4000000000000000000 → k ≤ markC56 (l.map toE) k ∧ markC56 (l.map toE) k ≤ k + 10 * ((l.length + tot szE l : Nat) : Int) := by
  induction l with
  | nil =>
    intro k h0 h1
    simp only [List.map_nil, markC56]
    omega
  | cons x l ih =>
    intro k h0 h1
    have e1 : ((x :: l).length + tot szE (x :: l)) = 1 + szE x + (l.length + tot szE l) := by
      simp only [List.length_cons, tot]
      omega
    rw [e1] at h1 ⊢
    simp only [List.map_cons, markC56]
    have hx : k ≤ markE56 (toE x) k ∧ markE56 (toE x) k ≤ k + 10 * ((1 + szE x : Nat) : Int) := by
      unfold szE at h1
      unfold markE56 szE toE
      simp only
      rw [cnt_eq _ k (by omega) (by omega), cnt_eq _ _ (by omega) (by omega)]
      have hb := boxC_in x.f2 (k + (x.f0.length : Int) + (x.f1.length : Int)) (by omega) (by omega)
      rw [w64 (by omega) (by omega)]
      omega
    have := ih (markE56 (toE x) k) (by omega) (by omega)
    omega
theorem dialC_in (l : List S79) : ∀ k : Int, 0 ≤ k → k + 10 * ((l.length + tot szD l : Nat) : Int) ≤ 4000000000000000000 → k ≤ markC86 (l.map toD) k ∧ markC86 (l.map toD) k ≤ k + 10 * ((l.length + tot szD l : Nat) : Int) := by
  induction l with
  | nil =>
    intro k h0 h1
    simp only [List.map_nil, markC86]
    omega
  | cons x l ih =>
    intro k h0 h1
    have e1 : ((x :: l).length + tot szD (x :: l)) = 1 + szD x + (l.length + tot szD l) := by
      simp only [List.length_cons, tot]
      omega
    rw [e1] at h1 ⊢
    simp only [List.map_cons, markC86]
    have hx : k ≤ markE86 (toD x) k ∧ markE86 (toD x) k ≤ k + 10 * ((1 + szD x : Nat) : Int) := by
      unfold szD at h1
      unfold markE86 szD toD
      simp only
      rw [w64 (x := k + 1) (by omega) (by omega), w64 (x := k + 1 + 1) (by omega) (by omega), cnt_eq _ (k + 1 + 1) (by omega) (by omega), w64 (by omega) (by omega), cnt_eq _ _ (by omega) (by omega)]
      omega
    have := ih (markE86 (toD x) k) (by omega) (by omega)
    omega
theorem logC_in (l : List S82) : ∀ k : Int, 0 ≤ k → k + 10 * ((l.length + tot szLg l : Nat) : Int) ≤ 4000000000000000000 → k ≤ markC89 (l.map toLg) k ∧ markC89 (l.map toLg) k ≤ k + 10 * ((l.length + tot szLg l : Nat) : Int) := by
  induction l with
  | nil =>
    intro k h0 h1
    simp only [List.map_nil, markC89]
    omega
  | cons x l ih =>
    intro k h0 h1
    have e1 : ((x :: l).length + tot szLg (x :: l)) = 1 + szLg x + (l.length + tot szLg l) := by
      simp only [List.length_cons, tot]
      omega
    rw [e1] at h1 ⊢
    simp only [List.map_cons, markC89]
    have hx : k ≤ markE89 (toLg x) k ∧ markE89 (toLg x) k ≤ k + 10 * ((1 + szLg x : Nat) : Int) := by
      unfold szLg szD at h1
      unfold markE89 szLg szD toLg toD
      simp only
      rw [w64 (x := k + 1) (by omega) (by omega), w64 (x := k + 1 + 1) (by omega) (by omega), w64 (x := k + 1 + 1 + 1) (by omega) (by omega), w64 (x := k + 1 + 1 + 1 + 1) (by omega) (by omega), w64 (x := k + 1 + 1 + 1 + 1 + 1) (by omega) (by omega), cnt_eq _ (k + 1 + 1 + 1 + 1 + 1) (by omega) (by omega), w64 (by omega) (by omega), cnt_eq _ _ (by omega) (by omega)]
      omega
    have := ih (markE89 (toLg x) k) (by omega) (by omega)
    omega
theorem markW_in (s t : List Int) (c : Int) (e : List S74) (v : Int) (g : List Int) (a : Int) (f : Bool) (b p : Int) (d : List S79) (l : List S82) (x y z : Int) (h : 0 ≤ less (szWo s t e g d l) 1048576) :
    ∃ k, laws_markWorld.f s t c (e.map toE) v g a f b p (d.map toD) (l.map toLg) x y z 1 = some k ∧ ¬ k < 0 := by
  have hs := (less_in h).1
  unfold szWo at hs
  refine ⟨_, rfl, ?_⟩
  rw [cnt_eq s.length 1 (by omega) (by omega), cnt_eq t.length _ (by omega) (by omega)]
  have h1 := endC_in e (1 + (s.length : Int) + (t.length : Int)) (by omega) (by omega)
  rw [cnt_eq g.length _ (by omega) (by omega)]
  have h2 := dialC_in d (markC56 (e.map toE) (1 + (s.length : Int) + (t.length : Int)) + (g.length : Int)) (by omega) (by omega)
  have h3 := logC_in l (markC86 (d.map toD) (markC56 (e.map toE) (1 + (s.length : Int) + (t.length : Int)) + (g.length : Int))) (by omega) (by omega)
  omega
end Go.Proofs.Ytfhndlgbjhffiaa.Plain

/- A row of rows, read. No program. No condition. -/
set_option linter.unusedSimpArgs false
set_option linter.unusedVariables false
namespace Go.Proofs.Ytfhndlgbjhffiaa.Plain
open Go.RowKit Go.Proofs.YtfhndlgbjhffiaaW.PrintWords Go.Proofs.Ytfhndlgbjhffiaa.Base Go.Proofs.Ytfhndlgbjhffiaa.Print

theorem rdL1_mid (pre suf : List (List Int)) (x : List Int) : rd_L1 (pre ++ x :: suf) (pre.length : Int) = x := by simp [rd_L1]
end Go.Proofs.Ytfhndlgbjhffiaa.Plain

/- ListsOf, of both sides. Condition: at most 10 to the 12 of each. -/
set_option linter.unusedSimpArgs false
set_option linter.unusedVariables false
namespace Go.Proofs.Ytfhndlgbjhffiaa.Plain
open Go.RowKit Go.Proofs.YtfhndlgbjhffiaaW.PrintWords Go.Proofs.Ytfhndlgbjhffiaa.Base Go.Proofs.Ytfhndlgbjhffiaa.Print

theorem implLists_l0 (suf : List S56) : ∀ (pre : List S56) (out : List (List Int)), (pre ++ suf).length ≤ 1000000000000 → out.length ≤ pre.length → (∀ x ∈ suf, okEn x) →
    impl_ListsOf.l0v out (pre ++ suf) ((pre ++ suf).length : Int) (pre.length : Int) = some (out ++ suf.map (·.f0)) := by
  induction suf with
  | nil =>
    intro pre out _ _ _
    rw [impl_ListsOf.l0v_eq, if_neg (nlt_end pre)]
    simp
  | cons x suf ih =>
    intro pre out hl ho hs
    have hn : pre.length < (pre ++ x :: suf).length := by simp
    have hq : pre.length < 1000000000000 := by omega
    have hx := (hs x List.mem_cons_self).1
    have h0 : ([] : List Int).length + x.f0.length < 17592186044416 := by
      rw [List.length_nil]
      omega
    rw [impl_ListsOf.l0v_eq, if_pos (lt_mid pre suf x), if_pos (by omega), if_pos (lt_mid pre suf x), Option.bind_some, rdEnd_mid, if_pos h0, if_pos (by omega), up_mid pre x hn hl]
    rw [mid_snoc pre suf x] at hl ⊢
    rw [ih (pre ++ [x]) _ hl (by simp; omega) (fun y hy => hs y (List.mem_cons_of_mem _ hy))]
    simp
theorem implLists_v (s t : List Int) (c : Int) (e : List S56) (v : Int) (g : List Int) (a : Int) (f : Bool) (b p : Int) (d : List S86) (l : List S89) (x y z : Int) (he : e.length ≤ 1000000000000) (hs : ∀ x ∈ e, okEn x) : impl_ListsOf.fv s t c e v g a f b p d l x y z = some (e.map (·.f0)) := by
  rw [impl_ListsOf.fv_eq]
  simpa using implLists_l0 e [] [] (by simpa using he) (by simp) hs
theorem specLists_l0 (s t : List Int) (c v : Int) (g : List Int) (a : Int) (f : Bool) (b p : Int) (d : List S86) (l : List S89) (x' y' z' : Int) (suf : List S56) : ∀ (pre : List S56) (out : List (List Int)), (pre ++ suf).length ≤ 1000000000000 → out.length ≤ pre.length → (∀ x ∈ suf, okEn x) →
    spec_ListsOf.l0v out (pre.length : Int) s t c (pre ++ suf) v g a f b p d l x' y' z' = some (out ++ suf.map (·.f0)) := by
  induction suf with
  | nil =>
    intro pre out _ _ _
    rw [spec_ListsOf.l0v_eq, if_neg (nlt_end pre)]
    simp
  | cons x suf ih =>
    intro pre out hl ho hs
    have hn : pre.length < (pre ++ x :: suf).length := by simp
    have hq : pre.length < 1000000000000 := by omega
    have hx := (hs x List.mem_cons_self).1
    have h0 : ([] : List Int).length + x.f0.length < 17592186044416 := by
      rw [List.length_nil]
      omega
    rw [spec_ListsOf.l0v_eq, if_pos (lt_mid pre suf x), Option.bind_some, if_pos (by omega), rdEnd_mid, if_pos h0, if_pos (by omega), up_mid pre x hn hl]
    rw [mid_snoc pre suf x] at hl ⊢
    rw [ih (pre ++ [x]) _ hl (by simp; omega) (fun y hy => hs y (List.mem_cons_of_mem _ hy))]
    simp
theorem specLists_v (s t : List Int) (c : Int) (e : List S56) (v : Int) (g : List Int) (a : Int) (f : Bool) (b p : Int) (d : List S86) (l : List S89) (x y z : Int) (he : e.length ≤ 1000000000000) (hs : ∀ x ∈ e, okEn x) : spec_ListsOf.fv s t c e v g a f b p d l x y z = some (e.map (·.f0)) := by
  rw [spec_ListsOf.fv_eq]
  simpa using specLists_l0 s t c v g a f b p d l x y z e [] [] (by simpa using he) (by simp) hs
end Go.Proofs.Ytfhndlgbjhffiaa.Plain

/- The marks that a law writes into a result and looks for again. Condition: at most 10 to the 12 numbers, and the first mark is small. -/
set_option linter.unusedSimpArgs false
set_option linter.unusedVariables false
namespace Go.Proofs.Ytfhndlgbjhffiaa.Plain
open Go.RowKit Go.Proofs.YtfhndlgbjhffiaaW.PrintWords Go.Proofs.Ytfhndlgbjhffiaa.Base Go.Proofs.Ytfhndlgbjhffiaa.Print

/-- The marks of so many places. -/
def marks (a : Int) : Nat → List Int
  | 0 => []
  | n + 1 => a :: marks (a + 1) n
theorem marks_len (n : Nat) : ∀ a, (marks a n).length = n := by
  induction n with
  | zero =>
    intro a
    rfl
  | succ n ih =>
    intro a
    simp [marks, ih]
theorem markIntS_l0 (suf : List Int) : ∀ (pre : List Int) (a : Int), (pre ++ suf).length ≤ 1000000000000 → 0 ≤ a → a + suf.length ≤ 4000000000000000000 →
    laws_markIntS.l0v (pre ++ suf) a (pre.length : Int) = some (a + suf.length, pre ++ marks a suf.length) := by
  induction suf with
  | nil =>
    intro pre a _ _ _
    rw [laws_markIntS.l0v_eq, if_neg (nlt_end pre)]
    simp [marks]
  | cons x suf ih =>
    intro pre a hl h0 ha
    have hn : pre.length < (pre ++ x :: suf).length := by simp
    simp only [List.length_cons, Int.natCast_succ] at ha
    rw [laws_markIntS.l0v_eq, if_pos (lt_mid pre suf x), if_pos (by omega), set_mid, up_mid pre x hn hl, w64 (by omega) (by omega)]
    rw [mid_snoc pre suf x] at hl
    have h1 := ih (pre ++ [a]) (a + 1) (by simpa using hl) (by omega) (by omega)
    simp only [List.length_append, List.length_cons, List.length_nil] at h1 ⊢
    rw [h1]
    simp [marks]
    omega
theorem heldIntS_l0 (n : Nat) : ∀ (pre : List Int) (a : Int), pre.length + n ≤ 1000000000000 → 0 ≤ a → a + n ≤ 4000000000000000000 →
    laws_heldIntS.l0v (pre ++ marks a n) a (pre.length : Int) = some (a + n) := by
  induction n with
  | zero =>
    intro pre a _ _ _
    rw [marks, laws_heldIntS.l0v_eq, if_neg (nlt_end pre)]
    simp
  | succ n ih =>
    intro pre a hl h0 ha
    have hl' : (pre ++ a :: marks (a + 1) n).length ≤ 1000000000000 := by
      simp only [List.length_append, List.length_cons, marks_len]
      omega
    have hn : pre.length < (pre ++ a :: marks (a + 1) n).length := by simp
    rw [marks, laws_heldIntS.l0v_eq, if_pos (lt_mid pre (marks (a + 1) n) a), if_pos (by omega), rd_mid, if_pos rfl, up_mid pre a hn hl', w64 (by omega) (by omega), mid_snoc pre (marks (a + 1) n) a]
    have h1 := ih (pre ++ [a]) (a + 1) (by simp; omega) (by omega) (by omega)
    rw [h1]
    congr 1
    omega
theorem markIntS_v (l : List Int) (a : Int) (hl : l.length ≤ 1000000000000) (h0 : 0 ≤ a) (ha : a ≤ 3000000000000000000) : laws_markIntS.fv l a = some (a + l.length, marks a l.length) := by
  rw [laws_markIntS.fv_eq]
  exact markIntS_l0 l [] a (by simpa using hl) h0 (by omega)
theorem heldIntS_v (n : Nat) (a : Int) (hl : n ≤ 1000000000000) (h0 : 0 ≤ a) (ha : a ≤ 3000000000000000000) : laws_heldIntS.fv (marks a n) a = some (a + n) := by
  rw [laws_heldIntS.fv_eq]
  exact heldIntS_l0 n [] a (by simpa using hl) h0 (by omega)
end Go.Proofs.Ytfhndlgbjhffiaa.Plain

/- The marks that a law writes into rows of a result and looks for again; two lists of rows compared. Condition: at most 10 to the 12 rows and numbers in a row, few in all. -/
set_option linter.unusedSimpArgs false
set_option linter.unusedVariables false
namespace Go.Proofs.Ytfhndlgbjhffiaa.Plain
open Go.RowKit Go.Proofs.YtfhndlgbjhffiaaW.PrintWords Go.Proofs.Ytfhndlgbjhffiaa.Base Go.Proofs.Ytfhndlgbjhffiaa.Print

/-- How many numbers there are in rows. -/
def lenS : List (List Int) → Nat
  | [] => 0
  | x :: l => x.length + lenS l
/-- The marks of so many rows. -/
def marksS (a : Int) : List (List Int) → List (List Int)
  | [] => []
  | x :: l => marks a x.length :: marksS (a + x.length) l
theorem marksS_len (l : List (List Int)) : ∀ a, (marksS a l).length = l.length := by
  induction l with
  | nil =>
    intro a
    rfl
  | cons x l ih =>
    intro a
    simp [marksS, ih]
theorem markIntSS_l0 (suf : List (List Int)) : ∀ (pre : List (List Int)) (a : Int), (pre ++ suf).length ≤ 1000000000000 → (∀ x ∈ suf, x.length ≤ 1000000000000) → 0 ≤ a → a + lenS suf ≤ 3000000000000000000 →
    laws_markIntSS.l0v (pre ++ suf) a (pre.length : Int) = some (a + lenS suf, pre ++ marksS a suf) := by
  induction suf with
  | nil =>
    intro pre a _ _ _ _
    rw [laws_markIntSS.l0v_eq, if_neg (nlt_end pre)]
    simp [marksS, lenS]
  | cons x suf ih =>
    intro pre a hl hs h0 ha
    have hn : pre.length < (pre ++ x :: suf).length := by simp
    have e1 : (lenS (x :: suf) : Int) = x.length + lenS suf := by simp [lenS]
    rw [e1] at ha ⊢
    rw [laws_markIntSS.l0v_eq, if_pos (lt_mid pre suf x), if_pos (by omega), rdL1_mid, markIntS_v x a (hs x List.mem_cons_self) h0 (by omega), Option.bind_some, set_mid, up_mid pre x hn hl]
    rw [mid_snoc pre suf x] at hl
    have h1 := ih (pre ++ [marks a x.length]) (a + x.length) (by simpa using hl) (fun y hy => hs y (List.mem_cons_of_mem _ hy)) (by omega) (by omega)
    simp only [List.length_append, List.length_cons, List.length_nil] at h1 ⊢
    rw [h1]
    simp [marksS]
    omega
theorem heldIntSS_l0 (suf : List (List Int)) : ∀ (pre : List (List Int)) (a : Int), (pre ++ suf).length ≤ 1000000000000 → (∀ x ∈ suf, x.length ≤ 1000000000000) → 0 ≤ a → a + lenS suf ≤ 3000000000000000000 →
    laws_heldIntSS.l0v (pre ++ marksS a suf) a (pre.length : Int) = some (a + lenS suf) := by
  induction suf with
  | nil =>
    intro pre a _ _ _ _
    rw [marksS, laws_heldIntSS.l0v_eq, if_neg (nlt_end pre)]
    simp [lenS]
  | cons x suf ih =>
    intro pre a hl hs h0 ha
    have e1 : (lenS (x :: suf) : Int) = x.length + lenS suf := by simp [lenS]
    rw [e1] at ha ⊢
    have hl' : (pre ++ marks a x.length :: marksS (a + x.length) suf).length ≤ 1000000000000 := by
      simp only [List.length_append, List.length_cons, marksS_len] at hl ⊢
      omega
    have hn : pre.length < (pre ++ marks a x.length :: marksS (a + x.length) suf).length := by simp
    rw [marksS, laws_heldIntSS.l0v_eq, if_pos (lt_mid pre (marksS (a + x.length) suf) (marks a x.length)), if_pos (by omega), rdL1_mid, heldIntS_v x.length a (hs x List.mem_cons_self) h0 (by omega), Option.bind_some, if_neg (by omega), up_mid pre (marks a x.length) hn hl', mid_snoc pre (marksS (a + x.length) suf) (marks a x.length)]
    rw [mid_snoc pre suf x] at hl
    have h1 := ih (pre ++ [marks a x.length]) (a + x.length) (by simpa using hl) (fun y hy => hs y (List.mem_cons_of_mem _ hy)) (by omega) (by omega)
    rw [h1]
    congr 1
    omega
theorem markIntSS_v (l : List (List Int)) (hl : l.length ≤ 1000000000000) (hs : ∀ x ∈ l, x.length ≤ 1000000000000) (ha : lenS l ≤ 2000000000000000000) : laws_markIntSS.fv l 1 = some (1 + (lenS l : Int), marksS 1 l) := by
  rw [laws_markIntSS.fv_eq]
  exact markIntSS_l0 l [] 1 (by simpa using hl) hs (by omega) (by omega)
theorem heldIntSS_v (l : List (List Int)) (hl : l.length ≤ 1000000000000) (hs : ∀ x ∈ l, x.length ≤ 1000000000000) (ha : lenS l ≤ 2000000000000000000) : laws_heldIntSS.fv (marksS 1 l) 1 = some (1 + (lenS l : Int)) := by
  rw [laws_heldIntSS.fv_eq]
  exact heldIntSS_l0 l [] 1 (by simpa using hl) hs (by omega) (by omega)
theorem eqIntSS_l0 (sa : List (List Int)) : ∀ (pre : List (List Int)), (pre ++ sa).length ≤ 1000000000000 → (∀ x ∈ sa, x.length ≤ 1000000000000) → laws_eqIntSS.l0v (pre ++ sa) (pre ++ sa) (pre.length : Int) = some true := by
  induction sa with
  | nil =>
    intro pre _ _
    rw [laws_eqIntSS.l0v_eq, if_neg (nlt_end pre)]
  | cons x sa ih =>
    intro pre hl hs
    have hn : pre.length < (pre ++ x :: sa).length := by simp
    rw [laws_eqIntSS.l0v_eq, if_pos (lt_mid pre sa x), if_pos (by omega), if_pos (lt_mid pre sa x), rdL1_mid, eqIntS_v x x (hs x List.mem_cons_self), up_mid pre x hn hl]
    simp only [Option.bind_some, decide_true, if_true]
    rw [mid_snoc pre sa x] at hl ⊢
    exact ih (pre ++ [x]) hl (fun y hy => hs y (List.mem_cons_of_mem _ hy))
theorem eqIntSS_v (l : List (List Int)) (hl : l.length ≤ 1000000000000) (hs : ∀ x ∈ l, x.length ≤ 1000000000000) : laws_eqIntSS.fv l l = some true := by
  rw [laws_eqIntSS.fv_eq, if_pos rfl]
  exact eqIntSS_l0 l [] (by simpa using hl) hs
end Go.Proofs.Ytfhndlgbjhffiaa.Plain

/- FnExactListsOf: whatever the world, the program's ListsOf and the reference's ListsOf return the same, leave the world as it was, and the result shares no memory. No condition. -/
set_option linter.unusedSimpArgs false
set_option linter.unusedVariables false
namespace Go.Proofs.Ytfhndlgbjhffiaa.Pure
open Go.RowKit Go.Proofs.YtfhndlgbjhffiaaW.PrintWords Go.Proofs.Ytfhndlgbjhffiaa.Base Go.Proofs.Ytfhndlgbjhffiaa.Print Go.Proofs.Ytfhndlgbjhffiaa.Plain

theorem lenS_le (e : List S74) : lenS ((e.map toE).map (·.f0)) ≤ tot szE e := by
  induction e with
  | nil => exact Nat.le_refl _
  | cons x e ih =>
    have h1 : (toE x).f0.length ≤ szE x := by
      unfold szE toE
      simp only
      omega
    simp only [List.map_cons, lenS, tot]
    omega

set_option maxRecDepth 10000 in
theorem FnExactListsOf : laws_FnExactListsOf.Pure := by
  rintro ⟨s, t, c, e, ⟨v, g, a, f⟩, b, p, d, l, x, y, z⟩ ⟨⟨hs, _⟩, ⟨ht, _⟩, _, ⟨he, hE⟩, ⟨_, ⟨hg, _⟩, _, _⟩, _, _, ⟨hd, hD⟩, ⟨hl, hL⟩, _, _, _⟩
  have hs : s.length * 8 ≤ 140737488351232 := hs
  have ht : t.length * 8 ≤ 140737488351232 := ht
  have hg : g.length * 8 ≤ 140737488351232 := hg
  have he : e.length * 80 ≤ 140737488351232 := he
  have hd : d.length * 72 ≤ 140737488351232 := hd
  have hl : l.length * 96 ≤ 140737488351232 := hl
  have hf : fitW s t e g d l := by
    refine ⟨by omega, by omega, ⟨by omega, fun q hq => ?_⟩, by omega, ⟨by omega, fun q hq => ?_⟩, by omega, fun q hq => ?_⟩
    · obtain ⟨⟨h1, _⟩, ⟨h2, _⟩, ⟨h3, h4⟩, _⟩ := hE q hq
      have h3 : q.f2.length * 64 ≤ 140737488351232 := h3
      refine ⟨by omega, by omega, by omega, fun r hr => ?_⟩
      obtain ⟨_, ⟨h5, _⟩, ⟨h6, _⟩, _⟩ := h4 r hr
      exact ⟨by omega, by omega⟩
    · obtain ⟨⟨_, _, ⟨h5, _⟩⟩, _, ⟨h6, _⟩⟩ := hD q hq
      exact ⟨by omega, by omega⟩
    · obtain ⟨_, _, _, ⟨_, _, ⟨h5, _⟩⟩, _, ⟨h6, _⟩⟩ := hL q hq
      exact ⟨by omega, by omega⟩
  refine ends (g := fun k => laws_FnExactListsOf.f k s t c e v g a f b p d l x y z) ?_
  show laws_FnExactListsOf.fv s t c e v g a f b p d l x y z = some true
  rw [laws_FnExactListsOf.fv_eq, szWorld_v s t c e v g a f b p d l x y z 1048576 (by omega) (by omega) hf]
  simp only [Option.bind_some]
  by_cases h1 : less (szWo s t e g d l) 1048576 < 0
  · rw [if_pos h1]
  · have o := okW_less (by omega) (Int.not_lt.mp h1)
    have oE : ∀ q ∈ e.map toE, okEn q := fun q hm => by
      obtain ⟨r, hr, rfl⟩ := List.mem_map.1 hm
      exact okE_of (o.2.2.1.2 r hr)
    have oe : (e.map toE).length ≤ 1000000000000 := by
      rw [List.length_map]
      exact o.2.2.1.1
    have hz := (less_in (Int.not_lt.mp h1)).1
    have hS := lenS_le e
    have hS2 : lenS ((e.map toE).map (·.f0)) ≤ 2000000000000000000 := by
      unfold szWo at hz
      omega
    have hv : ((e.map toE).map (·.f0)).length ≤ 1000000000000 := by
      rw [List.length_map]
      exact oe
    have hr : ∀ q ∈ (e.map toE).map (·.f0), q.length ≤ 1000000000000 := fun q hm => by
      obtain ⟨r, hr, rfl⟩ := List.mem_map.1 hm
      exact (oE r hr).1
    obtain ⟨k, hk, hk0⟩ := markW_in s t c e v g a f b p d l x y z (Int.not_lt.mp h1)
    have hq : ¬ (1 + (lenS ((e.map toE).map (·.f0)) : Int) < 0) := by omega
    rw [if_neg h1, toWorld_v s t c e v g a f b p d l x y z o]
    simp only [Option.bind_some, specLists_v s t c (e.map toE) v g a f b p (d.map toD) (l.map toLg) x y z oe oE, implLists_v s t c (e.map toE) v g a f b p (d.map toD) (l.map toLg) x y z oe oE, eqWorld_v s t c e v g a f b p d l x y z o, eqIntSS_v _ hv hr, decide_true, if_true, hk, if_neg hk0, Bool.not_true, laws_FnExactListsOf.j0v_eq, Bool.false_eq_true, if_false, markIntSS_v _ hv hr hS2, heldIntSS_v _ hv hr hS2, if_neg hq, toWorld_v s t c e v g a f b p d l x y z o]
end Go.Proofs.Ytfhndlgbjhffiaa.Pure
