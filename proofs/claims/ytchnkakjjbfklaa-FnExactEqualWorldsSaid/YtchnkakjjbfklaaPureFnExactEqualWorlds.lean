/- FnExactEqualWorlds: whatever the two worlds, the program's EqualWorlds and the reference's EqualWorlds return the same and leave the worlds as they were. No condition. -/
import Derived.Test.YtchnkakjjbfklaaLimsFnExactEqualWorlds
import Derived.Test.YtchnkakjjbfklaaPrint1
import Derived.Test.YtchnkakjjbfklaaPrint0
/- Lists read by a whole number's index, and whole numbers that fit. No condition. -/
set_option linter.unusedSimpArgs false
set_option linter.unusedVariables false
namespace Go.Proofs.Ytchnkakjjbfklaa.Plain
open Go.RowKit Go.Proofs.YtchnkakjjbfklaaW.PrintWords

theorem w64 {x : Int} (h0 : -9223372036854775808 ≤ x) (h1 : x ≤ 9223372036854775807) : wrap64 x = x := by
  unfold wrap64
  omega
theorem rd_mid (pre suf : List Int) (x : Int) : rd (pre ++ x :: suf) (pre.length : Int) = x := by simp [rd]
theorem lt_mid {α : Type} (pre suf : List α) (x : α) : (pre.length : Int) < ((pre ++ x :: suf).length : Int) := by
  simp
  omega
theorem nlt_end {α : Type} (pre : List α) : ¬ (pre.length : Int) < ((pre ++ []).length : Int) := by simp
theorem up_mid {α : Type} (pre : List α) (x : α) {n : Nat} (h : pre.length < n) (hn : n ≤ 1000000000000) : wrap64 ((pre.length : Int) + 1) = ((pre ++ [x]).length : Int) := by
  rw [w64 (by omega) (by omega)]
  simp
theorem set_mid {α : Type} (pre suf : List α) (x y : α) : (pre ++ x :: suf).set (pre.length : Int).toNat y = (pre ++ [y]) ++ suf := by
  rw [Int.toNat_natCast, List.set_append_right _ _ (Nat.le_refl _), Nat.sub_self]
  simp
theorem mid_snoc {α : Type} (pre suf : List α) (x : α) : pre ++ x :: suf = (pre ++ [x]) ++ suf := by simp
theorem beq_ints (a b : List Int) : (a == b) = decide (a = b) := by
  by_cases h : a = b <;> simp [h]
end Go.Proofs.Ytchnkakjjbfklaa.Plain

/- What the law's own helpers on slices of whole numbers come to: a copy, equality, marks. Condition: the slice has at most 2 to the 40 numbers. -/
set_option linter.unusedSimpArgs false
set_option linter.unusedVariables false
namespace Go.Proofs.Ytchnkakjjbfklaa.Plain
open Go.RowKit Go.Proofs.YtchnkakjjbfklaaW.PrintWords Go.Proofs.Ytchnkakjjbfklaa.Base Go.Proofs.Ytchnkakjjbfklaa.Print

theorem toIntS_l0 (suf : List Int) : ∀ (pre rest : List Int), rest.length = suf.length → (pre ++ suf).length ≤ 1000000000000 → laws_toIntS.l0v (pre ++ suf) (pre ++ rest) (pre.length : Int) = some (pre ++ suf) := by
  induction suf with
  | nil =>
    intro pre rest hr _
    rw [laws_toIntS.l0v_eq, if_neg (nlt_end pre)]
    simp at hr
    rw [hr]
  | cons x suf ih =>
    intro pre rest hr hl
    cases rest with
    | nil => simp at hr
    | cons y rest =>
      have hn : pre.length < (pre ++ x :: suf).length := by simp
      rw [laws_toIntS.l0v_eq, if_pos (lt_mid pre suf x), if_pos (by omega), if_pos (lt_mid pre rest y), rd_mid, set_mid, up_mid pre x hn hl]
      rw [mid_snoc pre suf x] at hl ⊢
      have h1 := ih (pre ++ [x]) rest (by simpa using hr) hl
      simp only [List.length_append, List.length_cons, List.length_nil] at h1 ⊢
      exact h1

theorem toIntS_v (l : List Int) (hl : l.length ≤ 1000000000000) : laws_toIntS.fv l = some l := by
  rw [laws_toIntS.fv_eq, if_pos (by omega), if_pos (by omega)]
  have h := toIntS_l0 l [] (List.replicate ((l.length : Int) : Int).toNat 0) (by simp) (by simpa using hl)
  simpa using h

theorem eqIntS_l0 (sa : List Int) : ∀ (pre sb : List Int), sb.length = sa.length → (pre ++ sa).length ≤ 1000000000000 → laws_eqIntS.l0v (pre ++ sa) (pre ++ sb) (pre.length : Int) = some (decide (sa = sb)) := by
  induction sa with
  | nil =>
    intro pre sb hr _
    rw [laws_eqIntS.l0v_eq, if_neg (nlt_end pre)]
    simp at hr
    simp [hr]
  | cons x sa ih =>
    intro pre sb hr hl
    cases sb with
    | nil => simp at hr
    | cons y sb =>
      have hn : pre.length < (pre ++ x :: sa).length := by simp
      rw [laws_eqIntS.l0v_eq, if_pos (lt_mid pre sa x), if_pos (by omega), if_pos (lt_mid pre sb y), rd_mid, rd_mid, up_mid pre x hn hl]
      by_cases hxy : x = y
      · subst hxy
        rw [if_pos rfl]
        rw [mid_snoc pre sa x] at hl ⊢
        rw [mid_snoc pre sb x]
        rw [ih (pre ++ [x]) sb (by simpa using hr) hl]
        simp
      · rw [if_neg hxy]
        simp [hxy]

theorem eqIntS_v (a b : List Int) (hl : a.length ≤ 1000000000000) : laws_eqIntS.fv a b = some (decide (a = b)) := by
  rw [laws_eqIntS.fv_eq]
  by_cases h : a.length = b.length
  · rw [if_pos (by omega)]
    have h1 := eqIntS_l0 a [] b h.symm (by simpa using hl)
    simpa using h1
  · rw [if_neg (by omega)]
    have : a ≠ b := fun e => h (by rw [e])
    simp [this]
end Go.Proofs.Ytchnkakjjbfklaa.Plain

/- What is left of a size, row by row. Condition: at most 2 to the 20 is left. -/
set_option linter.unusedSimpArgs false
set_option linter.unusedVariables false
namespace Go.Proofs.Ytchnkakjjbfklaa.Plain
open Go.RowKit Go.Proofs.YtchnkakjjbfklaaW.PrintWords Go.Proofs.Ytchnkakjjbfklaa.Base Go.Proofs.Ytchnkakjjbfklaa.Print

theorem szIntS_f (l : List Int) (n : Int) (h0 : 0 ≤ n) (h : n ≤ 1048576) (hl : l.length ≤ 1000000000000000000) : laws_szIntS.f l n = some (if n < l.length then -1 else n - l.length) := by
  unfold laws_szIntS.f
  rw [w64 (by omega) (by omega)]
  by_cases hc : n < l.length
  · rw [if_pos (by omega), if_pos hc]
  · rw [if_neg (by omega), if_neg hc]
/-- What is left of n behind the rows, each with a size of its own; -1 where they are too large. -/
def sizes {α : Type} (f : α → Nat) : List α → Int → Int
  | [], n => n
  | x :: l, n => if n < (f x : Int) then -1 else sizes f l (n - (f x : Int))
/-- The same, with one for each row. -/
def sizeOf1 {α : Type} (f : α → Nat) (l : List α) (n : Int) : Int := if n < (l.length : Int) then -1 else sizes f l (n - (l.length : Int))
theorem sizes_le {α : Type} (f : α → Nat) (l : List α) : ∀ n : Int, 0 ≤ sizes f l n → sizes f l n ≤ n ∧ ∀ x ∈ l, (f x : Int) ≤ n := by
  induction l with
  | nil =>
    intro n h
    exact ⟨Int.le_refl _, fun x hx => by cases hx⟩
  | cons y l ih =>
    intro n h
    simp only [sizes] at h ⊢
    by_cases hc : n < (f y : Int)
    · rw [if_pos hc] at h
      omega
    · rw [if_neg hc] at h ⊢
      obtain ⟨h1, h2⟩ := ih _ h
      refine ⟨by omega, fun x hx => ?_⟩
      cases hx with
      | head => omega
      | tail _ hx =>
        have := h2 x hx
        omega
theorem sizeOf1_le {α : Type} (f : α → Nat) (l : List α) (n : Int) (h : 0 ≤ sizeOf1 f l n) : sizeOf1 f l n ≤ n ∧ (l.length : Int) ≤ n ∧ ∀ x ∈ l, (f x : Int) ≤ n := by
  unfold sizeOf1 at h ⊢
  by_cases hc : n < (l.length : Int)
  · rw [if_pos hc] at h
    omega
  · rw [if_neg hc] at h ⊢
    obtain ⟨h1, h2⟩ := sizes_le f l _ h
    exact ⟨by omega, by omega, fun x hx => by
      have := h2 x hx
      omega⟩
theorem sizes_neg {α : Type} (f : α → Nat) (l : List α) : ∀ n : Int, 0 ≤ n → sizes f l n < 0 → sizes f l n = -1 := by
  induction l with
  | nil =>
    intro n h0 h
    simp only [sizes] at h
    omega
  | cons y l ih =>
    intro n h0 h
    simp only [sizes] at h ⊢
    by_cases hc : n < (f y : Int)
    · rw [if_pos hc]
    · rw [if_neg hc] at h ⊢
      exact ih _ (by omega) h
end Go.Proofs.Ytchnkakjjbfklaa.Plain

/- When two boxes, and two paths, are the same. No program. No condition. -/
set_option linter.unusedSimpArgs false
set_option linter.unusedVariables false
namespace Go.Proofs.Ytchnkakjjbfklaa.Plain
open Go.RowKit Go.Proofs.YtchnkakjjbfklaaW.PrintWords Go.Proofs.Ytchnkakjjbfklaa.Base Go.Proofs.Ytchnkakjjbfklaa.Print

theorem rdBox_mid (pre suf : List S95) (x : S95) : rd_T95 (pre ++ x :: suf) (pre.length : Int) = x := by simp [rd_T95]
/-- Its rows are not too long. -/
def okB (b : S95) : Prop := b.f1.length ≤ 1000000000000 ∧ b.f2.length ≤ 1000000000000
def eqB (a b : S95) : Bool := decide (a.f0 = b.f0) && (decide (a.f1 = b.f1) && (decide (a.f2 = b.f2) && (a.f3 == b.f3)))
def eqBs : List S95 → List S95 → Bool
  | [], [] => true
  | a :: l, b :: m => eqB a b && eqBs l m
  | _, _ => false
theorem eqBs_len {l m : List S95} : l.length ≠ m.length → eqBs l m = false := by
  induction l generalizing m with
  | nil =>
    intro h
    cases m with
    | nil => exact absurd rfl h
    | cons b m => rfl
  | cons a l ih =>
    intro h
    cases m with
    | nil => rfl
    | cons b m =>
      simp only [eqBs]
      rw [ih (by simpa using h), Bool.and_false]
end Go.Proofs.Ytchnkakjjbfklaa.Plain

/- Boxes: their sizes, copies and equality, as the law's helpers tell them. Condition: at most 10 to the 12 of each. -/
set_option linter.unusedSimpArgs false
set_option linter.unusedVariables false
namespace Go.Proofs.Ytchnkakjjbfklaa.Plain
open Go.RowKit Go.Proofs.YtchnkakjjbfklaaW.PrintWords Go.Proofs.Ytchnkakjjbfklaa.Base Go.Proofs.Ytchnkakjjbfklaa.Print

theorem rdBoxL_mid (pre suf : List S117) (x : S117) : rd_T117 (pre ++ x :: suf) (pre.length : Int) = x := by simp [rd_T117]
/-- The law's box as the program's. -/
def toB (b : S117) : S95 := ⟨b.f0, b.f1, b.f2, b.f3⟩
def szB (b : S117) : Nat := b.f1.length + b.f2.length
theorem szBox_f (a : Int) (l m : List Int) (f : Bool) (n : Int) (h0 : 0 ≤ n) (h : n ≤ 1048576) (hl : l.length ≤ 1000000000000000000) (hm : m.length ≤ 1000000000000000000) : laws_szBox.f a l m f n = some (if n < ((l.length + m.length : Nat) : Int) then -1 else n - ((l.length + m.length : Nat) : Int)) := by
  unfold laws_szBox.f
  rw [szIntS_f l n h0 h hl]
  simp only [Option.bind_some]
  by_cases hc : n < (l.length : Int)
  · rw [if_pos hc, if_pos (by omega), if_pos (by omega)]
  · rw [if_neg hc, if_neg (by omega), szIntS_f m _ (by omega) (by omega) hm]
    simp only [Option.bind_some]
    by_cases hd : n - (l.length : Int) < (m.length : Int)
    · rw [if_pos hd, if_pos (by omega), if_pos (by omega)]
    · rw [if_neg hd, if_neg (by omega), if_neg (by omega)]
      congr 1
      omega
theorem szBoxS_l0 (suf : List S117) : ∀ (pre : List S117) (n : Int), (pre ++ suf).length ≤ 1000000000000 → 0 ≤ n → n ≤ 1048576 → (∀ x ∈ suf, x.f1.length ≤ 1000000000000000000 ∧ x.f2.length ≤ 1000000000000000000) →
    laws_szBoxS.l0v (pre ++ suf) n (pre.length : Int) = some (sizes szB suf n) := by
  induction suf with
  | nil =>
    intro pre n _ _ _ _
    rw [laws_szBoxS.l0v_eq, if_neg (nlt_end pre)]
    rfl
  | cons x suf ih =>
    intro pre n hl h0 h1 hs
    have hn : pre.length < (pre ++ x :: suf).length := by simp
    have hx := hs x List.mem_cons_self
    rw [laws_szBoxS.l0v_eq, if_pos (lt_mid pre suf x), if_pos (by omega), rdBoxL_mid, szBox_f _ _ _ _ n h0 h1 hx.1 hx.2]
    simp only [Option.bind_some, sizes]
    have e : ((x.f1.length + x.f2.length : Nat) : Int) = (szB x : Int) := rfl
    rw [e]
    by_cases hc : n < (szB x : Int)
    · rw [if_pos hc, if_pos (by omega), if_pos hc]
    · rw [if_neg hc, if_neg (by omega), if_neg hc, up_mid pre x hn hl]
      rw [mid_snoc pre suf x] at hl ⊢
      exact ih (pre ++ [x]) _ hl (by omega) (by omega) (fun y hy => hs y (List.mem_cons_of_mem _ hy))
theorem szBoxS_v (l : List S117) (n : Int) (h0 : 0 ≤ n) (h1 : n ≤ 1048576) (hl : l.length ≤ 100000000000000000) (hs : ∀ x ∈ l, x.f1.length ≤ 1000000000000000000 ∧ x.f2.length ≤ 1000000000000000000) :
    laws_szBoxS.fv l n = some (sizeOf1 szB l n) := by
  rw [laws_szBoxS.fv_eq, w64 (by omega) (by omega)]
  unfold sizeOf1
  by_cases hc : n < (l.length : Int)
  · rw [if_pos (by omega), if_pos hc]
  · rw [if_neg (by omega), if_neg hc]
    have h := szBoxS_l0 l [] (n - (l.length : Int)) (by simp; omega) (by omega) (by omega) hs
    simpa using h
theorem toBox_v (a : Int) (l m : List Int) (f : Bool) (hl : l.length ≤ 1000000000000) (hm : m.length ≤ 1000000000000) : laws_toBox.fv a l m f = some (a, l, m, f) := by
  rw [laws_toBox.fv_eq, toIntS_v l hl, toIntS_v m hm]
  rfl
theorem toBoxS_l0 (suf : List S117) : ∀ (pre : List S117) (q rest : List S95), q.length = pre.length → rest.length = suf.length → (pre ++ suf).length ≤ 1000000000000 → (∀ x ∈ suf, okB (toB x)) → laws_toBoxS.l0v (pre ++ suf) (q ++ rest) (pre.length : Int) = some (q ++ suf.map toB) := by
  induction suf with
  | nil =>
    intro pre q rest _ hr _ _
    rw [laws_toBoxS.l0v_eq, if_neg (nlt_end pre)]
    simp at hr
    simp [hr]
  | cons x suf ih =>
    intro pre q rest hq hr hl hs
    cases rest with
    | nil => simp at hr
    | cons y rest =>
      have hn : pre.length < (pre ++ x :: suf).length := by simp
      have hx : x.f1.length ≤ 1000000000000 ∧ x.f2.length ≤ 1000000000000 := hs x List.mem_cons_self
      rw [laws_toBoxS.l0v_eq, if_pos (lt_mid pre suf x), if_pos (by omega), rdBoxL_mid, toBox_v _ _ _ _ hx.1 hx.2]
      simp only [Option.bind_some]
      rw [up_mid pre x hn hl, ← hq, if_pos (lt_mid q rest y), set_mid]
      rw [mid_snoc pre suf x] at hl ⊢
      rw [show (⟨x.f0, x.f1, x.f2, x.f3⟩ : S95) = toB x from rfl, ih (pre ++ [x]) (q ++ [toB x]) rest (by simp [hq]) (by simpa using hr) hl (fun y hy => hs y (List.mem_cons_of_mem _ hy))]
      simp
theorem toBoxS_v (l : List S117) (hl : l.length ≤ 1000000000000) (hs : ∀ x ∈ l, okB (toB x)) : laws_toBoxS.fv l = some (l.map toB) := by
  rw [laws_toBoxS.fv_eq, if_pos (by omega), if_pos (by omega)]
  have h := toBoxS_l0 l [] [] (List.replicate ((l.length : Int) : Int).toNat z95) rfl (by simp) (by simpa using hl) hs
  simpa using h
theorem eqBox_v (b : S95) (h : okB b) : laws_eqBox.fv b.f0 b.f1 b.f2 b.f3 b.f0 b.f1 b.f2 b.f3 = some true := by
  rw [laws_eqBox.fv_eq, if_pos rfl, eqIntS_v _ _ h.1, eqIntS_v _ _ h.2]
  first | (simp; done) | (rcases Bool.eq_false_or_eq_true b.f3 with h3 | h3 <;> simp [h3])
theorem eqBoxS_l0 (sa : List S95) : ∀ (pre : List S95), (pre ++ sa).length ≤ 1000000000000 → (∀ x ∈ sa, okB x) → laws_eqBoxS.l0v (pre ++ sa) (pre ++ sa) (pre.length : Int) = some true := by
  induction sa with
  | nil =>
    intro pre _ _
    rw [laws_eqBoxS.l0v_eq, if_neg (nlt_end pre)]
  | cons x sa ih =>
    intro pre hl hs
    have hn : pre.length < (pre ++ x :: sa).length := by simp
    rw [laws_eqBoxS.l0v_eq, if_pos (lt_mid pre sa x), if_pos (by omega), if_pos (lt_mid pre sa x), rdBox_mid, eqBox_v x (hs x List.mem_cons_self), up_mid pre x hn hl]
    simp only [Option.bind_some, if_true]
    rw [mid_snoc pre sa x] at hl ⊢
    exact ih (pre ++ [x]) hl (fun y hy => hs y (List.mem_cons_of_mem _ hy))
theorem eqBoxS_v (l : List S95) (hl : l.length ≤ 1000000000000) (hs : ∀ x ∈ l, okB x) : laws_eqBoxS.fv l l = some true := by
  rw [laws_eqBoxS.fv_eq, if_pos rfl]
  exact eqBoxS_l0 l [] (by simpa using hl) hs
end Go.Proofs.Ytchnkakjjbfklaa.Plain

/- Endpoints: their sizes, copies and equality, as the law's helpers tell them. Condition: at most 10 to the 12 of each. -/
set_option linter.unusedSimpArgs false
set_option linter.unusedVariables false
namespace Go.Proofs.Ytchnkakjjbfklaa.Plain
open Go.RowKit Go.Proofs.YtchnkakjjbfklaaW.PrintWords Go.Proofs.Ytchnkakjjbfklaa.Base Go.Proofs.Ytchnkakjjbfklaa.Print

/-- What is left of n behind an endpoint. -/
def sizeE (v t : List Int) (p : List S117) (n : Int) : Int :=
  if n < (v.length : Int) then -1 else if n - (v.length : Int) < (t.length : Int) then -1 else if sizeOf1 szB p (n - (v.length : Int) - (t.length : Int)) < 0 then -1 else sizeOf1 szB p (n - (v.length : Int) - (t.length : Int))
/-- Its rows are not too long. -/
def okE (v t : List Int) (p : List S117) : Prop := v.length ≤ 1000000000000 ∧ t.length ≤ 1000000000000 ∧ p.length ≤ 1000000000000 ∧ ∀ x ∈ p, okB (toB x)
theorem szEnd_v (v t : List Int) (p : List S117) (c n : Int) (h0 : 0 ≤ n) (h : n ≤ 1048576) (hv : v.length ≤ 1000000000000000000) (ht : t.length ≤ 1000000000000000000) (hp : p.length ≤ 100000000000000000) (hs : ∀ x ∈ p, x.f1.length ≤ 1000000000000000000 ∧ x.f2.length ≤ 1000000000000000000) : laws_szEndpoint.fv v t p c n = some (sizeE v t p n) := by
  rw [laws_szEndpoint.fv_eq, szIntS_f v n h0 h hv]
  simp only [Option.bind_some, sizeE]
  by_cases h1 : n < (v.length : Int)
  · rw [if_pos h1, if_pos (by omega), if_pos h1]
  · rw [if_neg h1, if_neg (by omega), if_neg h1, szIntS_f t _ (by omega) (by omega) ht]
    simp only [Option.bind_some]
    by_cases h2 : n - (v.length : Int) < (t.length : Int)
    · rw [if_pos h2, if_pos (by omega), if_pos h2]
    · rw [if_neg h2, if_neg (by omega), if_neg h2, szBoxS_v p _ (by omega) (by omega) hp hs]
      simp only [Option.bind_some]
      split <;> rfl
theorem sizeE_le {v t : List Int} {p : List S117} {n : Int} (h1 : n ≤ 1048576) (h : 0 ≤ sizeE v t p n) : sizeE v t p n ≤ n ∧ okE v t p := by
  unfold sizeE at h ⊢
  by_cases h2 : n < (v.length : Int)
  · rw [if_pos h2] at h
    omega
  · rw [if_neg h2] at h ⊢
    by_cases h3 : n - (v.length : Int) < (t.length : Int)
    · rw [if_pos h3] at h
      omega
    · rw [if_neg h3] at h ⊢
      by_cases h4 : sizeOf1 szB p (n - (v.length : Int) - (t.length : Int)) < 0
      · rw [if_pos h4] at h
        omega
      · rw [if_neg h4] at h ⊢
        obtain ⟨a, b, c⟩ := sizeOf1_le szB p _ h
        refine ⟨by omega, by omega, by omega, by omega, fun x hx => ?_⟩
        have h5 := c x hx
        unfold szB at h5
        exact ⟨by show x.f1.length ≤ _; omega, by show x.f2.length ≤ _; omega⟩
theorem toEnd_v (v t : List Int) (p : List S117) (c : Int) (h : okE v t p) : laws_toEndpoint.fv v t p c = some (v, t, p.map toB, c) := by
  obtain ⟨h1, h2, h3, h4⟩ := h
  rw [laws_toEndpoint.fv_eq, toIntS_v v h1, toIntS_v t h2, toBoxS_v p h3 h4]
  rfl
theorem eqEnd_v (v t : List Int) (p : List S117) (c : Int) (h : okE v t p) : laws_eqEndpoint.fv v t (p.map toB) c v t (p.map toB) c = some true := by
  obtain ⟨h1, h2, h3, h4⟩ := h
  have h5 : ∀ x ∈ p.map toB, okB x := by
    intro x hx
    obtain ⟨y, hy, rfl⟩ := List.mem_map.1 hx
    exact h4 y hy
  rw [laws_eqEndpoint.fv_eq, eqIntS_v v v h1, eqIntS_v t t h2, eqBoxS_v (p.map toB) (by rw [List.length_map]; exact h3) h5]
  simp
theorem okE_boxes {v t : List Int} {p : List S117} (h : okE v t p) : ∀ x ∈ p.map toB, okB x := by
  intro x hx
  obtain ⟨y, hy, rfl⟩ := List.mem_map.1 hx
  exact h.2.2.2 y hy
end Go.Proofs.Ytchnkakjjbfklaa.Plain

/- Sizes in all. Condition: what is left is no less than nothing. -/
set_option linter.unusedSimpArgs false
set_option linter.unusedVariables false
namespace Go.Proofs.Ytchnkakjjbfklaa.Plain
open Go.RowKit Go.Proofs.YtchnkakjjbfklaaW.PrintWords Go.Proofs.Ytchnkakjjbfklaa.Base Go.Proofs.Ytchnkakjjbfklaa.Print

/-- All sizes together. -/
def tot {α : Type} (f : α → Nat) : List α → Nat
  | [] => 0
  | x :: l => f x + tot f l
/-- What is left behind so much. -/
def less (m : Nat) (n : Int) : Int := if n < (m : Int) then -1 else n - (m : Int)
theorem sizes_tot {α : Type} (f : α → Nat) (l : List α) : ∀ n : Int, 0 ≤ n → sizes f l n = less (tot f l) n := by
  induction l with
  | nil =>
    intro n h
    have e : ((tot f ([] : List α) : Nat) : Int) = 0 := rfl
    show n = less (tot f ([] : List α)) n
    unfold less
    rw [e, if_neg (by omega)]
    omega
  | cons x l ih =>
    intro n h
    have e : ((tot f (x :: l) : Nat) : Int) = (f x : Int) + (tot f l : Int) := by simp [tot]
    rw [show less (tot f (x :: l)) n = if n < ((tot f (x :: l) : Nat) : Int) then -1 else n - ((tot f (x :: l) : Nat) : Int) from rfl, e]
    simp only [sizes]
    by_cases hc : n < (f x : Int)
    · rw [if_pos hc, if_pos (by omega)]
    · rw [if_neg hc, ih _ (by omega)]
      unfold less
      by_cases hd : n - (f x : Int) < (tot f l : Int)
      · rw [if_pos hd, if_pos (by omega)]
      · rw [if_neg hd, if_neg (by omega)]
        omega
theorem sizeOf1_tot {α : Type} (f : α → Nat) (l : List α) (n : Int) (h : 0 ≤ n) : sizeOf1 f l n = less (l.length + tot f l) n := by
  unfold sizeOf1
  by_cases hc : n < (l.length : Int)
  · rw [if_pos hc]
    unfold less
    rw [if_pos (by omega)]
  · rw [if_neg hc, sizes_tot f l _ (by omega)]
    unfold less
    by_cases hd : n - (l.length : Int) < (tot f l : Int)
    · rw [if_pos hd, if_pos (by omega)]
    · rw [if_neg hd, if_neg (by omega)]
      omega
theorem tot_le {α : Type} (f : α → Nat) {l : List α} {x : α} (h : x ∈ l) : f x ≤ tot f l := by
  induction l with
  | nil => cases h
  | cons y l ih =>
    simp only [tot]
    cases h with
    | head => omega
    | tail _ h =>
      have := ih h
      omega
theorem less_in {m : Nat} {n : Int} (h : 0 ≤ less m n) : (m : Int) ≤ n ∧ less m n = n - (m : Int) := by
  unfold less at h ⊢
  by_cases hc : n < (m : Int)
  · rw [if_pos hc] at h
    omega
  · rw [if_neg hc]
    omega
theorem less_neg {m : Nat} {n : Int} (h : less m n < 0) (h0 : 0 ≤ n) : n < (m : Int) := by
  unfold less at h
  by_cases hc : n < (m : Int)
  · exact hc
  · rw [if_neg hc] at h
    omega
/-- One size behind another. -/
theorem less_bind {m p : Nat} {n : Int} (h0 : 0 ≤ n) : (if less m n < 0 then (-1 : Int) else less p (less m n)) = less (m + p) n := by
  by_cases h : less m n < 0
  · have := less_neg h h0
    rw [if_pos h]
    unfold less
    rw [if_pos (by omega)]
  · obtain ⟨h1, h2⟩ := less_in (Int.not_lt.mp h)
    rw [if_neg h, h2]
    unfold less
    by_cases hd : n - (m : Int) < (p : Int)
    · rw [if_pos hd, if_pos (by omega)]
    · rw [if_neg hd, if_neg (by omega)]
      omega
theorem less_neg_add {m : Nat} (p : Nat) {n : Int} (h : less m n < 0) (h0 : 0 ≤ n) : (-1 : Int) = less (m + p) n := by
  have := less_neg h h0
  unfold less
  rw [if_pos (by omega)]
theorem less_add {m : Nat} (p : Nat) {n : Int} (h : ¬ less m n < 0) : less p (less m n) = less (m + p) n := by
  obtain ⟨h1, h2⟩ := less_in (Int.not_lt.mp h)
  rw [h2]
  unfold less
  by_cases hd : n - (m : Int) < (p : Int)
  · rw [if_pos hd, if_pos (by omega)]
  · rw [if_neg hd, if_neg (by omega)]
    omega
theorem szIntS_less (l : List Int) (n : Int) (h0 : 0 ≤ n) (h : n ≤ 1048576) (hl : l.length ≤ 1000000000000000000) : laws_szIntS.f l n = some (less l.length n) := szIntS_f l n h0 h hl
/-- Two rows the same, one by one. -/
def eqG {α : Type} (f : α → α → Bool) : List α → List α → Bool
  | [], [] => true
  | a :: l, b :: m => f a b && eqG f l m
  | _, _ => false
theorem eqG_len {α : Type} (f : α → α → Bool) {l m : List α} : l.length ≠ m.length → eqG f l m = false := by
  induction l generalizing m with
  | nil =>
    intro h
    cases m with
    | nil => exact absurd rfl h
    | cons b m => rfl
  | cons a l ih =>
    intro h
    cases m with
    | nil => rfl
    | cons b m =>
      simp only [eqG]
      rw [ih (by simpa using h), Bool.and_false]
end Go.Proofs.Ytchnkakjjbfklaa.Plain

/- Rows of endpoints: their sizes, copies and equality, as the law's helpers tell them. Condition: at most 10 to the 12 of each. -/
set_option linter.unusedSimpArgs false
set_option linter.unusedVariables false
namespace Go.Proofs.Ytchnkakjjbfklaa.Plain
open Go.RowKit Go.Proofs.YtchnkakjjbfklaaW.PrintWords Go.Proofs.Ytchnkakjjbfklaa.Base Go.Proofs.Ytchnkakjjbfklaa.Print

theorem rdEnd_mid (pre suf : List S50) (x : S50) : rd_T50 (pre ++ x :: suf) (pre.length : Int) = x := by simp [rd_T50]
theorem rdEndL_mid (pre suf : List S85) (x : S85) : rd_T85 (pre ++ x :: suf) (pre.length : Int) = x := by simp [rd_T85]
/-- The law's endpoint as the program's. -/
def toE (e : S85) : S50 := ⟨e.f0, e.f1, e.f2.map toB, e.f3⟩
def szE (e : S85) : Nat := e.f0.length + (e.f1.length + (e.f2.length + tot szB e.f2))
/-- Its rows are not too long. -/
def okEn (e : S50) : Prop := e.f0.length ≤ 1000000000000 ∧ e.f1.length ≤ 1000000000000 ∧ e.f2.length ≤ 1000000000000 ∧ ∀ x ∈ e.f2, okB x
/-- Its rows are of a length that the machine can hold. -/
def fitE (e : S85) : Prop := e.f0.length ≤ 1000000000000000000 ∧ e.f1.length ≤ 1000000000000000000 ∧ e.f2.length ≤ 100000000000000000 ∧ ∀ x ∈ e.f2, x.f1.length ≤ 1000000000000000000 ∧ x.f2.length ≤ 1000000000000000000
theorem okE_of {e : S85} (h : okE e.f0 e.f1 e.f2) : okEn (toE e) := by
  obtain ⟨h1, h2, h3, h4⟩ := h
  refine ⟨h1, h2, ?_, okE_boxes ⟨h1, h2, h3, h4⟩⟩
  show (e.f2.map toB).length ≤ _
  rw [List.length_map]
  exact h3
theorem sizeE_tot (e : S85) (n : Int) (h0 : 0 ≤ n) : sizeE e.f0 e.f1 e.f2 n = less (szE e) n := by
  unfold sizeE szE less
  by_cases h1 : n < (e.f0.length : Int)
  · rw [if_pos h1, if_pos (by omega)]
  · rw [if_neg h1]
    by_cases h2 : n - (e.f0.length : Int) < (e.f1.length : Int)
    · rw [if_pos h2, if_pos (by omega)]
    · rw [if_neg h2, sizeOf1_tot szB _ _ (by omega)]
      unfold less
      by_cases h3 : n - (e.f0.length : Int) - (e.f1.length : Int) < ((e.f2.length + tot szB e.f2 : Nat) : Int)
      · rw [if_pos h3, if_pos (by omega), if_pos (by omega)]
      · rw [if_neg h3, if_neg (by omega), if_neg (by omega)]
        omega
theorem szEnd_f (e : S85) (n : Int) (h0 : 0 ≤ n) (h : n ≤ 1048576) (hf : fitE e) : laws_szEndpoint.fv e.f0 e.f1 e.f2 e.f3 n = some (less (szE e) n) := by
  rw [szEnd_v e.f0 e.f1 e.f2 e.f3 n h0 h hf.1 hf.2.1 hf.2.2.1 hf.2.2.2, sizeE_tot e n h0]
theorem okE_less {e : S85} (h : (szE e : Int) ≤ 1048576) : okE e.f0 e.f1 e.f2 := by
  have h1 : 0 ≤ sizeE e.f0 e.f1 e.f2 1048576 := by
    rw [sizeE_tot e _ (by omega)]
    unfold less
    rw [if_neg (by omega)]
    omega
  exact (sizeE_le (by omega) h1).2
theorem szEndS_l0 (suf : List S85) : ∀ (pre : List S85) (n : Int), (pre ++ suf).length ≤ 1000000000000 → 0 ≤ n → n ≤ 1048576 → (∀ x ∈ suf, fitE x) →
    laws_szEndpointS.l0v (pre ++ suf) n (pre.length : Int) = some (sizes szE suf n) := by
  induction suf with
  | nil =>
    intro pre n _ _ _ _
    rw [laws_szEndpointS.l0v_eq, if_neg (nlt_end pre)]
    rfl
  | cons x suf ih =>
    intro pre n hl h0 h1 hs
    have hn : pre.length < (pre ++ x :: suf).length := by simp
    rw [laws_szEndpointS.l0v_eq, if_pos (lt_mid pre suf x), if_pos (by omega), rdEndL_mid, szEnd_f x n h0 h1 (hs x List.mem_cons_self)]
    simp only [Option.bind_some, sizes, less]
    by_cases hc : n < (szE x : Int)
    · rw [if_pos hc, if_pos (by omega), if_pos hc]
    · rw [if_neg hc, if_neg (by omega), if_neg hc, up_mid pre x hn hl]
      rw [mid_snoc pre suf x] at hl ⊢
      exact ih (pre ++ [x]) _ hl (by omega) (by omega) (fun y hy => hs y (List.mem_cons_of_mem _ hy))
theorem szEndS_v (l : List S85) (n : Int) (h0 : 0 ≤ n) (h1 : n ≤ 1048576) (hl : l.length ≤ 100000000000000000) (hs : ∀ x ∈ l, fitE x) :
    laws_szEndpointS.fv l n = some (less (l.length + tot szE l) n) := by
  rw [laws_szEndpointS.fv_eq, w64 (by omega) (by omega), ← sizeOf1_tot szE l n h0]
  unfold sizeOf1
  by_cases hc : n < (l.length : Int)
  · rw [if_pos (by omega), if_pos hc]
  · rw [if_neg (by omega), if_neg hc]
    have h := szEndS_l0 l [] (n - (l.length : Int)) (by simp; omega) (by omega) (by omega) hs
    simpa using h
theorem toEndS_l0 (suf : List S85) : ∀ (pre : List S85) (q rest : List S50), q.length = pre.length → rest.length = suf.length → (pre ++ suf).length ≤ 1000000000000 → (∀ x ∈ suf, okE x.f0 x.f1 x.f2) → laws_toEndpointS.l0v (pre ++ suf) (q ++ rest) (pre.length : Int) = some (q ++ suf.map toE) := by
  induction suf with
  | nil =>
    intro pre q rest _ hr _ _
    rw [laws_toEndpointS.l0v_eq, if_neg (nlt_end pre)]
    simp at hr
    simp [hr]
  | cons x suf ih =>
    intro pre q rest hq hr hl hs
    cases rest with
    | nil => simp at hr
    | cons y rest =>
      have hn : pre.length < (pre ++ x :: suf).length := by simp
      rw [laws_toEndpointS.l0v_eq, if_pos (lt_mid pre suf x), if_pos (by omega), rdEndL_mid, toEnd_v _ _ _ _ (hs x List.mem_cons_self)]
      simp only [Option.bind_some]
      rw [up_mid pre x hn hl, ← hq, if_pos (lt_mid q rest y), set_mid]
      rw [mid_snoc pre suf x] at hl ⊢
      rw [show (⟨x.f0, x.f1, x.f2.map toB, x.f3⟩ : S50) = toE x from rfl, ih (pre ++ [x]) (q ++ [toE x]) rest (by simp [hq]) (by simpa using hr) hl (fun y hy => hs y (List.mem_cons_of_mem _ hy))]
      simp
theorem toEndS_v (l : List S85) (hl : l.length ≤ 1000000000000) (hs : ∀ x ∈ l, okE x.f0 x.f1 x.f2) : laws_toEndpointS.fv l = some (l.map toE) := by
  rw [laws_toEndpointS.fv_eq, if_pos (by omega), if_pos (by omega)]
  have h := toEndS_l0 l [] [] (List.replicate ((l.length : Int) : Int).toNat z50) rfl (by simp) (by simpa using hl) hs
  simpa using h
theorem eqEndS_l0 (sa : List S85) : ∀ (pre : List S50), (pre ++ sa.map toE).length ≤ 1000000000000 → (∀ x ∈ sa, okE x.f0 x.f1 x.f2) → laws_eqEndpointS.l0v (pre ++ sa.map toE) (pre ++ sa.map toE) (pre.length : Int) = some true := by
  induction sa with
  | nil =>
    intro pre _ _
    simp only [List.map_nil]
    rw [laws_eqEndpointS.l0v_eq, if_neg (nlt_end pre)]
  | cons x sa ih =>
    intro pre hl hs
    simp only [List.map_cons] at hl ⊢
    have hn : pre.length < (pre ++ toE x :: sa.map toE).length := by simp
    have h1 := eqEnd_v x.f0 x.f1 x.f2 x.f3 (hs x List.mem_cons_self)
    rw [laws_eqEndpointS.l0v_eq, if_pos (lt_mid pre (sa.map toE) (toE x)), if_pos (by omega), if_pos (lt_mid pre (sa.map toE) (toE x)), rdEnd_mid, up_mid pre (toE x) hn hl]
    simp only [toE] at h1 ⊢
    rw [h1]
    simp only [Option.bind_some, if_true]
    rw [mid_snoc pre _ _] at hl ⊢
    exact ih _ hl (fun y hy => hs y (List.mem_cons_of_mem _ hy))
theorem eqEndS_v (l : List S85) (hl : l.length ≤ 1000000000000) (hs : ∀ x ∈ l, okE x.f0 x.f1 x.f2) : laws_eqEndpointS.fv (l.map toE) (l.map toE) = some true := by
  rw [laws_eqEndpointS.fv_eq, if_pos rfl]
  simpa using eqEndS_l0 l [] (by simpa using hl) hs
end Go.Proofs.Ytchnkakjjbfklaa.Plain

/- A row of dials, read. No program. No condition. -/
set_option linter.unusedSimpArgs false
set_option linter.unusedVariables false
namespace Go.Proofs.Ytchnkakjjbfklaa.Plain
open Go.RowKit Go.Proofs.YtchnkakjjbfklaaW.PrintWords Go.Proofs.Ytchnkakjjbfklaa.Base Go.Proofs.Ytchnkakjjbfklaa.Print

theorem rdDial_mid (pre suf : List S55) (x : S55) : rd_T55 (pre ++ x :: suf) (pre.length : Int) = x := by simp [rd_T55]
/-- Its rows are not too long. -/
def okD (d : S55) : Prop := d.f0.f2.length ≤ 1000000000000 ∧ d.f2.length ≤ 1000000000000
end Go.Proofs.Ytchnkakjjbfklaa.Plain

/- Dials: their sizes, copies and equality, as the law's helpers tell them. Condition: at most 10 to the 12 of each. -/
set_option linter.unusedSimpArgs false
set_option linter.unusedVariables false
namespace Go.Proofs.Ytchnkakjjbfklaa.Plain
open Go.RowKit Go.Proofs.YtchnkakjjbfklaaW.PrintWords Go.Proofs.Ytchnkakjjbfklaa.Base Go.Proofs.Ytchnkakjjbfklaa.Print

theorem rdDialL_mid (pre suf : List S89) (x : S89) : rd_T89 (pre ++ x :: suf) (pre.length : Int) = x := by simp [rd_T89]
/-- The law's dial as the program's. -/
def toD (d : S89) : S55 := ⟨⟨d.f0.f0, d.f0.f1, d.f0.f2⟩, d.f1, d.f2⟩
def szD (d : S89) : Nat := d.f0.f2.length + d.f2.length
theorem szDialed_f (o : Bool) (v : Int) (l : List Int) (a : Int) (m : List Int) (n : Int) (h0 : 0 ≤ n) (h : n ≤ 1048576) (hl : l.length ≤ 1000000000000000000) (hm : m.length ≤ 1000000000000000000) : laws_szDialed.f o v l a m n = some (if n < ((l.length + m.length : Nat) : Int) then -1 else n - ((l.length + m.length : Nat) : Int)) := by
  unfold laws_szDialed.f laws_szDeal.f
  rw [szIntS_f l n h0 h hl]
  simp only [Option.bind_some]
  by_cases hc : n < (l.length : Int)
  · rw [if_pos hc, if_pos (by omega)]
    simp only [Option.bind_some]
    rw [if_pos (by omega), if_pos (by omega)]
  · rw [if_neg hc, if_neg (by omega)]
    simp only [Option.bind_some]
    rw [if_neg (by omega), szIntS_f m _ (by omega) (by omega) hm]
    simp only [Option.bind_some]
    by_cases hd : n - (l.length : Int) < (m.length : Int)
    · rw [if_pos hd, if_pos (by omega), if_pos (by omega)]
    · rw [if_neg hd, if_neg (by omega), if_neg (by omega)]
      congr 1
      omega
theorem szDialedS_l0 (suf : List S89) : ∀ (pre : List S89) (n : Int), (pre ++ suf).length ≤ 1000000000000 → 0 ≤ n → n ≤ 1048576 → (∀ x ∈ suf, x.f0.f2.length ≤ 1000000000000000000 ∧ x.f2.length ≤ 1000000000000000000) →
    laws_szDialedS.l0v (pre ++ suf) n (pre.length : Int) = some (sizes szD suf n) := by
  induction suf with
  | nil =>
    intro pre n _ _ _ _
    rw [laws_szDialedS.l0v_eq, if_neg (nlt_end pre)]
    rfl
  | cons x suf ih =>
    intro pre n hl h0 h1 hs
    have hn : pre.length < (pre ++ x :: suf).length := by simp
    have hx := hs x List.mem_cons_self
    rw [laws_szDialedS.l0v_eq, if_pos (lt_mid pre suf x), if_pos (by omega), rdDialL_mid, szDialed_f _ _ _ _ _ n h0 h1 hx.1 hx.2]
    simp only [Option.bind_some, sizes]
    have e : ((x.f0.f2.length + x.f2.length : Nat) : Int) = (szD x : Int) := rfl
    rw [e]
    by_cases hc : n < (szD x : Int)
    · rw [if_pos hc, if_pos (by omega), if_pos hc]
    · rw [if_neg hc, if_neg (by omega), if_neg hc, up_mid pre x hn hl]
      rw [mid_snoc pre suf x] at hl ⊢
      exact ih (pre ++ [x]) _ hl (by omega) (by omega) (fun y hy => hs y (List.mem_cons_of_mem _ hy))
theorem szDialedS_v (l : List S89) (n : Int) (h0 : 0 ≤ n) (h1 : n ≤ 1048576) (hl : l.length ≤ 100000000000000000) (hs : ∀ x ∈ l, x.f0.f2.length ≤ 1000000000000000000 ∧ x.f2.length ≤ 1000000000000000000) :
    laws_szDialedS.fv l n = some (sizeOf1 szD l n) := by
  rw [laws_szDialedS.fv_eq, w64 (by omega) (by omega)]
  unfold sizeOf1
  by_cases hc : n < (l.length : Int)
  · rw [if_pos (by omega), if_pos hc]
  · rw [if_neg (by omega), if_neg hc]
    have h := szDialedS_l0 l [] (n - (l.length : Int)) (by simp; omega) (by omega) (by omega) hs
    simpa using h
theorem toDialed_v (o : Bool) (v : Int) (l : List Int) (a : Int) (m : List Int) (hl : l.length ≤ 1000000000000) (hm : m.length ≤ 1000000000000) : laws_toDialed.fv o v l a m = some (o, v, l, a, m) := by
  rw [laws_toDialed.fv_eq, laws_toDeal.fv_eq, toIntS_v l hl, toIntS_v m hm]
  rfl
theorem toDialedS_l0 (suf : List S89) : ∀ (pre : List S89) (q rest : List S55), q.length = pre.length → rest.length = suf.length → (pre ++ suf).length ≤ 1000000000000 → (∀ x ∈ suf, okD (toD x)) → laws_toDialedS.l0v (pre ++ suf) (q ++ rest) (pre.length : Int) = some (q ++ suf.map toD) := by
  induction suf with
  | nil =>
    intro pre q rest _ hr _ _
    rw [laws_toDialedS.l0v_eq, if_neg (nlt_end pre)]
    simp at hr
    simp [hr]
  | cons x suf ih =>
    intro pre q rest hq hr hl hs
    cases rest with
    | nil => simp at hr
    | cons y rest =>
      have hn : pre.length < (pre ++ x :: suf).length := by simp
      have hx : x.f0.f2.length ≤ 1000000000000 ∧ x.f2.length ≤ 1000000000000 := hs x List.mem_cons_self
      rw [laws_toDialedS.l0v_eq, if_pos (lt_mid pre suf x), if_pos (by omega), rdDialL_mid, toDialed_v _ _ _ _ _ hx.1 hx.2]
      simp only [Option.bind_some]
      rw [up_mid pre x hn hl, ← hq, if_pos (lt_mid q rest y), set_mid]
      rw [mid_snoc pre suf x] at hl ⊢
      rw [show (⟨⟨x.f0.f0, x.f0.f1, x.f0.f2⟩, x.f1, x.f2⟩ : S55) = toD x from rfl, ih (pre ++ [x]) (q ++ [toD x]) rest (by simp [hq]) (by simpa using hr) hl (fun y hy => hs y (List.mem_cons_of_mem _ hy))]
      simp
theorem toDialedS_v (l : List S89) (hl : l.length ≤ 1000000000000) (hs : ∀ x ∈ l, okD (toD x)) : laws_toDialedS.fv l = some (l.map toD) := by
  rw [laws_toDialedS.fv_eq, if_pos (by omega), if_pos (by omega)]
  have h := toDialedS_l0 l [] [] (List.replicate ((l.length : Int) : Int).toNat z55) rfl (by simp) (by simpa using hl) hs
  simpa using h
theorem eqDialed_v (d : S55) (h : okD d) : laws_eqDialed.fv d.f0.f0 d.f0.f1 d.f0.f2 d.f1 d.f2 d.f0.f0 d.f0.f1 d.f0.f2 d.f1 d.f2 = some true := by
  rw [laws_eqDialed.fv_eq, laws_eqDeal.fv_eq, eqIntS_v _ _ h.1, eqIntS_v _ _ h.2]
  first | (simp; done) | (rcases Bool.eq_false_or_eq_true d.f0.f0 with h3 | h3 <;> simp [h3])
theorem eqDialedS_l0 (sa : List S55) : ∀ (pre : List S55), (pre ++ sa).length ≤ 1000000000000 → (∀ x ∈ sa, okD x) → laws_eqDialedS.l0v (pre ++ sa) (pre ++ sa) (pre.length : Int) = some true := by
  induction sa with
  | nil =>
    intro pre _ _
    rw [laws_eqDialedS.l0v_eq, if_neg (nlt_end pre)]
  | cons x sa ih =>
    intro pre hl hs
    have hn : pre.length < (pre ++ x :: sa).length := by simp
    rw [laws_eqDialedS.l0v_eq, if_pos (lt_mid pre sa x), if_pos (by omega), if_pos (lt_mid pre sa x), rdDial_mid, eqDialed_v x (hs x List.mem_cons_self), up_mid pre x hn hl]
    simp only [Option.bind_some, if_true]
    rw [mid_snoc pre sa x] at hl ⊢
    exact ih (pre ++ [x]) hl (fun y hy => hs y (List.mem_cons_of_mem _ hy))
theorem eqDialedS_v (l : List S55) (hl : l.length ≤ 1000000000000) (hs : ∀ x ∈ l, okD x) : laws_eqDialedS.fv l l = some true := by
  rw [laws_eqDialedS.fv_eq, if_pos rfl]
  exact eqDialedS_l0 l [] (by simpa using hl) hs
end Go.Proofs.Ytchnkakjjbfklaa.Plain

/- Rows of logged dials: their sizes, copies and equality, as the law's helpers tell them. Condition: at most 10 to the 12 of each. -/
set_option linter.unusedSimpArgs false
set_option linter.unusedVariables false
namespace Go.Proofs.Ytchnkakjjbfklaa.Plain
open Go.RowKit Go.Proofs.YtchnkakjjbfklaaW.PrintWords Go.Proofs.Ytchnkakjjbfklaa.Base Go.Proofs.Ytchnkakjjbfklaa.Print

theorem rdLog_mid (pre suf : List S57) (x : S57) : rd_T57 (pre ++ x :: suf) (pre.length : Int) = x := by simp [rd_T57]
theorem rdLogL_mid (pre suf : List S92) (x : S92) : rd_T92 (pre ++ x :: suf) (pre.length : Int) = x := by simp [rd_T92]
/-- The law's logged dial as the program's. -/
def toLg (d : S92) : S57 := ⟨d.f0, d.f1, d.f2, toD d.f3⟩
def szLg (d : S92) : Nat := szD d.f3
def okLg (d : S57) : Prop := okD d.f3
theorem szLogS_l0 (suf : List S92) : ∀ (pre : List S92) (n : Int), (pre ++ suf).length ≤ 1000000000000 → 0 ≤ n → n ≤ 1048576 → (∀ x ∈ suf, x.f3.f0.f2.length ≤ 1000000000000000000 ∧ x.f3.f2.length ≤ 1000000000000000000) →
    laws_szLoggedS.l0v (pre ++ suf) n (pre.length : Int) = some (sizes szLg suf n) := by
  induction suf with
  | nil =>
    intro pre n _ _ _ _
    rw [laws_szLoggedS.l0v_eq, if_neg (nlt_end pre)]
    rfl
  | cons x suf ih =>
    intro pre n hl h0 h1 hs
    have hn : pre.length < (pre ++ x :: suf).length := by simp
    have hx := hs x List.mem_cons_self
    rw [laws_szLoggedS.l0v_eq, if_pos (lt_mid pre suf x), if_pos (by omega), rdLogL_mid]
    unfold laws_szLogged.f
    rw [szDialed_f _ _ _ _ _ n h0 h1 hx.1 hx.2]
    simp only [Option.bind_some, sizes]
    have e : ((x.f3.f0.f2.length + x.f3.f2.length : Nat) : Int) = (szLg x : Int) := rfl
    rw [e]
    by_cases hc : n < (szLg x : Int)
    · rw [if_pos hc, if_pos (by omega), if_pos hc]
      simp
    · rw [if_neg hc, if_neg (by omega), if_neg hc]
      simp only [Option.bind_some]
      rw [if_neg (by omega), up_mid pre x hn hl]
      rw [mid_snoc pre suf x] at hl ⊢
      exact ih (pre ++ [x]) _ hl (by omega) (by omega) (fun y hy => hs y (List.mem_cons_of_mem _ hy))
theorem szLogS_v (l : List S92) (n : Int) (h0 : 0 ≤ n) (h1 : n ≤ 1048576) (hl : l.length ≤ 100000000000000000) (hs : ∀ x ∈ l, x.f3.f0.f2.length ≤ 1000000000000000000 ∧ x.f3.f2.length ≤ 1000000000000000000) :
    laws_szLoggedS.fv l n = some (less (l.length + tot szLg l) n) := by
  rw [laws_szLoggedS.fv_eq, w64 (by omega) (by omega), ← sizeOf1_tot szLg l n h0]
  unfold sizeOf1
  by_cases hc : n < (l.length : Int)
  · rw [if_pos (by omega), if_pos hc]
  · rw [if_neg (by omega), if_neg hc]
    have h := szLogS_l0 l [] (n - (l.length : Int)) (by simp; omega) (by omega) (by omega) hs
    simpa using h
theorem toLogS_l0 (suf : List S92) : ∀ (pre : List S92) (q rest : List S57), q.length = pre.length → rest.length = suf.length → (pre ++ suf).length ≤ 1000000000000 → (∀ x ∈ suf, okLg (toLg x)) → laws_toLoggedS.l0v (pre ++ suf) (q ++ rest) (pre.length : Int) = some (q ++ suf.map toLg) := by
  induction suf with
  | nil =>
    intro pre q rest _ hr _ _
    rw [laws_toLoggedS.l0v_eq, if_neg (nlt_end pre)]
    simp at hr
    simp [hr]
  | cons x suf ih =>
    intro pre q rest hq hr hl hs
    cases rest with
    | nil => simp at hr
    | cons y rest =>
      have hn : pre.length < (pre ++ x :: suf).length := by simp
      have hx : x.f3.f0.f2.length ≤ 1000000000000 ∧ x.f3.f2.length ≤ 1000000000000 := hs x List.mem_cons_self
      rw [laws_toLoggedS.l0v_eq, if_pos (lt_mid pre suf x), if_pos (by omega), rdLogL_mid, laws_toLogged.fv_eq, toDialed_v _ _ _ _ _ hx.1 hx.2]
      simp only [Option.bind_some]
      rw [up_mid pre x hn hl, ← hq, if_pos (lt_mid q rest y), set_mid]
      rw [mid_snoc pre suf x] at hl ⊢
      rw [show (⟨x.f0, x.f1, x.f2, ⟨⟨x.f3.f0.f0, x.f3.f0.f1, x.f3.f0.f2⟩, x.f3.f1, x.f3.f2⟩⟩ : S57) = toLg x from rfl, ih (pre ++ [x]) (q ++ [toLg x]) rest (by simp [hq]) (by simpa using hr) hl (fun y hy => hs y (List.mem_cons_of_mem _ hy))]
      simp
theorem toLogS_v (l : List S92) (hl : l.length ≤ 1000000000000) (hs : ∀ x ∈ l, okLg (toLg x)) : laws_toLoggedS.fv l = some (l.map toLg) := by
  rw [laws_toLoggedS.fv_eq, if_pos (by omega), if_pos (by omega)]
  have h := toLogS_l0 l [] [] (List.replicate ((l.length : Int) : Int).toNat z57) rfl (by simp) (by simpa using hl) hs
  simpa using h
theorem eqLogS_l0 (sa : List S57) : ∀ (pre : List S57), (pre ++ sa).length ≤ 1000000000000 → (∀ x ∈ sa, okLg x) → laws_eqLoggedS.l0v (pre ++ sa) (pre ++ sa) (pre.length : Int) = some true := by
  induction sa with
  | nil =>
    intro pre _ _
    rw [laws_eqLoggedS.l0v_eq, if_neg (nlt_end pre)]
  | cons x sa ih =>
    intro pre hl hs
    have hn : pre.length < (pre ++ x :: sa).length := by simp
    rw [laws_eqLoggedS.l0v_eq, if_pos (lt_mid pre sa x), if_pos (by omega), if_pos (lt_mid pre sa x), rdLog_mid, laws_eqLogged.fv_eq, eqDialed_v x.f3 (hs x List.mem_cons_self), up_mid pre x hn hl]
    simp only [Option.bind_some, if_true, bne_self_eq_false, Bool.false_eq_true, if_false]
    rw [mid_snoc pre sa x] at hl ⊢
    rcases Bool.eq_false_or_eq_true x.f2 with h3 | h3 <;> simp only [h3, if_true, Bool.false_eq_true, if_false, Option.bind_some] <;> exact ih (pre ++ [x]) hl (fun y hy => hs y (List.mem_cons_of_mem _ hy))
theorem eqLogS_v (l : List S57) (hl : l.length ≤ 1000000000000) (hs : ∀ x ∈ l, okLg x) : laws_eqLoggedS.fv l l = some true := by
  rw [laws_eqLoggedS.fv_eq, if_pos rfl]
  exact eqLogS_l0 l [] (by simpa using hl) hs
end Go.Proofs.Ytchnkakjjbfklaa.Plain

/- Are two rollouts the same? No condition. -/
set_option linter.unusedSimpArgs false
set_option linter.unusedVariables false
namespace Go.Proofs.Ytchnkakjjbfklaa.Plain
open Go.RowKit Go.Proofs.YtchnkakjjbfklaaW.PrintWords Go.Proofs.Ytchnkakjjbfklaa.Base
/-- Are two rollouts the same? -/
def eqR (v : Int) (l : List Int) (t : Int) (f : Bool) (v' : Int) (l' : List Int) (t' : Int) (f' : Bool) : Bool := decide (v = v') && (decide (l = l') && (decide (t = t') && (f == f')))
theorem eqR_refl (v : Int) (l : List Int) (t : Int) (f : Bool) : eqR v l t f v l t f = true := by simp [eqR]
end Go.Proofs.Ytchnkakjjbfklaa.Plain

/- The law's helpers on rollouts. Condition: the stages are at most 10 to the 12. -/
set_option linter.unusedSimpArgs false
set_option linter.unusedVariables false
namespace Go.Proofs.Ytchnkakjjbfklaa.Plain
open Go.RowKit Go.Proofs.YtchnkakjjbfklaaW.PrintWords Go.Proofs.Ytchnkakjjbfklaa.Base Go.Proofs.Ytchnkakjjbfklaa.Print

theorem toRollout_v (v : Int) (l : List Int) (t : Int) (f : Bool) (hl : l.length ≤ 1000000000000) : laws_toRollout.fv v l t f = some (v, l, t, f) := by
  rw [laws_toRollout.fv_eq, toIntS_v l hl]
  rfl
theorem eqRollout_v (v : Int) (l : List Int) (t : Int) (f : Bool) (v' : Int) (l' : List Int) (t' : Int) (f' : Bool) (hl : l.length ≤ 1000000000000) : laws_eqRollout.fv v l t f v' l' t' f' = some (eqR v l t f v' l' t' f') := by
  rw [laws_eqRollout.fv_eq, eqIntS_v l l' hl]
  simp only [Option.bind_some, eqR]
  by_cases h1 : v = v' <;> by_cases h2 : l = l' <;> by_cases h3 : t = t' <;> cases f <;> cases f' <;> simp [h1, h2, h3]
/-- A rollout's size, taken from what is left. -/
theorem szRollout_f (v : Int) (l : List Int) (t : Int) (f : Bool) (n : Int) (h0 : 0 ≤ n) (h : n ≤ 1048576) (hl : l.length ≤ 1000000000000000000) : laws_szRollout.f v l t f n = some (if n < l.length then -1 else n - l.length) := by
  unfold laws_szRollout.f
  rw [szIntS_f l n h0 h hl]
  simp only [Option.bind_some]
  by_cases hc : n < l.length
  · rw [if_pos hc, if_pos (by omega)]
  · rw [if_neg hc, if_neg (by omega)]
end Go.Proofs.Ytchnkakjjbfklaa.Plain

/- Worlds: their sizes, copies and equality, as the law's helpers tell them. Condition: at most 10 to the 12 of each. -/
set_option linter.unusedSimpArgs false
set_option linter.unusedVariables false
namespace Go.Proofs.Ytchnkakjjbfklaa.Plain
open Go.RowKit Go.Proofs.YtchnkakjjbfklaaW.PrintWords Go.Proofs.Ytchnkakjjbfklaa.Base Go.Proofs.Ytchnkakjjbfklaa.Print

/-- How many rows and numbers a world has. -/
def szWo (s t : List Int) (e : List S85) (g : List Int) (d : List S89) (l : List S92) : Nat :=
  s.length + (t.length + ((e.length + tot szE e) + (g.length + ((d.length + tot szD d) + (l.length + tot szLg l)))))
/-- Its rows are of a length that the machine can hold. -/
def fitW (s t : List Int) (e : List S85) (g : List Int) (d : List S89) (l : List S92) : Prop :=
  s.length ≤ 1000000000000000000 ∧ t.length ≤ 1000000000000000000 ∧ (e.length ≤ 100000000000000000 ∧ ∀ x ∈ e, fitE x) ∧ g.length ≤ 1000000000000000000 ∧ (d.length ≤ 100000000000000000 ∧ ∀ x ∈ d, x.f0.f2.length ≤ 1000000000000000000 ∧ x.f2.length ≤ 1000000000000000000) ∧ (l.length ≤ 100000000000000000 ∧ ∀ x ∈ l, x.f3.f0.f2.length ≤ 1000000000000000000 ∧ x.f3.f2.length ≤ 1000000000000000000)
theorem szWorld_v (s t : List Int) (c : Int) (e : List S85) (v : Int) (g : List Int) (a : Int) (f : Bool) (b p : Int) (d : List S89) (l : List S92) (x y z n : Int) (h0 : 0 ≤ n) (h : n ≤ 1048576) (hf : fitW s t e g d l) :
    laws_szWorld.fv s t c e v g a f b p d l x y z n = some (less (szWo s t e g d l) n) := by
  obtain ⟨f1, f2, f3, f4, f5, f6⟩ := hf
  unfold szWo
  rw [laws_szWorld.fv_eq, szIntS_less s n h0 h f1]
  simp only [Option.bind_some]
  by_cases h1 : less s.length n < 0
  · rw [if_pos h1, less_neg_add _ h1 h0]
  · have b1 := less_in (Int.not_lt.mp h1)
    rw [if_neg h1, ← less_add _ h1]
    generalize less s.length n = n1 at h1 b1
    rw [szIntS_less t n1 (by omega) (by omega) f2]
    simp only [Option.bind_some]
    by_cases h2 : less t.length n1 < 0
    · rw [if_pos h2, less_neg_add _ h2 (by omega)]
    · have b2 := less_in (Int.not_lt.mp h2)
      rw [if_neg h2, ← less_add _ h2]
      generalize less t.length n1 = n2 at h2 b2
      rw [szEndS_v e n2 (by omega) (by omega) f3.1 f3.2]
      simp only [Option.bind_some]
      by_cases h3 : less (e.length + tot szE e) n2 < 0
      · rw [if_pos h3, less_neg_add _ h3 (by omega)]
      · have b3 := less_in (Int.not_lt.mp h3)
        rw [if_neg h3, ← less_add _ h3]
        generalize less (e.length + tot szE e) n2 = n3 at h3 b3
        rw [szRollout_f v g a f n3 (by omega) (by omega) f4]
        simp only [Option.bind_some, show (if n3 < (g.length : Int) then (-1 : Int) else n3 - (g.length : Int)) = less g.length n3 from rfl]
        by_cases h4 : less g.length n3 < 0
        · rw [if_pos h4, less_neg_add _ h4 (by omega)]
        · have b4 := less_in (Int.not_lt.mp h4)
          rw [if_neg h4, ← less_add _ h4]
          generalize less g.length n3 = n4 at h4 b4
          rw [szDialedS_v d n4 (by omega) (by omega) f5.1 f5.2, sizeOf1_tot szD d n4 (by omega)]
          simp only [Option.bind_some]
          by_cases h5 : less (d.length + tot szD d) n4 < 0
          · rw [if_pos h5, less_neg_add _ h5 (by omega)]
          · have b5 := less_in (Int.not_lt.mp h5)
            rw [if_neg h5, ← less_add _ h5]
            generalize less (d.length + tot szD d) n4 = n5 at h5 b5
            rw [szLogS_v l n5 (by omega) (by omega) f6.1 f6.2]
            simp only [Option.bind_some]
            by_cases h6 : less (l.length + tot szLg l) n5 < 0
            · rw [if_pos h6, show (-1 : Int) = less (l.length + tot szLg l) n5 from less_neg_add 0 h6 (by omega)]
            · rw [if_neg h6]
/-- Its rows are not too long. -/
def okW (s t : List Int) (e : List S85) (g : List Int) (d : List S89) (l : List S92) : Prop :=
  s.length ≤ 1000000000000 ∧ t.length ≤ 1000000000000 ∧ (e.length ≤ 1000000000000 ∧ ∀ x ∈ e, okE x.f0 x.f1 x.f2) ∧ g.length ≤ 1000000000000 ∧ (d.length ≤ 1000000000000 ∧ ∀ x ∈ d, okD (toD x)) ∧ (l.length ≤ 1000000000000 ∧ ∀ x ∈ l, okLg (toLg x))
theorem okW_less {s t : List Int} {e : List S85} {g : List Int} {d : List S89} {l : List S92} {n : Int} (hn : n ≤ 1048576) (h : 0 ≤ less (szWo s t e g d l) n) : okW s t e g d l := by
  obtain ⟨h1, _⟩ := less_in h
  unfold szWo at h1
  refine ⟨by omega, by omega, ⟨by omega, fun x hx => okE_less ?_⟩, by omega, ⟨by omega, fun x hx => ?_⟩, by omega, fun x hx => ?_⟩
  · have := tot_le szE hx
    omega
  · have := tot_le szD hx
    have h9 : szD x = x.f0.f2.length + x.f2.length := rfl
    exact ⟨by show x.f0.f2.length ≤ _; omega, by show x.f2.length ≤ _; omega⟩
  · have := tot_le szLg hx
    have h9 : szLg x = x.f3.f0.f2.length + x.f3.f2.length := rfl
    exact ⟨by show x.f3.f0.f2.length ≤ _; omega, by show x.f3.f2.length ≤ _; omega⟩
theorem toWorld_v (s t : List Int) (c : Int) (e : List S85) (v : Int) (g : List Int) (a : Int) (f : Bool) (b p : Int) (d : List S89) (l : List S92) (x y z : Int) (h : okW s t e g d l) :
    laws_toWorld.fv s t c e v g a f b p d l x y z = some (s, t, c, e.map toE, v, g, a, f, b, p, d.map toD, l.map toLg, x, y, z) := by
  obtain ⟨h1, h2, h3, h4, h5, h6⟩ := h
  rw [laws_toWorld.fv_eq, toIntS_v s h1, toIntS_v t h2, toEndS_v e h3.1 h3.2, toRollout_v v g a f h4, toDialedS_v d h5.1 h5.2, toLogS_v l h6.1 h6.2]
  rfl
theorem eqWorld_v (s t : List Int) (c : Int) (e : List S85) (v : Int) (g : List Int) (a : Int) (f : Bool) (b p : Int) (d : List S89) (l : List S92) (x y z : Int) (h : okW s t e g d l) :
    laws_eqWorld.fv s t c (e.map toE) v g a f b p (d.map toD) (l.map toLg) x y z s t c (e.map toE) v g a f b p (d.map toD) (l.map toLg) x y z = some true := by
  obtain ⟨h1, h2, h3, h4, h5, h6⟩ := h
  have h5' : ∀ x ∈ d.map toD, okD x := fun x hm => by
    obtain ⟨y, hy, rfl⟩ := List.mem_map.1 hm
    exact h5.2 y hy
  have h6' : ∀ x ∈ l.map toLg, okLg x := fun x hm => by
    obtain ⟨y, hy, rfl⟩ := List.mem_map.1 hm
    exact h6.2 y hy
  rw [laws_eqWorld.fv_eq, eqIntS_v s s h1, eqIntS_v t t h2, eqEndS_v e h3.1 h3.2, eqRollout_v v g a f v g a f h4, eqDialedS_v (d.map toD) (by rw [List.length_map]; exact h5.1) h5', eqLogS_v (l.map toLg) (by rw [List.length_map]; exact h6.1) h6', eqR_refl]
  simp
end Go.Proofs.Ytchnkakjjbfklaa.Plain

/- slices.Equal on whole numbers. Condition: at most 10 to the 12 numbers. -/
set_option linter.unusedSimpArgs false
set_option linter.unusedVariables false
namespace Go.Proofs.Ytchnkakjjbfklaa.Plain
open Go.RowKit Go.Proofs.YtchnkakjjbfklaaW.PrintWords Go.Proofs.Ytchnkakjjbfklaa.Base Go.Proofs.Ytchnkakjjbfklaa.Print

theorem slicesEqual_l0 (sa : List Int) : ∀ (pre sb : List Int), sb.length = sa.length → (pre ++ sa).length ≤ 1000000000000 → slices_Equal_int_int.l0v (pre ++ sa) (pre ++ sb) ((pre ++ sa).length : Int) (pre.length : Int) = some (decide (sa = sb)) := by
  induction sa with
  | nil =>
    intro pre sb hr _
    rw [slices_Equal_int_int.l0v_eq, if_neg (nlt_end pre)]
    simp at hr
    simp [hr]
  | cons x sa ih =>
    intro pre sb hr hl
    cases sb with
    | nil => simp at hr
    | cons y sb =>
      have hn : pre.length < (pre ++ x :: sa).length := by simp
      rw [slices_Equal_int_int.l0v_eq, if_pos (lt_mid pre sa x), if_pos (by omega), if_pos (lt_mid pre sa x), if_pos (lt_mid pre sb y), rd_mid, rd_mid, up_mid pre x hn hl]
      by_cases hxy : x = y
      · subst hxy
        rw [if_pos rfl]
        rw [mid_snoc pre sa x] at hl ⊢
        rw [mid_snoc pre sb x]
        rw [ih (pre ++ [x]) sb (by simpa using hr) hl]
        simp
      · rw [if_neg hxy]
        simp [hxy]
theorem slicesEqual_v (a b : List Int) (hl : a.length ≤ 1000000000000) : slices_Equal_int_int.fv a b = some (decide (a = b)) := by
  rw [slices_Equal_int_int.fv_eq]
  by_cases h : a.length = b.length
  · rw [if_pos (by omega)]
    have h1 := slicesEqual_l0 a [] b h.symm (by simpa using hl)
    simpa using h1
  · rw [if_neg (by omega)]
    have : a ≠ b := fun e => h (by rw [e])
    simp [this]
end Go.Proofs.Ytchnkakjjbfklaa.Plain

/- EqualBoxes and EqualEndpoints, of the program. Condition: at most 10 to the 12 of each. -/
set_option linter.unusedSimpArgs false
set_option linter.unusedVariables false
namespace Go.Proofs.Ytchnkakjjbfklaa.Plain
open Go.RowKit Go.Proofs.YtchnkakjjbfklaaW.PrintWords Go.Proofs.Ytchnkakjjbfklaa.Base Go.Proofs.Ytchnkakjjbfklaa.Print

theorem implEqB_v (a b : S95) (h : okB a) : impl_EqualBoxes.fv a.f0 a.f1 a.f2 a.f3 b.f0 b.f1 b.f2 b.f3 = some (eqB a b) := by
  rw [impl_EqualBoxes.fv_eq, slicesEqual_v _ _ h.1, slicesEqual_v _ _ h.2]
  simp only [Option.bind_some, eqB]
  by_cases h1 : a.f0 = b.f0 <;> by_cases h2 : a.f1 = b.f1 <;> by_cases h3 : a.f2 = b.f2 <;> cases a.f3 <;> cases b.f3 <;> simp [h1, h2, h3]
theorem implEqBs_l0 (sa : List S95) : ∀ (pre q sb : List S95), q.length = pre.length → sb.length = sa.length → (pre ++ sa).length ≤ 1000000000000 → (∀ x ∈ sa, okB x) →
    slices_EqualFunc_impl_Box_impl_Box_impl_Box_impl_Box_with_impl_EqualBoxes.l0v (q ++ sb) (pre ++ sa) ((pre ++ sa).length : Int) (pre.length : Int) = some (eqBs sa sb) := by
  induction sa with
  | nil =>
    intro pre q sb _ hr _ _
    rw [slices_EqualFunc_impl_Box_impl_Box_impl_Box_impl_Box_with_impl_EqualBoxes.l0v_eq, if_neg (nlt_end pre)]
    simp at hr
    simp [hr, eqBs]
  | cons x sa ih =>
    intro pre q sb hq hr hl hs
    cases sb with
    | nil => simp at hr
    | cons y sb =>
      have hn : pre.length < (pre ++ x :: sa).length := by simp
      rw [slices_EqualFunc_impl_Box_impl_Box_impl_Box_impl_Box_with_impl_EqualBoxes.l0v_eq, if_pos (lt_mid pre sa x), if_pos (by omega), if_pos (lt_mid pre sa x), rdBox_mid, up_mid pre x hn hl, ← hq, if_pos (lt_mid q sb y), rdBox_mid, implEqB_v x y (hs x List.mem_cons_self)]
      simp only [Option.bind_some, eqBs]
      cases eqB x y with
      | false => simp
      | true =>
        rw [if_pos rfl, mid_snoc q sb y]
        rw [mid_snoc pre sa x] at hl ⊢
        rw [ih (pre ++ [x]) (q ++ [y]) sb (by simp [hq]) (by simpa using hr) hl (fun y hy => hs y (List.mem_cons_of_mem _ hy))]
        rfl
theorem implEqBs_v (l m : List S95) (hl : l.length ≤ 1000000000000) (hs : ∀ x ∈ l, okB x) : slices_EqualFunc_impl_Box_impl_Box_impl_Box_impl_Box_with_impl_EqualBoxes.fv l m = some (eqBs l m) := by
  rw [slices_EqualFunc_impl_Box_impl_Box_impl_Box_impl_Box_with_impl_EqualBoxes.fv_eq]
  by_cases h : l.length = m.length
  · rw [if_pos (by omega)]
    simpa using implEqBs_l0 l [] [] m rfl h.symm (by simpa using hl) hs
  · rw [if_neg (by omega), eqBs_len h]
/-- When two endpoints are the same. -/
def eqE (v t : List Int) (p : List S95) (c : Int) (v' t' : List Int) (p' : List S95) (c' : Int) : Bool := decide (v = v') && (decide (t = t') && (eqBs p p' && decide (c = c')))
theorem implEqE_v (v t : List Int) (p : List S95) (c : Int) (v' t' : List Int) (p' : List S95) (c' : Int) (hv : v.length ≤ 1000000000000) (ht : t.length ≤ 1000000000000) (hp : p.length ≤ 1000000000000) (hs : ∀ x ∈ p, okB x) :
    impl_EqualEndpoints.fv v t p c v' t' p' c' = some (eqE v t p c v' t' p' c') := by
  rw [impl_EqualEndpoints.fv_eq, slicesEqual_v v v' hv, slicesEqual_v t t' ht, implEqBs_v p p' hp hs]
  simp only [Option.bind_some, eqE]
  by_cases h1 : v = v' <;> by_cases h2 : t = t' <;> cases eqBs p p' <;> by_cases h4 : c = c' <;> simp [h1, h2, h4]
end Go.Proofs.Ytchnkakjjbfklaa.Plain

/- EqualInts, of the reference, and slices.Equal. Condition: at most 10 to the 12 numbers. -/
set_option linter.unusedSimpArgs false
set_option linter.unusedVariables false
namespace Go.Proofs.Ytchnkakjjbfklaa.Plain
open Go.RowKit Go.Proofs.YtchnkakjjbfklaaW.PrintWords Go.Proofs.Ytchnkakjjbfklaa.Base Go.Proofs.Ytchnkakjjbfklaa.Print

theorem specEqualInts_l0 (sa : List Int) : ∀ (pre sb : List Int), sb.length = sa.length → (pre ++ sa).length ≤ 1000000000000 → spec_EqualInts.l0v (pre ++ sa) (pre ++ sb) (pre.length : Int) = some (decide (sa = sb)) := by
  induction sa with
  | nil =>
    intro pre sb hr _
    rw [spec_EqualInts.l0v_eq, if_neg (nlt_end pre)]
    simp at hr
    simp [hr]
  | cons x sa ih =>
    intro pre sb hr hl
    cases sb with
    | nil => simp at hr
    | cons y sb =>
      have hn : pre.length < (pre ++ x :: sa).length := by simp
      rw [spec_EqualInts.l0v_eq, if_pos (lt_mid pre sa x), if_pos (by omega), if_pos (lt_mid pre sb y), rd_mid, rd_mid, up_mid pre x hn hl]
      by_cases hxy : x = y
      · subst hxy
        rw [if_pos rfl]
        rw [mid_snoc pre sa x] at hl ⊢
        rw [mid_snoc pre sb x]
        rw [ih (pre ++ [x]) sb (by simpa using hr) hl]
        simp
      · rw [if_neg hxy]
        simp [hxy]
theorem specEqualInts_v (a b : List Int) (hl : a.length ≤ 1000000000000) : spec_EqualInts.fv a b = some (decide (a = b)) := by
  rw [spec_EqualInts.fv_eq]
  by_cases h : a.length = b.length
  · rw [if_pos (by omega)]
    have h1 := specEqualInts_l0 a [] b h.symm (by simpa using hl)
    simpa using h1
  · rw [if_neg (by omega)]
    have : a ≠ b := fun e => h (by rw [e])
    simp [this]
end Go.Proofs.Ytchnkakjjbfklaa.Plain

/- EqualBoxes and EqualEndpoints, of the reference. Condition: at most 10 to the 12 of each. -/
set_option linter.unusedSimpArgs false
set_option linter.unusedVariables false
namespace Go.Proofs.Ytchnkakjjbfklaa.Plain
open Go.RowKit Go.Proofs.YtchnkakjjbfklaaW.PrintWords Go.Proofs.Ytchnkakjjbfklaa.Base Go.Proofs.Ytchnkakjjbfklaa.Print

theorem specEqB_v (a b : S95) (h : okB a) : spec_EqualBoxes.fv a.f0 a.f1 a.f2 a.f3 b.f0 b.f1 b.f2 b.f3 = some (eqB a b) := by
  rw [spec_EqualBoxes.fv_eq, specEqualInts_v _ _ h.1, specEqualInts_v _ _ h.2]
  simp only [Option.bind_some, eqB]
  by_cases h1 : a.f0 = b.f0 <;> by_cases h2 : a.f1 = b.f1 <;> by_cases h3 : a.f2 = b.f2 <;> cases a.f3 <;> cases b.f3 <;> simp [h1, h2, h3]
theorem specEqE_l0 (v t : List Int) (c : Int) (v' t' : List Int) (c' : Int) (hv : v.length ≤ 1000000000000) (ht : t.length ≤ 1000000000000) (sa : List S95) : ∀ (pre q sb : List S95), q.length = pre.length → sb.length = sa.length → (pre ++ sa).length ≤ 1000000000000 → (∀ x ∈ sa, okB x) →
    spec_EqualEndpoints.l0v (pre.length : Int) v t (pre ++ sa) c v' t' (q ++ sb) c' = some (eqBs sa sb && (decide (v = v') && decide (t = t'))) := by
  induction sa with
  | nil =>
    intro pre q sb _ hr _ _
    rw [spec_EqualEndpoints.l0v_eq, if_neg (nlt_end pre), specEqualInts_v v v' hv, specEqualInts_v t t' ht]
    simp at hr
    by_cases h1 : v = v' <;> by_cases h2 : t = t' <;> simp [hr, eqBs, h1, h2]
  | cons x sa ih =>
    intro pre q sb hq hr hl hs
    cases sb with
    | nil => simp at hr
    | cons y sb =>
      have hn : pre.length < (pre ++ x :: sa).length := by simp
      rw [spec_EqualEndpoints.l0v_eq, if_pos (lt_mid pre sa x), if_pos (by omega), rdBox_mid, up_mid pre x hn hl, ← hq, if_pos (lt_mid q sb y), rdBox_mid, specEqB_v x y (hs x List.mem_cons_self)]
      simp only [Option.bind_some, eqBs]
      cases eqB x y with
      | false => simp
      | true =>
        rw [if_pos rfl, mid_snoc q sb y]
        rw [mid_snoc pre sa x] at hl ⊢
        rw [ih (pre ++ [x]) (q ++ [y]) sb (by simp [hq]) (by simpa using hr) hl (fun y hy => hs y (List.mem_cons_of_mem _ hy))]
        rfl
theorem specEqE_v (v t : List Int) (p : List S95) (c : Int) (v' t' : List Int) (p' : List S95) (c' : Int) (hv : v.length ≤ 1000000000000) (ht : t.length ≤ 1000000000000) (hp : p.length ≤ 1000000000000) (hs : ∀ x ∈ p, okB x) :
    spec_EqualEndpoints.fv v t p c v' t' p' c' = some (eqE v t p c v' t' p' c') := by
  rw [spec_EqualEndpoints.fv_eq]
  simp only [spec_EqualEndpoints.j0v_eq, if_true]
  unfold eqE
  by_cases h : p.length = p'.length
  · rw [if_pos (by omega)]
    by_cases hc : c = c'
    · rw [if_neg (by simp [hc])]
      have h1 := specEqE_l0 v t c v' t' c' hv ht p [] [] p' rfl h.symm (by simpa using hp) hs
      simp only [List.nil_append, List.length_nil, Int.natCast_zero] at h1
      rw [h1]
      cases eqBs p p' <;> by_cases h1 : v = v' <;> by_cases h2 : t = t' <;> simp [h1, h2, hc]
    · rw [if_pos (by simp [hc])]
      simp [hc]
  · rw [if_neg (by omega), eqBs_len h]
    simp
end Go.Proofs.Ytchnkakjjbfklaa.Plain

/- EqualRollouts, of the program. Condition: the stages are at most 10 to the 12. -/
set_option linter.unusedSimpArgs false
set_option linter.unusedVariables false
namespace Go.Proofs.Ytchnkakjjbfklaa.Plain
open Go.RowKit Go.Proofs.YtchnkakjjbfklaaW.PrintWords Go.Proofs.Ytchnkakjjbfklaa.Base Go.Proofs.Ytchnkakjjbfklaa.Print

theorem implEqR_v (v : Int) (l : List Int) (t : Int) (f : Bool) (v' : Int) (l' : List Int) (t' : Int) (f' : Bool) (hl : l.length ≤ 1000000000000) : impl_EqualRollouts.fv v l t f v' l' t' f' = some (eqR v l t f v' l' t' f') := by
  rw [impl_EqualRollouts.fv_eq, slicesEqual_v l l' hl]
  simp only [Option.bind_some, eqR]
  by_cases h1 : v = v' <;> by_cases h2 : l = l' <;> by_cases h3 : t = t' <;> cases f <;> cases f' <;> simp [h1, h2, h3]
end Go.Proofs.Ytchnkakjjbfklaa.Plain

/- EqualWorlds, of both sides. Condition: at most 10 to the 12 of each. -/
set_option linter.unusedSimpArgs false
set_option linter.unusedVariables false
namespace Go.Proofs.Ytchnkakjjbfklaa.Plain
open Go.RowKit Go.Proofs.YtchnkakjjbfklaaW.PrintWords Go.Proofs.Ytchnkakjjbfklaa.Base Go.Proofs.Ytchnkakjjbfklaa.Print

def eqDl (a b : S55) : Bool := (a.f0.f0 == b.f0.f0) && (decide (a.f0.f1 = b.f0.f1) && (decide (a.f0.f2 = b.f0.f2) && (decide (a.f1 = b.f1) && decide (a.f2 = b.f2))))
def eqLg (a b : S57) : Bool := decide (a.f0 = b.f0) && (decide (a.f1 = b.f1) && ((a.f2 == b.f2) && eqDl a.f3 b.f3))
def eqEn (a b : S50) : Bool := eqE a.f0 a.f1 a.f2 a.f3 b.f0 b.f1 b.f2 b.f3
theorem implEqDl_v (a b : S55) (h : okD a) : impl_EqualDialed.fv a.f0.f0 a.f0.f1 a.f0.f2 a.f1 a.f2 b.f0.f0 b.f0.f1 b.f0.f2 b.f1 b.f2 = some (eqDl a b) := by
  rw [impl_EqualDialed.fv_eq, impl_EqualDeals.fv_eq, slicesEqual_v _ _ h.1, slicesEqual_v _ _ h.2]
  simp only [Option.bind_some, eqDl]
  by_cases h1 : a.f0.f1 = b.f0.f1 <;> by_cases h2 : a.f0.f2 = b.f0.f2 <;> by_cases h3 : a.f1 = b.f1 <;> by_cases h4 : a.f2 = b.f2 <;> cases a.f0.f0 <;> cases b.f0.f0 <;> simp [h1, h2, h3, h4]
theorem specEqDl_v (a b : S55) (h : okD a) : spec_EqualDialed.fv a.f0.f0 a.f0.f1 a.f0.f2 a.f1 a.f2 b.f0.f0 b.f0.f1 b.f0.f2 b.f1 b.f2 = some (eqDl a b) := by
  rw [spec_EqualDialed.fv_eq, spec_EqualDeals.fv_eq, specEqualInts_v _ _ h.1, specEqualInts_v _ _ h.2]
  simp only [Option.bind_some, eqDl]
  by_cases h1 : a.f0.f1 = b.f0.f1 <;> by_cases h2 : a.f0.f2 = b.f0.f2 <;> by_cases h3 : a.f1 = b.f1 <;> by_cases h4 : a.f2 = b.f2 <;> cases a.f0.f0 <;> cases b.f0.f0 <;> simp [h1, h2, h3, h4]
theorem implEqLg_v (a b : S57) (h : okLg a) : impl_equalLogged.fv a.f0 a.f1 a.f2 a.f3.f0.f0 a.f3.f0.f1 a.f3.f0.f2 a.f3.f1 a.f3.f2 b.f0 b.f1 b.f2 b.f3.f0.f0 b.f3.f0.f1 b.f3.f0.f2 b.f3.f1 b.f3.f2 = some (eqLg a b) := by
  rw [impl_equalLogged.fv_eq, implEqDl_v a.f3 b.f3 h]
  simp only [Option.bind_some, eqLg]
  by_cases h1 : a.f0 = b.f0 <;> by_cases h2 : a.f1 = b.f1 <;> cases a.f2 <;> cases b.f2 <;> simp [h1, h2]
theorem implEqEn_v (a b : S50) (h : okEn a) : impl_EqualEndpoints.fv a.f0 a.f1 a.f2 a.f3 b.f0 b.f1 b.f2 b.f3 = some (eqEn a b) := implEqE_v _ _ _ _ _ _ _ _ h.1 h.2.1 h.2.2.1 h.2.2.2
theorem specEqEn_v (a b : S50) (h : okEn a) : spec_EqualEndpoints.fv a.f0 a.f1 a.f2 a.f3 b.f0 b.f1 b.f2 b.f3 = some (eqEn a b) := specEqE_v _ _ _ _ _ _ _ _ h.1 h.2.1 h.2.2.1 h.2.2.2
theorem specEqR_v (v : Int) (l : List Int) (t : Int) (f : Bool) (v' : Int) (l' : List Int) (t' : Int) (f' : Bool) (hl : l.length ≤ 1000000000000) : spec_EqualRollouts.fv v l t f v' l' t' f' = some (eqR v l t f v' l' t' f') := by
  rw [spec_EqualRollouts.fv_eq, specEqualInts_v l l' hl]
  simp only [Option.bind_some, eqR]
  by_cases h1 : v = v' <;> by_cases h2 : l = l' <;> by_cases h3 : t = t' <;> cases f <;> cases f' <;> simp [h1, h2, h3]
theorem implEqEs_l0 (sa : List S50) : ∀ (pre q sb : List S50), q.length = pre.length → sb.length = sa.length → (pre ++ sa).length ≤ 1000000000000 → (∀ x ∈ sa, okEn x) →
    slices_EqualFunc_impl_Endpoint_impl_Endpoint_impl_Endpoint_impl_Endpoint_with_impl_EqualEndpoints.l0v (q ++ sb) (pre ++ sa) ((pre ++ sa).length : Int) (pre.length : Int) = some (eqG eqEn sa sb) := by
  induction sa with
  | nil =>
    intro pre q sb _ hr _ _
    rw [slices_EqualFunc_impl_Endpoint_impl_Endpoint_impl_Endpoint_impl_Endpoint_with_impl_EqualEndpoints.l0v_eq, if_neg (nlt_end pre)]
    simp at hr
    simp [hr, eqG]
  | cons x sa ih =>
    intro pre q sb hq hr hl hs
    cases sb with
    | nil => simp at hr
    | cons y sb =>
      have hn : pre.length < (pre ++ x :: sa).length := by simp
      rw [slices_EqualFunc_impl_Endpoint_impl_Endpoint_impl_Endpoint_impl_Endpoint_with_impl_EqualEndpoints.l0v_eq, if_pos (lt_mid pre sa x), if_pos (by omega), if_pos (lt_mid pre sa x), rdEnd_mid, up_mid pre x hn hl, ← hq, if_pos (lt_mid q sb y), rdEnd_mid, implEqEn_v x y (hs x List.mem_cons_self), Option.bind_some]
      simp only [eqG]
      cases eqEn x y with
      | false => simp
      | true =>
        rw [if_pos rfl, mid_snoc q sb y]
        rw [mid_snoc pre sa x] at hl ⊢
        rw [ih (pre ++ [x]) (q ++ [y]) sb (by simp [hq]) (by simpa using hr) hl (fun y hy => hs y (List.mem_cons_of_mem _ hy))]
        rfl
theorem implEqEs_v (l m : List S50) (hl : l.length ≤ 1000000000000) (hs : ∀ x ∈ l, okEn x) : slices_EqualFunc_impl_Endpoint_impl_Endpoint_impl_Endpoint_impl_Endpoint_with_impl_EqualEndpoints.fv l m = some (eqG eqEn l m) := by
  rw [slices_EqualFunc_impl_Endpoint_impl_Endpoint_impl_Endpoint_impl_Endpoint_with_impl_EqualEndpoints.fv_eq]
  by_cases h : l.length = m.length
  · rw [if_pos (by omega)]
    simpa using implEqEs_l0 l [] [] m rfl h.symm (by simpa using hl) hs
  · rw [if_neg (by omega), eqG_len _ h]
theorem implEqDs_l0 (sa : List S55) : ∀ (pre q sb : List S55), q.length = pre.length → sb.length = sa.length → (pre ++ sa).length ≤ 1000000000000 → (∀ x ∈ sa, okD x) →
    slices_EqualFunc_impl_Dialed_impl_Dialed_impl_Dialed_impl_Dialed_with_impl_EqualDialed.l0v (q ++ sb) (pre ++ sa) ((pre ++ sa).length : Int) (pre.length : Int) = some (eqG eqDl sa sb) := by
  induction sa with
  | nil =>
    intro pre q sb _ hr _ _
    rw [slices_EqualFunc_impl_Dialed_impl_Dialed_impl_Dialed_impl_Dialed_with_impl_EqualDialed.l0v_eq, if_neg (nlt_end pre)]
    simp at hr
    simp [hr, eqG]
  | cons x sa ih =>
    intro pre q sb hq hr hl hs
    cases sb with
    | nil => simp at hr
    | cons y sb =>
      have hn : pre.length < (pre ++ x :: sa).length := by simp
      rw [slices_EqualFunc_impl_Dialed_impl_Dialed_impl_Dialed_impl_Dialed_with_impl_EqualDialed.l0v_eq, if_pos (lt_mid pre sa x), if_pos (by omega), if_pos (lt_mid pre sa x), rdDial_mid, up_mid pre x hn hl, ← hq, if_pos (lt_mid q sb y), rdDial_mid, implEqDl_v x y (hs x List.mem_cons_self), Option.bind_some]
      simp only [eqG]
      cases eqDl x y with
      | false => simp
      | true =>
        rw [if_pos rfl, mid_snoc q sb y]
        rw [mid_snoc pre sa x] at hl ⊢
        rw [ih (pre ++ [x]) (q ++ [y]) sb (by simp [hq]) (by simpa using hr) hl (fun y hy => hs y (List.mem_cons_of_mem _ hy))]
        rfl
theorem implEqDs_v (l m : List S55) (hl : l.length ≤ 1000000000000) (hs : ∀ x ∈ l, okD x) : slices_EqualFunc_impl_Dialed_impl_Dialed_impl_Dialed_impl_Dialed_with_impl_EqualDialed.fv l m = some (eqG eqDl l m) := by
  rw [slices_EqualFunc_impl_Dialed_impl_Dialed_impl_Dialed_impl_Dialed_with_impl_EqualDialed.fv_eq]
  by_cases h : l.length = m.length
  · rw [if_pos (by omega)]
    simpa using implEqDs_l0 l [] [] m rfl h.symm (by simpa using hl) hs
  · rw [if_neg (by omega), eqG_len _ h]
theorem implEqLs_l0 (sa : List S57) : ∀ (pre q sb : List S57), q.length = pre.length → sb.length = sa.length → (pre ++ sa).length ≤ 1000000000000 → (∀ x ∈ sa, okLg x) →
    slices_EqualFunc_impl_Logged_impl_Logged_impl_Logged_impl_Logged_with_impl_equalLogged.l0v (q ++ sb) (pre ++ sa) ((pre ++ sa).length : Int) (pre.length : Int) = some (eqG eqLg sa sb) := by
  induction sa with
  | nil =>
    intro pre q sb _ hr _ _
    rw [slices_EqualFunc_impl_Logged_impl_Logged_impl_Logged_impl_Logged_with_impl_equalLogged.l0v_eq, if_neg (nlt_end pre)]
    simp at hr
    simp [hr, eqG]
  | cons x sa ih =>
    intro pre q sb hq hr hl hs
    cases sb with
    | nil => simp at hr
    | cons y sb =>
      have hn : pre.length < (pre ++ x :: sa).length := by simp
      rw [slices_EqualFunc_impl_Logged_impl_Logged_impl_Logged_impl_Logged_with_impl_equalLogged.l0v_eq, if_pos (lt_mid pre sa x), if_pos (by omega), if_pos (lt_mid pre sa x), rdLog_mid, up_mid pre x hn hl, ← hq, if_pos (lt_mid q sb y), rdLog_mid, implEqLg_v x y (hs x List.mem_cons_self), Option.bind_some]
      simp only [eqG]
      cases eqLg x y with
      | false => simp
      | true =>
        rw [if_pos rfl, mid_snoc q sb y]
        rw [mid_snoc pre sa x] at hl ⊢
        rw [ih (pre ++ [x]) (q ++ [y]) sb (by simp [hq]) (by simpa using hr) hl (fun y hy => hs y (List.mem_cons_of_mem _ hy))]
        rfl
theorem implEqLs_v (l m : List S57) (hl : l.length ≤ 1000000000000) (hs : ∀ x ∈ l, okLg x) : slices_EqualFunc_impl_Logged_impl_Logged_impl_Logged_impl_Logged_with_impl_equalLogged.fv l m = some (eqG eqLg l m) := by
  rw [slices_EqualFunc_impl_Logged_impl_Logged_impl_Logged_impl_Logged_with_impl_equalLogged.fv_eq]
  by_cases h : l.length = m.length
  · rw [if_pos (by omega)]
    simpa using implEqLs_l0 l [] [] m rfl h.symm (by simpa using hl) hs
  · rw [if_neg (by omega), eqG_len _ h]
/-- When two worlds are the same. -/
def eqW (s : List Int) (t : List Int) (c : Int) (E : List S50) (v : Int) (g : List Int) (a : Int) (f : Bool) (b : Int) (p : Int) (D : List S55) (L : List S57) (x : Int) (y : Int) (z : Int) (s' : List Int) (t' : List Int) (c' : Int) (E' : List S50) (v' : Int) (g' : List Int) (a' : Int) (f' : Bool) (b' : Int) (p' : Int) (D' : List S55) (L' : List S57) (x' : Int) (y' : Int) (z' : Int) : Bool :=
  decide (s = s') && (decide (t = t') && (decide (c = c') && (eqG eqEn E E' && (eqR v g a f v' g' a' f' && (decide (b = b') && (decide (p = p') && (eqG eqDl D D' && (eqG eqLg L L' && (decide (x = x') && (decide (y = y') && decide (z = z')))))))))))
theorem implEqW_v (s : List Int) (t : List Int) (c : Int) (E : List S50) (v : Int) (g : List Int) (a : Int) (f : Bool) (b : Int) (p : Int) (D : List S55) (L : List S57) (x : Int) (y : Int) (z : Int) (s' : List Int) (t' : List Int) (c' : Int) (E' : List S50) (v' : Int) (g' : List Int) (a' : Int) (f' : Bool) (b' : Int) (p' : Int) (D' : List S55) (L' : List S57) (x' : Int) (y' : Int) (z' : Int) (hs : s.length ≤ 1000000000000) (ht : t.length ≤ 1000000000000) (hE : E.length ≤ 1000000000000) (hE2 : ∀ x ∈ E, okEn x) (hg : g.length ≤ 1000000000000) (hD : D.length ≤ 1000000000000) (hD2 : ∀ x ∈ D, okD x) (hL : L.length ≤ 1000000000000) (hL2 : ∀ x ∈ L, okLg x) :
    impl_EqualWorlds.fv s t c E v g a f b p D L x y z s' t' c' E' v' g' a' f' b' p' D' L' x' y' z' = some (eqW s t c E v g a f b p D L x y z s' t' c' E' v' g' a' f' b' p' D' L' x' y' z') := by
  rw [impl_EqualWorlds.fv_eq, slicesEqual_v s s' hs, Option.bind_some, slicesEqual_v t t' ht, Option.bind_some, implEqEs_v E E' hE hE2, Option.bind_some, implEqR_v v g a f v' g' a' f' hg, Option.bind_some, implEqDs_v D D' hD hD2, Option.bind_some, implEqLs_v L L' hL hL2, Option.bind_some]
  unfold eqW
  generalize eqG eqEn E E' = b1
  generalize eqR v g a f v' g' a' f' = b2
  generalize eqG eqDl D D' = b3
  generalize eqG eqLg L L' = b4
  by_cases h1 : s = s'
  rotate_left
  · simp [h1]
  by_cases h2 : t = t'
  rotate_left
  · simp [h2]
  by_cases h3 : c = c'
  rotate_left
  · simp [h1, h2, h3]
  cases b1
  · simp [h1, h2, h3]
  cases b2
  · simp [h1, h2, h3]
  by_cases h4 : b = b'
  rotate_left
  · simp [h1, h2, h3, h4]
  by_cases h5 : p = p'
  rotate_left
  · simp [h1, h2, h3, h4, h5]
  cases b3
  · simp [h1, h2, h3, h4, h5]
  cases b4
  · simp [h1, h2, h3, h4, h5]
  by_cases h6 : x = x'
  rotate_left
  · simp [h1, h2, h3, h4, h5, h6]
  by_cases h7 : y = y'
  rotate_left
  · simp [h1, h2, h3, h4, h5, h6, h7]
  by_cases h8 : z = z' <;> simp [h1, h2, h3, h4, h5, h6, h7, h8]
theorem specEqW_l2 (s : List Int) (t : List Int) (c : Int) (E : List S50) (v : Int) (g : List Int) (a : Int) (f : Bool) (b : Int) (p : Int) (D : List S55) (x : Int) (y : Int) (z : Int) (s' : List Int) (t' : List Int) (c' : Int) (E' : List S50) (v' : Int) (g' : List Int) (a' : Int) (f' : Bool) (b' : Int) (p' : Int) (D' : List S55) (x' : Int) (y' : Int) (z' : Int) (hs' : s.length ≤ 1000000000000) (ht' : t.length ≤ 1000000000000) (hg' : g.length ≤ 1000000000000) (sa : List S57) : ∀ (pre q sb : List S57), q.length = pre.length → sb.length = sa.length → (pre ++ sa).length ≤ 1000000000000 → (∀ x ∈ pre ++ sa, okLg x) →
    spec_EqualWorlds.l2v (pre.length : Int) s t c E v g a f b p D (pre ++ sa) x y z s' t' c' E' v' g' a' f' b' p' D' (q ++ sb) x' y' z' = some (eqG eqLg sa sb && (decide (s = s') && (decide (t = t') && eqR v g a f v' g' a' f'))) := by
  induction sa with
  | nil =>
    intro pre q sb _ hr hl hs
    rw [spec_EqualWorlds.l2v_eq, if_neg (nlt_end pre)]
    simp at hr
    subst hr
    simp only [eqG, Bool.true_and]
    rw [specEqualInts_v s s' hs', Option.bind_some, specEqualInts_v t t' ht', Option.bind_some, specEqR_v v g a f v' g' a' f' hg', Option.bind_some]
    by_cases h1 : s = s' <;> by_cases h2 : t = t' <;> simp [h1, h2]
  | cons m sa ih =>
    intro pre q sb hq hr hl hs
    cases sb with
    | nil => simp at hr
    | cons n sb =>
      have hn : pre.length < (pre ++ m :: sa).length := by simp
      have h1 := ih (pre ++ [m]) (q ++ [n]) sb (by simp [hq]) (by simpa using hr) (by simpa using hl) (by simpa using hs)
      rw [← mid_snoc pre sa m, ← mid_snoc q sb n] at h1
      have lq : (pre.length : Int) < ((q ++ n :: sb).length : Int) := by rw [← hq]; exact lt_mid q sb n
      have rq : rd_T57 (q ++ n :: sb) (pre.length : Int) = n := by rw [← hq]; exact rdLog_mid q sb n
      rw [spec_EqualWorlds.l2v_eq, if_pos (lt_mid pre sa m), if_pos (by omega), if_pos lq, rdLog_mid, rq, up_mid pre m hn hl, h1]
      simp only [eqG]
      have hm := hs m (by simp)
      have hd := specEqDl_v m.f3 n.f3 hm
      rw [hd, Option.bind_some]
      unfold eqLg
      generalize eqDl m.f3 n.f3 = b1
      generalize eqG _ sa sb = b2
      by_cases h2 : m.f0 = n.f0
      rotate_left
      · rw [if_neg h2]
        simp [h2]
      by_cases h3 : m.f1 = n.f1
      rotate_left
      · rw [if_pos h2, if_neg h3]
        simp [h3]
      rw [if_pos h2, if_pos h3]
      simp only [h2, h3, decide_true, Bool.true_and]
      cases m.f2 <;> cases n.f2 <;> cases b1 <;> simp
theorem specEqW_l1 (s : List Int) (t : List Int) (c : Int) (E : List S50) (v : Int) (g : List Int) (a : Int) (f : Bool) (b : Int) (p : Int) (L : List S57) (x : Int) (y : Int) (z : Int) (s' : List Int) (t' : List Int) (c' : Int) (E' : List S50) (v' : Int) (g' : List Int) (a' : Int) (f' : Bool) (b' : Int) (p' : Int) (L' : List S57) (x' : Int) (y' : Int) (z' : Int) (hs' : s.length ≤ 1000000000000) (ht' : t.length ≤ 1000000000000) (hg' : g.length ≤ 1000000000000) (hLn : L'.length = L.length) (hL' : L.length ≤ 1000000000000) (hL2' : ∀ x ∈ L, okLg x) (sa : List S55) : ∀ (pre q sb : List S55), q.length = pre.length → sb.length = sa.length → (pre ++ sa).length ≤ 1000000000000 → (∀ x ∈ pre ++ sa, okD x) →
    spec_EqualWorlds.l1v (pre.length : Int) s t c E v g a f b p (pre ++ sa) L x y z s' t' c' E' v' g' a' f' b' p' (q ++ sb) L' x' y' z' = some (eqG eqDl sa sb && (eqG eqLg L L' && (decide (s = s') && (decide (t = t') && eqR v g a f v' g' a' f')))) := by
  induction sa with
  | nil =>
    intro pre q sb _ hr hl hs
    rw [spec_EqualWorlds.l1v_eq, if_neg (nlt_end pre)]
    simp at hr
    subst hr
    simp only [eqG, Bool.true_and]
    have h1 := specEqW_l2 s t c E v g a f b p (pre ++ []) x y z s' t' c' E' v' g' a' f' b' p' (q ++ []) x' y' z' hs' ht' hg' L [] [] L' rfl hLn (by simpa using hL') (by simpa using hL2')
    simpa using h1
  | cons m sa ih =>
    intro pre q sb hq hr hl hs
    cases sb with
    | nil => simp at hr
    | cons n sb =>
      have hn : pre.length < (pre ++ m :: sa).length := by simp
      have h1 := ih (pre ++ [m]) (q ++ [n]) sb (by simp [hq]) (by simpa using hr) (by simpa using hl) (by simpa using hs)
      rw [← mid_snoc pre sa m, ← mid_snoc q sb n] at h1
      have lq : (pre.length : Int) < ((q ++ n :: sb).length : Int) := by rw [← hq]; exact lt_mid q sb n
      have rq : rd_T55 (q ++ n :: sb) (pre.length : Int) = n := by rw [← hq]; exact rdDial_mid q sb n
      rw [spec_EqualWorlds.l1v_eq, if_pos (lt_mid pre sa m), if_pos (by omega), if_pos lq, rdDial_mid, rq, up_mid pre m hn hl, h1]
      simp only [eqG]
      have hm := hs m (by simp)
      rw [specEqDl_v m n hm, Option.bind_some]
      cases eqDl m n <;> simp
theorem specEqW_l0 (s : List Int) (t : List Int) (c : Int) (v : Int) (g : List Int) (a : Int) (f : Bool) (b : Int) (p : Int) (D : List S55) (L : List S57) (x : Int) (y : Int) (z : Int) (s' : List Int) (t' : List Int) (c' : Int) (v' : Int) (g' : List Int) (a' : Int) (f' : Bool) (b' : Int) (p' : Int) (D' : List S55) (L' : List S57) (x' : Int) (y' : Int) (z' : Int) (hs' : s.length ≤ 1000000000000) (ht' : t.length ≤ 1000000000000) (hg' : g.length ≤ 1000000000000) (hLn : L'.length = L.length) (hL' : L.length ≤ 1000000000000) (hL2' : ∀ x ∈ L, okLg x) (hDn : D'.length = D.length) (hD' : D.length ≤ 1000000000000) (hD2' : ∀ x ∈ D, okD x) (sa : List S50) : ∀ (pre q sb : List S50), q.length = pre.length → sb.length = sa.length → (pre ++ sa).length ≤ 1000000000000 → (∀ x ∈ pre ++ sa, okEn x) →
    spec_EqualWorlds.l0v (pre.length : Int) s t c (pre ++ sa) v g a f b p D L x y z s' t' c' (q ++ sb) v' g' a' f' b' p' D' L' x' y' z' = some (eqG eqEn sa sb && (eqG eqDl D D' && (eqG eqLg L L' && (decide (s = s') && (decide (t = t') && eqR v g a f v' g' a' f'))))) := by
  induction sa with
  | nil =>
    intro pre q sb _ hr hl hs
    rw [spec_EqualWorlds.l0v_eq, if_neg (nlt_end pre)]
    simp at hr
    subst hr
    simp only [eqG, Bool.true_and]
    have h1 := specEqW_l1 s t c (pre ++ []) v g a f b p L x y z s' t' c' (q ++ []) v' g' a' f' b' p' L' x' y' z' hs' ht' hg' hLn hL' hL2' D [] [] D' rfl hDn (by simpa using hD') (by simpa using hD2')
    simpa using h1
  | cons m sa ih =>
    intro pre q sb hq hr hl hs
    cases sb with
    | nil => simp at hr
    | cons n sb =>
      have hn : pre.length < (pre ++ m :: sa).length := by simp
      have h1 := ih (pre ++ [m]) (q ++ [n]) sb (by simp [hq]) (by simpa using hr) (by simpa using hl) (by simpa using hs)
      rw [← mid_snoc pre sa m, ← mid_snoc q sb n] at h1
      have lq : (pre.length : Int) < ((q ++ n :: sb).length : Int) := by rw [← hq]; exact lt_mid q sb n
      have rq : rd_T50 (q ++ n :: sb) (pre.length : Int) = n := by rw [← hq]; exact rdEnd_mid q sb n
      rw [spec_EqualWorlds.l0v_eq, if_pos (lt_mid pre sa m), if_pos (by omega), if_pos lq, rdEnd_mid, rq, up_mid pre m hn hl, h1]
      simp only [eqG]
      have hm := hs m (by simp)
      rw [specEqEn_v m n hm, Option.bind_some]
      cases eqEn m n <;> simp
theorem specEqW_v (s : List Int) (t : List Int) (c : Int) (E : List S50) (v : Int) (g : List Int) (a : Int) (f : Bool) (b : Int) (p : Int) (D : List S55) (L : List S57) (x : Int) (y : Int) (z : Int) (s' : List Int) (t' : List Int) (c' : Int) (E' : List S50) (v' : Int) (g' : List Int) (a' : Int) (f' : Bool) (b' : Int) (p' : Int) (D' : List S55) (L' : List S57) (x' : Int) (y' : Int) (z' : Int) (hs : s.length ≤ 1000000000000) (ht : t.length ≤ 1000000000000) (hE : E.length ≤ 1000000000000) (hE2 : ∀ x ∈ E, okEn x) (hg : g.length ≤ 1000000000000) (hD : D.length ≤ 1000000000000) (hD2 : ∀ x ∈ D, okD x) (hL : L.length ≤ 1000000000000) (hL2 : ∀ x ∈ L, okLg x) :
    spec_EqualWorlds.fv s t c E v g a f b p D L x y z s' t' c' E' v' g' a' f' b' p' D' L' x' y' z' = some (eqW s t c E v g a f b p D L x y z s' t' c' E' v' g' a' f' b' p' D' L' x' y' z') := by
  rw [spec_EqualWorlds.fv_eq]
  simp only [spec_EqualWorlds.j0v_eq, if_true]
  unfold eqW
  by_cases e1 : E.length = E'.length
  rotate_left
  · rw [if_neg (by omega), eqG_len _ e1]
    simp
  by_cases e2 : D.length = D'.length
  rotate_left
  · rw [if_pos (by omega), if_neg (by omega), eqG_len eqDl e2]
    simp
  by_cases e3 : L.length = L'.length
  rotate_left
  · rw [if_pos (by omega), if_pos (by omega), if_neg (by omega), eqG_len eqLg e3]
    simp
  rw [if_pos (by omega), if_pos (by omega), if_pos (by omega)]
  have h0 := specEqW_l0 s t c v g a f b p D L x y z s' t' c' v' g' a' f' b' p' D' L' x' y' z' hs ht hg e3.symm hL hL2 e2.symm hD hD2 E [] [] E' rfl e1.symm (by simpa using hE) (by simpa using hE2)
  simp only [List.nil_append, List.length_nil, Int.natCast_zero] at h0
  rw [h0]
  generalize eqG eqEn E E' = b1
  generalize eqR v g a f v' g' a' f' = b2
  generalize eqG eqDl D D' = b3
  generalize eqG eqLg L L' = b4
  by_cases h3 : c = c'
  rotate_left
  · simp [h3]
  by_cases h4 : b = b'
  rotate_left
  · simp [h3, h4]
  by_cases h5 : p = p'
  rotate_left
  · simp [h3, h4, h5]
  by_cases h6 : x = x'
  rotate_left
  · simp [h3, h4, h5, h6]
  by_cases h7 : y = y'
  rotate_left
  · simp [h3, h4, h5, h6, h7]
  by_cases h8 : z = z'
  rotate_left
  · simp [h3, h4, h5, h6, h7, h8]
  simp only [h3, h4, h5, h6, h7, h8, if_true, bne_self_eq_false, Bool.false_eq_true, if_false, decide_true, Bool.true_and, Bool.and_true]
  by_cases h1 : s = s' <;> by_cases h2 : t = t' <;> cases b1 <;> cases b2 <;> cases b3 <;> cases b4 <;> simp [h1, h2]
end Go.Proofs.Ytchnkakjjbfklaa.Plain

/- FnExactEqualWorlds: whatever the two worlds, the program's EqualWorlds and the reference's EqualWorlds return the same and leave the worlds as they were. No condition. -/
set_option linter.unusedSimpArgs false
set_option linter.unusedVariables false
namespace Go.Proofs.Ytchnkakjjbfklaa.Pure
open Go.RowKit Go.Proofs.YtchnkakjjbfklaaW.PrintWords Go.Proofs.Ytchnkakjjbfklaa.Base Go.Proofs.Ytchnkakjjbfklaa.Print Go.Proofs.Ytchnkakjjbfklaa.Plain

theorem fits {w : S29} (h : Q29 w) : fitW w.f0 w.f1 w.f3 w.f4.f1 w.f7 w.f8 := by
  obtain ⟨⟨hs, _⟩, ⟨ht, _⟩, _, ⟨he, hE⟩, ⟨_, ⟨hg, _⟩, _, _⟩, _, _, ⟨hd, hD⟩, ⟨hl, hL⟩, _, _, _⟩ := h
  refine ⟨by omega, by omega, ⟨by omega, fun q hq => ?_⟩, by omega, ⟨by omega, fun q hq => ?_⟩, by omega, fun q hq => ?_⟩
  · obtain ⟨⟨h1, _⟩, ⟨h2, _⟩, ⟨h3, h4⟩, _⟩ := hE q hq
    refine ⟨by omega, by omega, by omega, fun r hr => ?_⟩
    obtain ⟨_, ⟨h5, _⟩, ⟨h6, _⟩, _⟩ := h4 r hr
    exact ⟨by omega, by omega⟩
  · obtain ⟨⟨_, _, ⟨h5, _⟩⟩, _, ⟨h6, _⟩⟩ := hD q hq
    exact ⟨by omega, by omega⟩
  · obtain ⟨_, _, _, ⟨_, _, ⟨h5, _⟩⟩, _, ⟨h6, _⟩⟩ := hL q hq
    exact ⟨by omega, by omega⟩
theorem FnExactEqualWorlds : laws_FnExactEqualWorlds.Pure := by
  intro w u hw hu
  have hf := fits hw
  have hf' := fits hu
  obtain ⟨s, t, c, e, ⟨v, g, a, f⟩, b, p, d, l, x, y, z⟩ := w
  obtain ⟨s', t', c', e', ⟨v', g', a', f'⟩, b', p', d', l', x', y', z'⟩ := u
  simp only at hf hf'
  refine ends (g := fun k => laws_FnExactEqualWorlds.f k s t c e v g a f b p d l x y z s' t' c' e' v' g' a' f' b' p' d' l' x' y' z') ?_
  show laws_FnExactEqualWorlds.fv s t c e v g a f b p d l x y z s' t' c' e' v' g' a' f' b' p' d' l' x' y' z' = some true
  rw [laws_FnExactEqualWorlds.fv_eq, szWorld_v s t c e v g a f b p d l x y z 1048576 (by omega) (by omega) hf, Option.bind_some]
  by_cases h1 : less (szWo s t e g d l) 1048576 < 0
  · rw [if_pos h1]
  · have b1 := less_in (Int.not_lt.mp h1)
    rw [if_neg h1, szWorld_v s' t' c' e' v' g' a' f' b' p' d' l' x' y' z' _ (by omega) (by omega) hf', Option.bind_some]
    by_cases h2 : less (szWo s' t' e' g' d' l') (less (szWo s t e g d l) 1048576) < 0
    · rw [if_pos h2]
    · have o := okW_less (by omega) (Int.not_lt.mp h1)
      have o' := okW_less (by omega) (Int.not_lt.mp h2)
      have oE : ∀ q ∈ e.map toE, okEn q := fun q hm => by
        obtain ⟨r, hr, rfl⟩ := List.mem_map.1 hm
        exact okE_of (o.2.2.1.2 r hr)
      have oe : (e.map toE).length ≤ 1000000000000 := by rw [List.length_map]; exact o.2.2.1.1
      have oD : ∀ q ∈ d.map toD, okD q := fun q hm => by
        obtain ⟨r, hr, rfl⟩ := List.mem_map.1 hm
        exact o.2.2.2.2.1.2 r hr
      have od : (d.map toD).length ≤ 1000000000000 := by rw [List.length_map]; exact o.2.2.2.2.1.1
      have oL : ∀ q ∈ l.map toLg, okLg q := fun q hm => by
        obtain ⟨r, hr, rfl⟩ := List.mem_map.1 hm
        exact o.2.2.2.2.2.2 r hr
      have ol : (l.map toLg).length ≤ 1000000000000 := by rw [List.length_map]; exact o.2.2.2.2.2.1
      have q1 := specEqW_v s t c (e.map toE) v g a f b p (d.map toD) (l.map toLg) x y z s' t' c' (e'.map toE) v' g' a' f' b' p' (d'.map toD) (l'.map toLg) x' y' z' o.1 o.2.1 oe oE o.2.2.2.1 od oD ol oL
      have q2 := implEqW_v s t c (e.map toE) v g a f b p (d.map toD) (l.map toLg) x y z s' t' c' (e'.map toE) v' g' a' f' b' p' (d'.map toD) (l'.map toLg) x' y' z' o.1 o.2.1 oe oE o.2.2.2.1 od oD ol oL
      rw [if_neg h2, toWorld_v s t c e v g a f b p d l x y z o, Option.bind_some, toWorld_v s' t' c' e' v' g' a' f' b' p' d' l' x' y' z' o', Option.bind_some]
      simp only [q1, q2, Option.bind_some, eqWorld_v s t c e v g a f b p d l x y z o, eqWorld_v s' t' c' e' v' g' a' f' b' p' d' l' x' y' z' o', bne_self_eq_false, Bool.false_eq_true, if_false, if_true]
end Go.Proofs.Ytchnkakjjbfklaa.Pure
