/- Boxes: their sizes, copies and equality, as the law's helpers tell them. Condition: at most 10 to the 12 of each. -/
import Derived.Test.YtdoefkloanpliaaInts
import Derived.Test.YtdoefkloanpliaaSize
import Derived.Test.YtdoefkloanpliaaBoxEq
import Derived.Test.YtdoefkloanpliaaPrint1
import Derived.Test.YtdoefkloanpliaaLim1
import Derived.Test.YtdoefkloanpliaaLim2
set_option linter.unusedSimpArgs false
set_option linter.unusedVariables false
namespace Go.Proofs.Ytdoefkloanpliaa.Plain
open Go.RowKit Go.Proofs.YtdoefkloanpliaaW.PrintWords Go.Proofs.Ytdoefkloanpliaa.Base Go.Proofs.Ytdoefkloanpliaa.Print

theorem rdBoxL_mid (pre suf : List S64) (x : S64) : rd_T64 (pre ++ x :: suf) (pre.length : Int) = x := by simp [rd_T64]
/-- The law's box as the program's. -/
def toB (b : S64) : S67 := ⟨b.f0, b.f1, b.f2, b.f3⟩
def szB (b : S64) : Nat := b.f1.length + b.f2.length
theorem szBox_f (a : Int) (l m : List Int) (f : Bool) (n : Int) (h0 : 0 ≤ n) (h : n ≤ 1048576) (hl : l.length ≤ 1000000000000000000) (hm : m.length ≤ 1000000000000000000) : laws_szBox.f a l m f n = some (if n < ((l.length + m.length : Nat) : Int) then -1 else n - ((l.length + m.length : Nat) : Int)) := by
  unfold laws_szBox.f
  rw [szIntS_f l n h0 h hl]
  simp only [Option.bind_some]
  by_cases hc : n < (l.length : Int)
  · rw [if_pos hc, if_pos (by omega), if_pos (by omega)]
  · rw [if_neg hc, if_neg (by omega), szIntS_f m _ (by omega) (by omega) hm]
    simp only [Option.bind_some]
    by_cases hd : n - (l.length : Int) < (m.length : Int)
    · rw [if_pos hd, if_pos (by omega), if_pos (by omega)]
    · rw [if_neg hd, if_neg (by omega), if_neg (by omega)]
      congr 1
      omega
theorem szBoxS_l0 (suf : List S64) : ∀ (pre : List S64) (n : Int), (pre ++ suf).length ≤ 1000000000000 → 0 ≤ n → n ≤ 1048576 → (∀ x ∈ suf, x.f1.length ≤ 1000000000000000000 ∧ x.f2.length ≤ 1000000000000000000) →
    laws_szBoxS.l0v (pre ++ suf) n (pre.length : Int) = some (sizes szB suf n) := by
  induction suf with
  | nil =>
    intro pre n _ _ _ _
    rw [laws_szBoxS.l0v_eq, if_neg (nlt_end pre)]
    rfl
  | cons x suf ih =>
    intro pre n hl h0 h1 hs
    have hn : pre.length < (pre ++ x :: suf).length := by simp
    have hx := hs x List.mem_cons_self
    rw [laws_szBoxS.l0v_eq, if_pos (lt_mid pre suf x), if_pos (by omega), rdBoxL_mid, szBox_f _ _ _ _ n h0 h1 hx.1 hx.2]
    simp only [Option.bind_some, sizes]
    have e : ((x.f1.length + x.f2.length : Nat) : Int) = (szB x : Int) := rfl
    rw [e]
    by_cases hc : n < (szB x : Int)
    · rw [if_pos hc, if_pos (by omega), if_pos hc]
    · rw [if_neg hc, if_neg (by omega), if_neg hc, up_mid pre x hn hl]
      rw [mid_snoc pre suf x] at hl ⊢
      exact ih (pre ++ [x]) _ hl (by omega) (by omega) (fun y hy => hs y (List.mem_cons_of_mem _ hy))
theorem szBoxS_v (l : List S64) (n : Int) (h0 : 0 ≤ n) (h1 : n ≤ 1048576) (hl : l.length ≤ 100000000000000000) (hs : ∀ x ∈ l, x.f1.length ≤ 1000000000000000000 ∧ x.f2.length ≤ 1000000000000000000) :
    laws_szBoxS.fv l n = some (sizeOf1 szB l n) := by
  rw [laws_szBoxS.fv_eq, w64 (by omega) (by omega)]
  unfold sizeOf1
  by_cases hc : n < (l.length : Int)
  · rw [if_pos (by omega), if_pos hc]
  · rw [if_neg (by omega), if_neg hc]
    have h := szBoxS_l0 l [] (n - (l.length : Int)) (by simp; omega) (by omega) (by omega) hs
    simpa using h
theorem toBox_v (a : Int) (l m : List Int) (f : Bool) (hl : l.length ≤ 1000000000000) (hm : m.length ≤ 1000000000000) : laws_toBox.fv a l m f = some (a, l, m, f) := by
  rw [laws_toBox.fv_eq, toIntS_v l hl, toIntS_v m hm]
  rfl
theorem toBoxS_l0 (suf : List S64) : ∀ (pre : List S64) (q rest : List S67), q.length = pre.length → rest.length = suf.length → (pre ++ suf).length ≤ 1000000000000 → (∀ x ∈ suf, okB (toB x)) → laws_toBoxS.l0v (pre ++ suf) (q ++ rest) (pre.length : Int) = some (q ++ suf.map toB) := by
  induction suf with
  | nil =>
    intro pre q rest _ hr _ _
    rw [laws_toBoxS.l0v_eq, if_neg (nlt_end pre)]
    simp at hr
    simp [hr]
  | cons x suf ih =>
    intro pre q rest hq hr hl hs
    cases rest with
    | nil => simp at hr
    | cons y rest =>
      have hn : pre.length < (pre ++ x :: suf).length := by simp
      have hx : x.f1.length ≤ 1000000000000 ∧ x.f2.length ≤ 1000000000000 := hs x List.mem_cons_self
      rw [laws_toBoxS.l0v_eq, if_pos (lt_mid pre suf x), if_pos (by omega), rdBoxL_mid, toBox_v _ _ _ _ hx.1 hx.2]
      simp only [Option.bind_some]
      rw [up_mid pre x hn hl, ← hq, if_pos (lt_mid q rest y), set_mid]
      rw [mid_snoc pre suf x] at hl ⊢
      rw [show (⟨x.f0, x.f1, x.f2, x.f3⟩ : S67) = toB x from rfl, ih (pre ++ [x]) (q ++ [toB x]) rest (by simp [hq]) (by simpa using hr) hl (fun y hy => hs y (List.mem_cons_of_mem _ hy))]
      simp
theorem toBoxS_v (l : List S64) (hl : l.length ≤ 1000000000000) (hs : ∀ x ∈ l, okB (toB x)) : laws_toBoxS.fv l = some (l.map toB) := by
  rw [laws_toBoxS.fv_eq, if_pos (by omega), if_pos (by omega)]
  have h := toBoxS_l0 l [] [] (List.replicate ((l.length : Int) : Int).toNat z67) rfl (by simp) (by simpa using hl) hs
  simpa using h
theorem eqBox_v (b : S67) (h : okB b) : laws_eqBox.fv b.f0 b.f1 b.f2 b.f3 b.f0 b.f1 b.f2 b.f3 = some true := by
  rw [laws_eqBox.fv_eq, if_pos rfl, eqIntS_v _ _ h.1, eqIntS_v _ _ h.2]
  simp
theorem eqBoxS_l0 (sa : List S67) : ∀ (pre : List S67), (pre ++ sa).length ≤ 1000000000000 → (∀ x ∈ sa, okB x) → laws_eqBoxS.l0v (pre ++ sa) (pre ++ sa) (pre.length : Int) = some true := by
  induction sa with
  | nil =>
    intro pre _ _
    rw [laws_eqBoxS.l0v_eq, if_neg (nlt_end pre)]
  | cons x sa ih =>
    intro pre hl hs
    have hn : pre.length < (pre ++ x :: sa).length := by simp
    rw [laws_eqBoxS.l0v_eq, if_pos (lt_mid pre sa x), if_pos (by omega), if_pos (lt_mid pre sa x), rdBox_mid, eqBox_v x (hs x List.mem_cons_self), up_mid pre x hn hl]
    simp only [Option.bind_some, if_true]
    rw [mid_snoc pre sa x] at hl ⊢
    exact ih (pre ++ [x]) hl (fun y hy => hs y (List.mem_cons_of_mem _ hy))
theorem eqBoxS_v (l : List S67) (hl : l.length ≤ 1000000000000) (hs : ∀ x ∈ l, okB x) : laws_eqBoxS.fv l l = some true := by
  rw [laws_eqBoxS.fv_eq, if_pos rfl]
  exact eqBoxS_l0 l [] (by simpa using hl) hs
end Go.Proofs.Ytdoefkloanpliaa.Plain
