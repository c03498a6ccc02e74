/- Dials: their sizes, copies and equality, as the law's helpers tell them. Condition: at most 10 to the 12 of each. -/
import Derived.Test.YtdoefkloanpliaaInts
import Derived.Test.YtdoefkloanpliaaSize
import Derived.Test.YtdoefkloanpliaaPrint9
import Derived.Test.YtdoefkloanpliaaLim9
import Derived.Test.YtdoefkloanpliaaLim10
set_option linter.unusedSimpArgs false
set_option linter.unusedVariables false
namespace Go.Proofs.Ytdoefkloanpliaa.Plain
open Go.RowKit Go.Proofs.YtdoefkloanpliaaW.PrintWords Go.Proofs.Ytdoefkloanpliaa.Base Go.Proofs.Ytdoefkloanpliaa.Print

theorem rdDial_mid (pre suf : List S97) (x : S97) : rd_T97 (pre ++ x :: suf) (pre.length : Int) = x := by simp [rd_T97]
theorem rdDialL_mid (pre suf : List S94) (x : S94) : rd_T94 (pre ++ x :: suf) (pre.length : Int) = x := by simp [rd_T94]
/-- The law's dial as the program's. -/
def toD (d : S94) : S97 := ⟨⟨d.f0.f0, d.f0.f1, d.f0.f2⟩, d.f1, d.f2⟩
def szD (d : S94) : Nat := d.f0.f2.length + d.f2.length
/-- Its rows are not too long. -/
def okD (d : S97) : Prop := d.f0.f2.length ≤ 1000000000000 ∧ d.f2.length ≤ 1000000000000
theorem szDialed_f (o : Bool) (v : Int) (l : List Int) (a : Int) (m : List Int) (n : Int) (h0 : 0 ≤ n) (h : n ≤ 1048576) (hl : l.length ≤ 1000000000000000000) (hm : m.length ≤ 1000000000000000000) : laws_szDialed.f o v l a m n = some (if n < ((l.length + m.length : Nat) : Int) then -1 else n - ((l.length + m.length : Nat) : Int)) := by
  unfold laws_szDialed.f laws_szDeal.f
  rw [szIntS_f l n h0 h hl]
  simp only [Option.bind_some]
  by_cases hc : n < (l.length : Int)
  · rw [if_pos hc, if_pos (by omega)]
    simp only [Option.bind_some]
    rw [if_pos (by omega), if_pos (by omega)]
  · rw [if_neg hc, if_neg (by omega)]
    simp only [Option.bind_some]
    rw [if_neg (by omega), szIntS_f m _ (by omega) (by omega) hm]
    simp only [Option.bind_some]
    by_cases hd : n - (l.length : Int) < (m.length : Int)
    · rw [if_pos hd, if_pos (by omega), if_pos (by omega)]
    · rw [if_neg hd, if_neg (by omega), if_neg (by omega)]
      congr 1
      omega
theorem szDialedS_l0 (suf : List S94) : ∀ (pre : List S94) (n : Int), (pre ++ suf).length ≤ 1000000000000 → 0 ≤ n → n ≤ 1048576 → (∀ x ∈ suf, x.f0.f2.length ≤ 1000000000000000000 ∧ x.f2.length ≤ 1000000000000000000) →
    laws_szDialedS.l0v (pre ++ suf) n (pre.length : Int) = some (sizes szD suf n) := by
  induction suf with
  | nil =>
    intro pre n _ _ _ _
    rw [laws_szDialedS.l0v_eq, if_neg (nlt_end pre)]
    rfl
  | cons x suf ih =>
    intro pre n hl h0 h1 hs
    have hn : pre.length < (pre ++ x :: suf).length := by simp
    have hx := hs x List.mem_cons_self
    rw [laws_szDialedS.l0v_eq, if_pos (lt_mid pre suf x), if_pos (by omega), rdDialL_mid, szDialed_f _ _ _ _ _ n h0 h1 hx.1 hx.2]
    simp only [Option.bind_some, sizes]
    have e : ((x.f0.f2.length + x.f2.length : Nat) : Int) = (szD x : Int) := rfl
    rw [e]
    by_cases hc : n < (szD x : Int)
    · rw [if_pos hc, if_pos (by omega), if_pos hc]
    · rw [if_neg hc, if_neg (by omega), if_neg hc, up_mid pre x hn hl]
      rw [mid_snoc pre suf x] at hl ⊢
      exact ih (pre ++ [x]) _ hl (by omega) (by omega) (fun y hy => hs y (List.mem_cons_of_mem _ hy))
theorem szDialedS_v (l : List S94) (n : Int) (h0 : 0 ≤ n) (h1 : n ≤ 1048576) (hl : l.length ≤ 100000000000000000) (hs : ∀ x ∈ l, x.f0.f2.length ≤ 1000000000000000000 ∧ x.f2.length ≤ 1000000000000000000) :
    laws_szDialedS.fv l n = some (sizeOf1 szD l n) := by
  rw [laws_szDialedS.fv_eq, w64 (by omega) (by omega)]
  unfold sizeOf1
  by_cases hc : n < (l.length : Int)
  · rw [if_pos (by omega), if_pos hc]
  · rw [if_neg (by omega), if_neg hc]
    have h := szDialedS_l0 l [] (n - (l.length : Int)) (by simp; omega) (by omega) (by omega) hs
    simpa using h
theorem toDialed_v (o : Bool) (v : Int) (l : List Int) (a : Int) (m : List Int) (hl : l.length ≤ 1000000000000) (hm : m.length ≤ 1000000000000) : laws_toDialed.fv o v l a m = some (o, v, l, a, m) := by
  rw [laws_toDialed.fv_eq, laws_toDeal.fv_eq, toIntS_v l hl, toIntS_v m hm]
  rfl
theorem toDialedS_l0 (suf : List S94) : ∀ (pre : List S94) (q rest : List S97), q.length = pre.length → rest.length = suf.length → (pre ++ suf).length ≤ 1000000000000 → (∀ x ∈ suf, okD (toD x)) → laws_toDialedS.l0v (pre ++ suf) (q ++ rest) (pre.length : Int) = some (q ++ suf.map toD) := by
  induction suf with
  | nil =>
    intro pre q rest _ hr _ _
    rw [laws_toDialedS.l0v_eq, if_neg (nlt_end pre)]
    simp at hr
    simp [hr]
  | cons x suf ih =>
    intro pre q rest hq hr hl hs
    cases rest with
    | nil => simp at hr
    | cons y rest =>
      have hn : pre.length < (pre ++ x :: suf).length := by simp
      have hx : x.f0.f2.length ≤ 1000000000000 ∧ x.f2.length ≤ 1000000000000 := hs x List.mem_cons_self
      rw [laws_toDialedS.l0v_eq, if_pos (lt_mid pre suf x), if_pos (by omega), rdDialL_mid, toDialed_v _ _ _ _ _ hx.1 hx.2]
      simp only [Option.bind_some]
      rw [up_mid pre x hn hl, ← hq, if_pos (lt_mid q rest y), set_mid]
      rw [mid_snoc pre suf x] at hl ⊢
      rw [show (⟨⟨x.f0.f0, x.f0.f1, x.f0.f2⟩, x.f1, x.f2⟩ : S97) = toD x from rfl, ih (pre ++ [x]) (q ++ [toD x]) rest (by simp [hq]) (by simpa using hr) hl (fun y hy => hs y (List.mem_cons_of_mem _ hy))]
      simp
theorem toDialedS_v (l : List S94) (hl : l.length ≤ 1000000000000) (hs : ∀ x ∈ l, okD (toD x)) : laws_toDialedS.fv l = some (l.map toD) := by
  rw [laws_toDialedS.fv_eq, if_pos (by omega), if_pos (by omega)]
  have h := toDialedS_l0 l [] [] (List.replicate ((l.length : Int) : Int).toNat z97) rfl (by simp) (by simpa using hl) hs
  simpa using h
theorem eqDialed_v (d : S97) (h : okD d) : laws_eqDialed.fv d.f0.f0 d.f0.f1 d.f0.f2 d.f1 d.f2 d.f0.f0 d.f0.f1 d.f0.f2 d.f1 d.f2 = some true := by
  rw [laws_eqDialed.fv_eq, laws_eqDeal.fv_eq, eqIntS_v _ _ h.1, eqIntS_v _ _ h.2]
  simp
theorem eqDialedS_l0 (sa : List S97) : ∀ (pre : List S97), (pre ++ sa).length ≤ 1000000000000 → (∀ x ∈ sa, okD x) → laws_eqDialedS.l0v (pre ++ sa) (pre ++ sa) (pre.length : Int) = some true := by
  induction sa with
  | nil =>
    intro pre _ _
    rw [laws_eqDialedS.l0v_eq, if_neg (nlt_end pre)]
  | cons x sa ih =>
    intro pre hl hs
    have hn : pre.length < (pre ++ x :: sa).length := by simp
    rw [laws_eqDialedS.l0v_eq, if_pos (lt_mid pre sa x), if_pos (by omega), if_pos (lt_mid pre sa x), rdDial_mid, eqDialed_v x (hs x List.mem_cons_self), up_mid pre x hn hl]
    simp only [Option.bind_some, if_true]
    rw [mid_snoc pre sa x] at hl ⊢
    exact ih (pre ++ [x]) hl (fun y hy => hs y (List.mem_cons_of_mem _ hy))
theorem eqDialedS_v (l : List S97) (hl : l.length ≤ 1000000000000) (hs : ∀ x ∈ l, okD x) : laws_eqDialedS.fv l l = some true := by
  rw [laws_eqDialedS.fv_eq, if_pos rfl]
  exact eqDialedS_l0 l [] (by simpa using hl) hs
end Go.Proofs.Ytdoefkloanpliaa.Plain
