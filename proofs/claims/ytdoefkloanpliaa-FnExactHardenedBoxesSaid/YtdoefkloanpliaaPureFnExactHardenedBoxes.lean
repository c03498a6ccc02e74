/- FnExactHardenedBoxes: whatever the path, the program's HardenedBoxes and the reference's HardenedBoxes return the same, leave the path as it was, and the result shares no memory. No condition. -/
import Derived.Test.YtdoefkloanpliaaWWords
import Derived.Test.YtdoefkloanpliaaPrint0
import Derived.Test.YtdoefkloanpliaaPrint4
import Derived.Test.YtdoefkloanpliaaPrint1
import Derived.Test.YtdoefkloanpliaaPrint5
import Derived.Test.YtdoefkloanpliaaPrint6
import Derived.Test.YtdoefkloanpliaaPrint7
import Derived.Test.YtdoefkloanpliaaPrint9
import Derived.Test.YtdoefkloanpliaaPrint8
import Derived.Test.YtdoefkloanpliaaPrint2
import Derived.Test.YtdoefkloanpliaaPrint3
import Derived.Test.YtdoefkloanpliaaPrint10
import Derived.Test.YtdoefkloanpliaaPrint11
/- What a function with rounds comes to when it has rounds enough, as an option: its equations hold without rounds. No condition. -/
namespace Go.Proofs.Ytdoefkloanpliaa.Base
open Go.RowKit Go.Proofs.YtdoefkloanpliaaW.PrintWords

/-- More rounds tell the same. -/
def Mo {α : Type} (g : Nat → Option α) : Prop := ∀ k, LeO (g k) (g (k + 1))
theorem mo_le {α : Type} {g : Nat → Option α} (h : Mo g) {k k' : Nat} (hk : k ≤ k') {r : α} (hr : g k = some r) : g k' = some r := at_rounds h hk hr
open Classical in
/-- What it comes to at last: nothing, or one answer. -/
noncomputable def Lim {α : Type} (g : Nat → Option α) : Option α := if h : ∃ r, ∃ k, g k = some r then some (Classical.choose h) else none
theorem lim_some {α : Type} {g : Nat → Option α} (h : Mo g) {k : Nat} {r : α} (hr : g k = some r) : Lim g = some r := by
  have hx : ∃ r, ∃ k, g k = some r := ⟨r, k, hr⟩
  unfold Lim
  rw [dif_pos hx]
  obtain ⟨k', hk'⟩ := Classical.choose_spec hx
  have h1 := mo_le h (Nat.le_max_left k k') hr
  have h2 := mo_le h (Nat.le_max_right k k') hk'
  rw [h1] at h2
  exact h2.symm
theorem of_lim {α : Type} {g : Nat → Option α} {r : α} (h : Lim g = some r) : ∃ k, g k = some r := by
  unfold Lim at h
  split at h
  · rename_i hx
    obtain rfl := Option.some.inj h
    exact Classical.choose_spec hx
  · cases h
theorem lim_none {α : Type} {g : Nat → Option α} (h : Lim g = none) (k : Nat) : g k = none := by
  cases hk : g k with
  | none => rfl
  | some r =>
    unfold Lim at h
    rw [dif_pos ⟨r, k, hk⟩] at h
    cases h
theorem none_lim {α : Type} {g : Nat → Option α} (h : ∀ k, g k = none) : Lim g = none := by
  unfold Lim
  rw [dif_neg]
  rintro ⟨r, k, hk⟩
  rw [h k] at hk
  cases hk
structure Is {α : Type} (g : Nat → Option α) (v : Option α) : Prop where
  mo : Mo g
  lim : Lim g = v
theorem Is.now {α : Type} (v : Option α) : Is (fun _ => v) v := by
  refine ⟨fun _ => LeO.refl _, ?_⟩
  cases v with
  | none => exact none_lim fun _ => rfl
  | some r => exact lim_some (g := fun _ => some r) (fun _ => LeO.refl _) (k := 0) rfl
theorem Is.ite {α : Type} {c : Prop} [Decidable c] {g h : Nat → Option α} {a b : Option α} (hg : Is g a) (hh : Is h b) : Is (fun k => if c then g k else h k) (if c then a else b) := by
  by_cases hc : c
  · simp only [if_pos hc]
    exact hg
  · simp only [if_neg hc]
    exact hh
theorem Is.bind {α β : Type} {g : Nat → Option α} {f : Nat → α → Option β} {a : Option α} {b : α → Option β} (hg : Is g a) (hf : ∀ x, Is (fun k => f k x) (b x)) : Is (fun k => (g k).bind (f k)) (a.bind b) := by
  have hm : Mo (fun k => (g k).bind (f k)) := fun k => LeO.bind (hg.mo k) (fun x => (hf x).mo k)
  refine ⟨hm, ?_⟩
  cases ha : a with
  | none =>
    refine none_lim fun k => ?_
    rw [lim_none (hg.lim.trans ha) k]
    rfl
  | some x =>
    obtain ⟨k, hk⟩ := of_lim (hg.lim.trans ha)
    show _ = b x
    cases hb : b x with
    | none =>
      refine none_lim fun k' => ?_
      cases hx : (g k').bind (f k') with
      | none => rfl
      | some r =>
        have h1 := mo_le hm (Nat.le_max_left k' k) hx
        have h2 := mo_le hg.mo (Nat.le_max_right k' k) hk
        simp only [h2, Option.bind_some] at h1
        rw [lim_none ((hf x).lim.trans hb)] at h1
        cases h1
    | some r =>
      obtain ⟨k', hk'⟩ := of_lim ((hf x).lim.trans hb)
      refine lim_some hm (k := max k k') ?_
      simp only [mo_le hg.mo (Nat.le_max_left k k') hk, Option.bind_some]
      exact mo_le (hf x).mo (Nat.le_max_right k k') hk'
theorem Is.step {α : Type} {g b : Nat → Option α} {v : Option α} (hg : Mo g) (h : ∀ k, g (k + 1) = b k) (hb : Is b v) : Lim g = v := by
  rw [← hb.lim]
  cases hx : Lim g with
  | none =>
    symm
    refine none_lim fun k => ?_
    rw [← h k]
    exact lim_none hx _
  | some r =>
    obtain ⟨k, hk⟩ := of_lim hx
    symm
    refine lim_some hb.mo (k := k) ?_
    rw [← h k]
    exact mo_le hg (Nat.le_succ k) hk
theorem ends {α : Type} {g : Nat → Option α} {r : α} (h : Lim g = some r) : ∃ k, g k = some r := of_lim h
end Go.Proofs.Ytdoefkloanpliaa.Base

/- Lists read by a whole number's index, and whole numbers that fit. No condition. -/
set_option linter.unusedSimpArgs false
set_option linter.unusedVariables false
namespace Go.Proofs.Ytdoefkloanpliaa.Plain
open Go.RowKit Go.Proofs.YtdoefkloanpliaaW.PrintWords

theorem w64 {x : Int} (h0 : -9223372036854775808 ≤ x) (h1 : x ≤ 9223372036854775807) : wrap64 x = x := by
  unfold wrap64
  omega
theorem rd_mid (pre suf : List Int) (x : Int) : rd (pre ++ x :: suf) (pre.length : Int) = x := by simp [rd]
theorem lt_mid {α : Type} (pre suf : List α) (x : α) : (pre.length : Int) < ((pre ++ x :: suf).length : Int) := by
  simp
  omega
theorem nlt_end {α : Type} (pre : List α) : ¬ (pre.length : Int) < ((pre ++ []).length : Int) := by simp
theorem up_mid {α : Type} (pre : List α) (x : α) {n : Nat} (h : pre.length < n) (hn : n ≤ 1000000000000) : wrap64 ((pre.length : Int) + 1) = ((pre ++ [x]).length : Int) := by
  rw [w64 (by omega) (by omega)]
  simp
theorem set_mid {α : Type} (pre suf : List α) (x y : α) : (pre ++ x :: suf).set (pre.length : Int).toNat y = (pre ++ [y]) ++ suf := by
  rw [Int.toNat_natCast, List.set_append_right _ _ (Nat.le_refl _), Nat.sub_self]
  simp
theorem mid_snoc {α : Type} (pre suf : List α) (x : α) : pre ++ x :: suf = (pre ++ [x]) ++ suf := by simp
theorem beq_ints (a b : List Int) : (a == b) = decide (a = b) := by
  by_cases h : a = b <;> simp [h]
end Go.Proofs.Ytdoefkloanpliaa.Plain

/- When two boxes, and two paths, are the same. No program. No condition. -/
set_option linter.unusedSimpArgs false
set_option linter.unusedVariables false
namespace Go.Proofs.Ytdoefkloanpliaa.Plain
open Go.RowKit Go.Proofs.YtdoefkloanpliaaW.PrintWords Go.Proofs.Ytdoefkloanpliaa.Base Go.Proofs.Ytdoefkloanpliaa.Print

theorem rdBox_mid (pre suf : List S67) (x : S67) : rd_T67 (pre ++ x :: suf) (pre.length : Int) = x := by simp [rd_T67]
/-- Its rows are not too long. -/
def okB (b : S67) : Prop := b.f1.length ≤ 1000000000000 ∧ b.f2.length ≤ 1000000000000
def eqB (a b : S67) : Bool := decide (a.f0 = b.f0) && (decide (a.f1 = b.f1) && (decide (a.f2 = b.f2) && (a.f3 == b.f3)))
def eqBs : List S67 → List S67 → Bool
  | [], [] => true
  | a :: l, b :: m => eqB a b && eqBs l m
  | _, _ => false
theorem eqBs_len {l m : List S67} : l.length ≠ m.length → eqBs l m = false := by
  induction l generalizing m with
  | nil =>
    intro h
    cases m with
    | nil => exact absurd rfl h
    | cons b m => rfl
  | cons a l ih =>
    intro h
    cases m with
    | nil => rfl
    | cons b m =>
      simp only [eqBs]
      rw [ih (by simpa using h), Bool.and_false]
end Go.Proofs.Ytdoefkloanpliaa.Plain

/- Ranges, of the program and of the reference. No condition. -/
set_option linter.unusedSimpArgs false
set_option linter.unusedVariables false
namespace Go.Proofs.Ytdoefkloanpliaa.Plain
open Go.RowKit Go.Proofs.YtdoefkloanpliaaW.PrintWords Go.Proofs.Ytdoefkloanpliaa.Base Go.Proofs.Ytdoefkloanpliaa.Print

/-- lo ≤ n ≤ hi -/
def inR (lo hi n : Int) : Bool := decide (lo ≤ n) && decide (n ≤ hi)
theorem inR_true {lo hi n : Int} : inR lo hi n = true ↔ lo ≤ n ∧ n ≤ hi := by simp [inR]
theorem inR_false {lo hi n : Int} : inR lo hi n = false ↔ n < lo ∨ hi < n := by
  simp only [inR, Bool.and_eq_false_iff, decide_eq_false_iff_not]
  omega
theorem inRange_f (n lo hi : Int) : impl_InRange.f n lo hi = some (inR lo hi n) := by
  unfold impl_InRange.f inR
  by_cases h : lo ≤ n <;> simp [h]
theorem l1In_f (n lo hi : Int) : spec_l1In.f n lo hi = some (inR lo hi n) := by
  unfold spec_l1In.f inR
  by_cases h : lo ≤ n <;> simp [h]

end Go.Proofs.Ytdoefkloanpliaa.Plain

/- Lists of versions: ascending, from 1 to 9; membership; what two lists share. No program. No condition. -/
set_option linter.unusedSimpArgs false
set_option linter.unusedVariables false
namespace Go.Proofs.Ytdoefkloanpliaa.Plain
open Go.RowKit Go.Proofs.YtdoefkloanpliaaW.PrintWords Go.Proofs.Ytdoefkloanpliaa.Base Go.Proofs.Ytdoefkloanpliaa.Print

/-- Versions that grow, all above p. -/
def vers : Int → List Int → Bool
  | _, [] => true
  | p, x :: l => inR 1 9 x && (decide (p < x) && vers x l)
/-- A list of versions, and not empty. -/
def areV (l : List Int) : Bool := vers 0 l && decide (0 < l.length)
/-- Is x in the list? -/
def mem (l : List Int) (x : Int) : Bool := decide (x ∈ l)
/-- What two lists share. -/
def com (a b : List Int) : List Int := a.filter (mem b)
/-- The best version that two lists share. -/
def best (a b : List Int) : Int := if areV a && areV b then (com a b).getLastD 0 else 0
theorem mem_cons (x y : Int) (l : List Int) : mem (y :: l) x = (decide (y = x) || mem l x) := by
  by_cases h : y = x
  · simp [mem, h]
  · have h' : ¬ x = y := fun e => h e.symm
    simp [mem, h, h']
theorem mem_nil (x : Int) : mem [] x = false := by simp [mem]
theorem vers_le {p q : Int} {l : List Int} (h : vers p l = true) (hq : q ≤ p) : vers q l = true := by
  cases l with
  | nil => rfl
  | cons x l =>
    simp only [vers, Bool.and_eq_true, decide_eq_true_eq] at h ⊢
    exact ⟨h.1, by omega, h.2.2⟩
theorem vers_filter (f : Int → Bool) {l : List Int} : ∀ {p : Int}, vers p l = true → vers p (l.filter f) = true := by
  induction l with
  | nil =>
    intro p h
    rfl
  | cons x l ih =>
    intro p h
    simp only [vers, Bool.and_eq_true, decide_eq_true_eq] at h
    cases hf : f x with
    | true =>
      rw [List.filter_cons_of_pos hf]
      simp only [vers, Bool.and_eq_true, decide_eq_true_eq]
      exact ⟨h.1, h.2.1, ih h.2.2⟩
    | false =>
      rw [List.filter_cons_of_neg (by simp [hf])]
      exact vers_le (ih h.2.2) (by omega)
theorem vers_len {l : List Int} : ∀ {p : Int}, vers p l = true → p ≤ 9 → (l.length : Int) ≤ 9 - p := by
  induction l with
  | nil =>
    intro p _ hp
    simp
    omega
  | cons x l ih =>
    intro p h hp
    simp only [vers, Bool.and_eq_true, decide_eq_true_eq, inR_true] at h
    have := ih h.2.2 (by omega)
    simp only [List.length_cons]
    omega
theorem areV_len {l : List Int} (h : areV l = true) : l.length ≤ 9 := by
  simp only [areV, Bool.and_eq_true] at h
  have := vers_len h.1 (by omega)
  omega
theorem vers_mem {l : List Int} : ∀ {p : Int}, vers p l = true → ∀ x ∈ l, 1 ≤ x ∧ x ≤ 9 ∧ p < x := by
  induction l with
  | nil =>
    intro p _ x hx
    cases hx
  | cons y l ih =>
    intro p h x hx
    simp only [vers, Bool.and_eq_true, decide_eq_true_eq, inR_true] at h
    cases hx with
    | head => omega
    | tail _ hx =>
      have := ih h.2.2 x hx
      omega
theorem areV_mem {l : List Int} (h : areV l = true) : ∀ x ∈ l, 1 ≤ x ∧ x ≤ 9 := by
  simp only [areV, Bool.and_eq_true] at h
  intro x hx
  have := vers_mem h.1 x hx
  omega
theorem com_len (a b : List Int) : (com a b).length ≤ a.length := List.length_filter_le _ _
theorem lastD_cons (x : Int) (l : List Int) (d : Int) : (x :: l).getLastD d = l.getLastD x := by
  cases l <;> rfl
theorem rd_lastD (pre suf : List Int) (h : pre ≠ []) : rd (pre ++ suf) ((pre.length : Int) - 1) = pre.getLastD 0 := by
  have hl : 0 < pre.length := List.length_pos_iff.mpr h
  have e : ((pre.length : Int) - 1).toNat = pre.length - 1 := by omega
  have h1 : pre.length - 1 < pre.length := by omega
  simp [rd, e, List.getD_eq_getElem?_getD, List.getElem?_append_left h1, List.getLastD_eq_getLast?, List.getLast?_eq_getElem?]
theorem lastD_mem (l : List Int) (h : l ≠ []) (d : Int) : l.getLastD d ∈ l := by
  cases l with
  | nil => exact absurd rfl h
  | cons x l => exact List.getLast_mem _
end Go.Proofs.Ytdoefkloanpliaa.Plain

/- When a box, a list of tags and an endpoint are in form. No program. No condition. -/
set_option linter.unusedSimpArgs false
set_option linter.unusedVariables false
namespace Go.Proofs.Ytdoefkloanpliaa.Plain
open Go.RowKit Go.Proofs.YtdoefkloanpliaaW.PrintWords Go.Proofs.Ytdoefkloanpliaa.Base Go.Proofs.Ytdoefkloanpliaa.Print

def isB (b : S67) : Bool := inR 0 9 b.f0 && (decide (b.f1.length ≤ 6) && (decide (b.f2.length ≤ 6) && (b.f1.all (inR 0 255) && b.f2.all (inR 0 255))))
/-- Is a tag one of those that mean nothing? -/
def res (x : Int) : Bool := inR 0 255 x && (Int.tmod x 16 == 10)
/-- Is x above the one before it? -/
def above : Option Int → Int → Bool
  | none, _ => true
  | some p, x => decide (p < x)
def asc : Option Int → List Int → Bool
  | _, [] => true
  | o, x :: l => above o x && asc (some x) l
/-- The same with all that the reference asks of a tag. -/
def tagsS : Option Int → List Int → Bool
  | _, [] => true
  | o, x :: l => inR 0 255 x && (!res x && (above o x && tagsS (some x) l))
theorem tagsS_eq (l : List Int) : ∀ o, tagsS o l = ((asc o l && l.all (inR 0 255)) && !(l.any res)) := by
  induction l with
  | nil =>
    intro o
    rfl
  | cons x l ih =>
    intro o
    simp only [tagsS, asc, List.all_cons, List.any_cons, ih]
    cases inR 0 255 x <;> cases res x <;> cases above o x <;> cases asc (some x) l <;> cases l.all (inR 0 255) <;> cases l.any res <;> rfl
/-- Is an endpoint in form? -/
def isE (v t : List Int) (p : List S67) (c : Int) : Bool :=
  areV v && (decide (t.length ≤ 5) && ((asc none t && t.all (inR 0 255)) && (!(t.any res) && (decide (p.length ≤ 4) && (p.all isB && inR 0 5 c)))))
theorem lastO (pre suf : List Int) (h : pre ≠ []) : pre.getLast? = some (rd (pre ++ suf) ((pre.length : Int) - 1)) := by
  rw [rd_lastD pre suf h, List.getLast?_eq_some_getLast h]
  cases pre with
  | nil => exact absurd rfl h
  | cons x l => rfl
end Go.Proofs.Ytdoefkloanpliaa.Plain

/- Extensions and hellos in form, and what a box does to a hello. No program. No condition. -/
set_option linter.unusedSimpArgs false
set_option linter.unusedVariables false
namespace Go.Proofs.Ytdoefkloanpliaa.Plain
open Go.RowKit Go.Proofs.YtdoefkloanpliaaW.PrintWords Go.Proofs.Ytdoefkloanpliaa.Base Go.Proofs.Ytdoefkloanpliaa.Print

theorem rdExt_mid (pre suf : List S114) (x : S114) : rd_T114 (pre ++ x :: suf) (pre.length : Int) = x := by simp [rd_T114]
def hasT (l : List S114) (t : Int) : Bool := l.any (fun y => decide (y.f0 = t))
/-- Are these extensions in form, behind others? -/
def areX : List S114 → List S114 → Bool
  | _, [] => true
  | pre, x :: l => inR 0 255 x.f0 && (!hasT pre x.f0 && (decide (x.f1.length ≤ 4) && (x.f1.all (inR 0 255) && areX (pre ++ [x]) l)))
def isX (l : List S114) : Bool := areX [] l && decide (l.length ≤ 6)
def isH (v : List Int) (l : List S114) : Bool := areV v && isX l
/-- Its bodies are not too long. -/
def okXs (l : List S114) : Prop := ∀ x ∈ l, x.f1.length ≤ 1000000000000
/-- Does a box drop what has this tag? -/
def drops (b : S67) (t : Int) : Bool := mem b.f1 t || (b.f3 && (!mem b.f2 t && !inR 1 3 t))
/-- Does a box lose a hello? -/
def lose (b : S67) (v : List Int) (l : List S114) : Bool := (!decide (b.f0 = 0) && decide (v.getLastD 0 > b.f0)) || l.any (fun x => drops b x.f0)
/-- What a box leaves of the extensions. -/
def kept (b : S67) (l : List S114) : List S114 := l.filter (fun x => !mem b.f2 x.f0)
def pass (b : S67) (v : List Int) (l : List S114) : List Int × List S114 × Bool :=
  if isB b && (isH v l && !lose b v l) then (v, kept b l, true) else ([], [], false)
theorem areX_body {l : List S114} : ∀ {pre}, areX pre l = true → ∀ x ∈ l, x.f1.length ≤ 4 := by
  induction l with
  | nil =>
    intro pre _ x hx
    cases hx
  | cons y l ih =>
    intro pre h x hx
    simp only [areX, Bool.and_eq_true, decide_eq_true_eq] at h
    cases hx with
    | head => exact h.2.2.1
    | tail _ hx => exact ih h.2.2.2.2 x hx
end Go.Proofs.Ytdoefkloanpliaa.Plain

/- The tags that mean nothing, and when a box refuses one of them. No program. No condition. -/
set_option linter.unusedSimpArgs false
set_option linter.unusedVariables false
namespace Go.Proofs.Ytdoefkloanpliaa.Plain
open Go.RowKit Go.Proofs.YtdoefkloanpliaaW.PrintWords Go.Proofs.Ytdoefkloanpliaa.Base Go.Proofs.Ytdoefkloanpliaa.Print

/-- So many of the tags that mean nothing, from the n-th on. -/
def greases (n : Nat) : Nat → List Int
  | 0 => []
  | m + 1 => (10 + 16 * (n : Int)) :: greases (n + 1) m
def one (t : Int) : S114 := ⟨t, []⟩
/-- Does a box refuse a hello with this tag alone? -/
def refuse (b : S67) (t : Int) : Bool := !(pass b [1] [one t]).2.2 || decide ((pass b [1] [one t]).2.1.length = 0)
def refuses (b : S67) : Bool := isB b && (greases 0 16).any (refuse b)
end Go.Proofs.Ytdoefkloanpliaa.Plain

/- The places of the boxes that refuse what means nothing. No program. No condition. -/
set_option linter.unusedSimpArgs false
set_option linter.unusedVariables false
namespace Go.Proofs.Ytdoefkloanpliaa.Plain
open Go.RowKit Go.Proofs.YtdoefkloanpliaaW.PrintWords Go.Proofs.Ytdoefkloanpliaa.Base Go.Proofs.Ytdoefkloanpliaa.Print

/-- The places of the boxes that refuse, from n on. -/
def hards : Int → List S67 → List Int
  | _, [] => []
  | n, b :: p => if refuses b then n :: hards (n + 1) p else hards (n + 1) p
theorem hards_in (p : List S67) : ∀ n : Nat, (∀ i ∈ hards (n : Int) p, ∃ j : Nat, i = ((n + j : Nat) : Int) ∧ ∃ b, p[j]? = some b ∧ refuses b = true) ∧ ((hards (n : Int) p).length > 0 ↔ ∃ b ∈ p, refuses b = true) ∧ (hards (n : Int) p).length ≤ p.length := by
  induction p with
  | nil =>
    intro n
    simp [hards]
  | cons b p ih =>
    intro n
    obtain ⟨h1, h2, h3⟩ := ih (n + 1)
    have e : ((n + 1 : Nat) : Int) = (n : Int) + 1 := by omega
    rw [e] at h1 h2 h3
    simp only [hards]
    have up : ∀ i ∈ hards ((n : Int) + 1) p, ∃ j : Nat, i = ((n + j : Nat) : Int) ∧ ∃ c, (b :: p)[j]? = some c ∧ refuses c = true := by
      intro i hi
      obtain ⟨j, hj, c, hc, hr⟩ := h1 i hi
      exact ⟨j + 1, by omega, c, by simpa using hc, hr⟩
    cases hb : refuses b with
    | true =>
      rw [if_pos rfl]
      refine ⟨fun i hi => ?_, ⟨fun _ => ⟨b, List.mem_cons_self, hb⟩, fun _ => by simp⟩, by simp only [List.length_cons]; omega⟩
      cases hi with
      | head => exact ⟨0, by simp, b, rfl, hb⟩
      | tail _ hi => exact up i hi
    | false =>
      rw [if_neg (by simp)]
      refine ⟨up, ?_, by simp only [List.length_cons]; omega⟩
      rw [h2]
      constructor
      · rintro ⟨c, hc, hr⟩
        exact ⟨c, List.mem_cons_of_mem _ hc, hr⟩
      · rintro ⟨c, hc, hr⟩
        cases hc with
        | head =>
          rw [hb] at hr
          cases hr
        | tail _ hc => exact ⟨c, hc, hr⟩
end Go.Proofs.Ytdoefkloanpliaa.Plain

/- Written by a program of this session (limx.py): the equations of what the printed functions come to. No condition. -/
namespace Go.Proofs.Ytdoefkloanpliaa.Print
open Go.RowKit Go.Proofs.YtdoefkloanpliaaW.PrintWords Go.Proofs.YtdoefkloanpliaaW.PrintLast Go.Proofs.Ytdoefkloanpliaa.Base
set_option linter.unusedVariables false
set_option maxRecDepth 20000
noncomputable def slices_IndexFunc_int_int_with_impl_areNumbers_1.l0v (x0 : List Int) (x7 : Int) (x8 : Int) (x2000 : Int) (x3000 : Int) : Option (Int) := Lim fun k => slices_IndexFunc_int_int_with_impl_areNumbers_1.l0 k x0 x7 x8 x2000 x3000
noncomputable def slices_IndexFunc_int_int_with_impl_areNumbers_1.fv (l0 : List Int) (a1_0 : Int) (a2_0 : Int) : Option (Int) := Lim fun k => slices_IndexFunc_int_int_with_impl_areNumbers_1.f k l0 a1_0 a2_0
theorem slices_IndexFunc_int_int_with_impl_areNumbers_1.l0_is (x0 : List Int) (x7 : Int) (x8 : Int) (x2000 : Int) (x3000 : Int) : Is (fun k => slices_IndexFunc_int_int_with_impl_areNumbers_1.l0 k x0 x7 x8 x2000 x3000) (slices_IndexFunc_int_int_with_impl_areNumbers_1.l0v x0 x7 x8 x2000 x3000) := ⟨fun k => (slices_IndexFunc_int_int_with_impl_areNumbers_1.mono_l k) x0 x7 x8 x2000 x3000, rfl⟩
theorem slices_IndexFunc_int_int_with_impl_areNumbers_1.f_is (l0 : List Int) (a1_0 : Int) (a2_0 : Int) : Is (fun k => slices_IndexFunc_int_int_with_impl_areNumbers_1.f k l0 a1_0 a2_0) (slices_IndexFunc_int_int_with_impl_areNumbers_1.fv l0 a1_0 a2_0) := ⟨fun k => slices_IndexFunc_int_int_with_impl_areNumbers_1.mono l0 a1_0 a2_0 k, rfl⟩
theorem slices_IndexFunc_int_int_with_impl_areNumbers_1.l0v_eq (x0 : List Int) (x7 : Int) (x8 : Int) (x2000 : Int) (x3000 : Int) : slices_IndexFunc_int_int_with_impl_areNumbers_1.l0v x0 x7 x8 x2000 x3000 = if x8 < x7 then (if 0 ≤ x8 then (if x8 < (x0.length : Int) then ((impl_areNumbers_1.f (rd x0 x8) x2000 x3000).bind fun t229 => (if t229 = true then (some x8) else (slices_IndexFunc_int_int_with_impl_areNumbers_1.l0v x0 x7 (wrap64 (x8 + 1)) x2000 x3000))) else (none)) else (none)) else (some (-1)) := by
  refine Is.step (slices_IndexFunc_int_int_with_impl_areNumbers_1.l0_is x0 x7 x8 x2000 x3000).mo (fun k => by rw [slices_IndexFunc_int_int_with_impl_areNumbers_1.l0]) ?_
  · skip
    repeat' first
    | with_reducible exact slices_IndexFunc_int_int_with_impl_areNumbers_1.l0_is _ _ _ _ _
    | with_reducible exact Is.now _
    | with_reducible refine Is.ite ?_ ?_
    | with_reducible refine Is.bind ?_ (fun _ => ?_)
theorem slices_IndexFunc_int_int_with_impl_areNumbers_1.fv_eq (l0 : List Int) (a1_0 : Int) (a2_0 : Int) : slices_IndexFunc_int_int_with_impl_areNumbers_1.fv l0 a1_0 a2_0 = slices_IndexFunc_int_int_with_impl_areNumbers_1.l0v l0 (l0.length : Int) 0 a1_0 a2_0 := by
  refine Is.lim (g := fun k => slices_IndexFunc_int_int_with_impl_areNumbers_1.f k l0 a1_0 a2_0) ?_
  · unfold slices_IndexFunc_int_int_with_impl_areNumbers_1.f
    repeat' first
    | with_reducible exact slices_IndexFunc_int_int_with_impl_areNumbers_1.l0_is _ _ _ _ _
    | with_reducible exact Is.now _
    | with_reducible refine Is.ite ?_ ?_
    | with_reducible refine Is.bind ?_ (fun _ => ?_)
noncomputable def slices_ContainsFunc_int_int_with_impl_areNumbers_1.fv (l0 : List Int) (a1_0 : Int) (a2_0 : Int) : Option (Bool) := Lim fun k => slices_ContainsFunc_int_int_with_impl_areNumbers_1.f k l0 a1_0 a2_0
theorem slices_ContainsFunc_int_int_with_impl_areNumbers_1.f_is (l0 : List Int) (a1_0 : Int) (a2_0 : Int) : Is (fun k => slices_ContainsFunc_int_int_with_impl_areNumbers_1.f k l0 a1_0 a2_0) (slices_ContainsFunc_int_int_with_impl_areNumbers_1.fv l0 a1_0 a2_0) := ⟨fun k => slices_ContainsFunc_int_int_with_impl_areNumbers_1.mono l0 a1_0 a2_0 k, rfl⟩
theorem slices_ContainsFunc_int_int_with_impl_areNumbers_1.fv_eq (l0 : List Int) (a1_0 : Int) (a2_0 : Int) : slices_ContainsFunc_int_int_with_impl_areNumbers_1.fv l0 a1_0 a2_0 = (slices_IndexFunc_int_int_with_impl_areNumbers_1.fv l0 a1_0 a2_0).bind fun t230 => (some (decide (t230 ≥ 0))) := by
  refine Is.lim (g := fun k => slices_ContainsFunc_int_int_with_impl_areNumbers_1.f k l0 a1_0 a2_0) ?_
  · unfold slices_ContainsFunc_int_int_with_impl_areNumbers_1.f
    repeat' first
    | with_reducible exact slices_IndexFunc_int_int_with_impl_areNumbers_1.f_is _ _ _
    | with_reducible exact Is.now _
    | with_reducible refine Is.ite ?_ ?_
    | with_reducible refine Is.bind ?_ (fun _ => ?_)
noncomputable def impl_areNumbers.fv (l0 : List Int) (a1 : Int) (a2 : Int) : Option (Bool) := Lim fun k => impl_areNumbers.f k l0 a1 a2
theorem impl_areNumbers.f_is (l0 : List Int) (a1 : Int) (a2 : Int) : Is (fun k => impl_areNumbers.f k l0 a1 a2) (impl_areNumbers.fv l0 a1 a2) := ⟨fun k => impl_areNumbers.mono l0 a1 a2 k, rfl⟩
theorem impl_areNumbers.fv_eq (l0 : List Int) (a1 : Int) (a2 : Int) : impl_areNumbers.fv l0 a1 a2 = (slices_ContainsFunc_int_int_with_impl_areNumbers_1.fv l0 a1 a2).bind fun t233 => (some (!t233)) := by
  refine Is.lim (g := fun k => impl_areNumbers.f k l0 a1 a2) ?_
  · unfold impl_areNumbers.f
    repeat' first
    | with_reducible exact slices_ContainsFunc_int_int_with_impl_areNumbers_1.f_is _ _ _
    | with_reducible exact Is.now _
    | with_reducible refine Is.ite ?_ ?_
    | with_reducible refine Is.bind ?_ (fun _ => ?_)
noncomputable def impl_IsBox.fv (a0_0 : Int) (l0_1 : List Int) (l0_2 : List Int) (a0_3 : Bool) : Option (Bool) := Lim fun k => impl_IsBox.f k a0_0 l0_1 l0_2 a0_3
theorem impl_IsBox.f_is (a0_0 : Int) (l0_1 : List Int) (l0_2 : List Int) (a0_3 : Bool) : Is (fun k => impl_IsBox.f k a0_0 l0_1 l0_2 a0_3) (impl_IsBox.fv a0_0 l0_1 l0_2 a0_3) := ⟨fun k => impl_IsBox.mono a0_0 l0_1 l0_2 a0_3 k, rfl⟩
theorem impl_IsBox.fv_eq (a0_0 : Int) (l0_1 : List Int) (l0_2 : List Int) (a0_3 : Bool) : impl_IsBox.fv a0_0 l0_1 l0_2 a0_3 = (impl_InRange.f a0_0 0 9).bind fun t235 => (if t235 = true then (if (l0_1.length : Int) ≤ 6 then (if (l0_2.length : Int) ≤ 6 then ((impl_areNumbers.fv l0_1 0 255).bind fun t236 => (if t236 = true then ((impl_areNumbers.fv l0_2 0 255).bind fun t237 => (some t237)) else (some false))) else (some false)) else (some false)) else (some false)) := by
  refine Is.lim (g := fun k => impl_IsBox.f k a0_0 l0_1 l0_2 a0_3) ?_
  · unfold impl_IsBox.f
    repeat' first
    | with_reducible exact impl_areNumbers.f_is _ _ _
    | with_reducible exact Is.now _
    | with_reducible refine Is.ite ?_ ?_
    | with_reducible refine Is.bind ?_ (fun _ => ?_)
noncomputable def impl_reservedTags.l0v (x1 : List Int) (x2 : Int) : Option (List Int) := Lim fun k => impl_reservedTags.l0 k x1 x2
noncomputable def impl_reservedTags.fv : Option (List Int) := Lim fun k => impl_reservedTags.f k
theorem impl_reservedTags.l0_is (x1 : List Int) (x2 : Int) : Is (fun k => impl_reservedTags.l0 k x1 x2) (impl_reservedTags.l0v x1 x2) := ⟨fun k => (impl_reservedTags.mono_l k) x1 x2, rfl⟩
theorem impl_reservedTags.f_is : Is (fun k => impl_reservedTags.f k) (impl_reservedTags.fv) := ⟨fun k => impl_reservedTags.mono k, rfl⟩
theorem impl_reservedTags.l0v_eq (x1 : List Int) (x2 : Int) : impl_reservedTags.l0v x1 x2 = if x2 < 256 then (if x1.length < 17592186044416 then (impl_reservedTags.l0v (x1 ++ [x2]) (wrap64 (x2 + 16))) else (none)) else (some x1) := by
  refine Is.step (impl_reservedTags.l0_is x1 x2).mo (fun k => by rw [impl_reservedTags.l0]) ?_
  · skip
    repeat' first
    | with_reducible exact impl_reservedTags.l0_is _ _
    | with_reducible exact Is.now _
    | with_reducible refine Is.ite ?_ ?_
    | with_reducible refine Is.bind ?_ (fun _ => ?_)
theorem impl_reservedTags.fv_eq : impl_reservedTags.fv = impl_reservedTags.l0v (([] : List Int)) 10 := by
  refine Is.lim (g := fun k => impl_reservedTags.f k) ?_
  · unfold impl_reservedTags.f
    repeat' first
    | with_reducible exact impl_reservedTags.l0_is _ _
    | with_reducible exact Is.now _
    | with_reducible refine Is.ite ?_ ?_
    | with_reducible refine Is.bind ?_ (fun _ => ?_)
noncomputable def impl_AreVersions.l0v (x0 : List Int) (x5 : List Int) (x6 : Int) (x7 : Int) : Option (Bool) := Lim fun k => impl_AreVersions.l0 k x0 x5 x6 x7
noncomputable def impl_AreVersions.fv (l0 : List Int) : Option (Bool) := Lim fun k => impl_AreVersions.f k l0
theorem impl_AreVersions.l0_is (x0 : List Int) (x5 : List Int) (x6 : Int) (x7 : Int) : Is (fun k => impl_AreVersions.l0 k x0 x5 x6 x7) (impl_AreVersions.l0v x0 x5 x6 x7) := ⟨fun k => (impl_AreVersions.mono_l k) x0 x5 x6 x7, rfl⟩
theorem impl_AreVersions.f_is (l0 : List Int) : Is (fun k => impl_AreVersions.f k l0) (impl_AreVersions.fv l0) := ⟨fun k => impl_AreVersions.mono l0 k, rfl⟩
theorem impl_AreVersions.l0v_eq (x0 : List Int) (x5 : List Int) (x6 : Int) (x7 : Int) : impl_AreVersions.l0v x0 x5 x6 x7 = if x7 < x6 then (if 0 ≤ x7 then (if x7 < (x5.length : Int) then ((impl_InRange.f (rd x5 x7) 1 9).bind fun t245 => (if t245 = true then (if x7 > 0 then (if 0 ≤ (wrap64 (x7 - 1)) then (if (wrap64 (x7 - 1)) < (x0.length : Int) then (if (rd x0 (wrap64 (x7 - 1))) ≥ (rd x5 x7) then (some false) else (impl_AreVersions.l0v x0 x5 x6 (wrap64 (x7 + 1)))) else (none)) else (none)) else (impl_AreVersions.l0v x0 x5 x6 (wrap64 (x7 + 1)))) else (some false))) else (none)) else (none)) else (some (decide ((x0.length : Int) > 0))) := by
  refine Is.step (impl_AreVersions.l0_is x0 x5 x6 x7).mo (fun k => by rw [impl_AreVersions.l0]) ?_
  · skip
    repeat' first
    | with_reducible exact impl_AreVersions.l0_is _ _ _ _
    | with_reducible exact Is.now _
    | with_reducible refine Is.ite ?_ ?_
    | with_reducible refine Is.bind ?_ (fun _ => ?_)
theorem impl_AreVersions.fv_eq (l0 : List Int) : impl_AreVersions.fv l0 = impl_AreVersions.l0v l0 l0 (l0.length : Int) 0 := by
  refine Is.lim (g := fun k => impl_AreVersions.f k l0) ?_
  · unfold impl_AreVersions.f
    repeat' first
    | with_reducible exact impl_AreVersions.l0_is _ _ _ _
    | with_reducible exact Is.now _
    | with_reducible refine Is.ite ?_ ?_
    | with_reducible refine Is.bind ?_ (fun _ => ?_)
noncomputable def slices_IndexFunc_impl_Ext_impl_Ext_with_impl_ExtOf_1.l0v (x0 : List (S114)) (x7 : Int) (x8 : Int) (x2000 : Int) : Option (Int) := Lim fun k => slices_IndexFunc_impl_Ext_impl_Ext_with_impl_ExtOf_1.l0 k x0 x7 x8 x2000
noncomputable def slices_IndexFunc_impl_Ext_impl_Ext_with_impl_ExtOf_1.fv (l0 : List (S114)) (a1_0 : Int) : Option (Int) := Lim fun k => slices_IndexFunc_impl_Ext_impl_Ext_with_impl_ExtOf_1.f k l0 a1_0
theorem slices_IndexFunc_impl_Ext_impl_Ext_with_impl_ExtOf_1.l0_is (x0 : List (S114)) (x7 : Int) (x8 : Int) (x2000 : Int) : Is (fun k => slices_IndexFunc_impl_Ext_impl_Ext_with_impl_ExtOf_1.l0 k x0 x7 x8 x2000) (slices_IndexFunc_impl_Ext_impl_Ext_with_impl_ExtOf_1.l0v x0 x7 x8 x2000) := ⟨fun k => (slices_IndexFunc_impl_Ext_impl_Ext_with_impl_ExtOf_1.mono_l k) x0 x7 x8 x2000, rfl⟩
theorem slices_IndexFunc_impl_Ext_impl_Ext_with_impl_ExtOf_1.f_is (l0 : List (S114)) (a1_0 : Int) : Is (fun k => slices_IndexFunc_impl_Ext_impl_Ext_with_impl_ExtOf_1.f k l0 a1_0) (slices_IndexFunc_impl_Ext_impl_Ext_with_impl_ExtOf_1.fv l0 a1_0) := ⟨fun k => slices_IndexFunc_impl_Ext_impl_Ext_with_impl_ExtOf_1.mono l0 a1_0 k, rfl⟩
theorem slices_IndexFunc_impl_Ext_impl_Ext_with_impl_ExtOf_1.l0v_eq (x0 : List (S114)) (x7 : Int) (x8 : Int) (x2000 : Int) : slices_IndexFunc_impl_Ext_impl_Ext_with_impl_ExtOf_1.l0v x0 x7 x8 x2000 = if x8 < x7 then (if 0 ≤ x8 then (if x8 < (x0.length : Int) then ((impl_ExtOf_1.f ((rd_T114 x0 x8).f0) ((rd_T114 x0 x8).f1) x2000).bind fun t249 => (if t249 = true then (some x8) else (slices_IndexFunc_impl_Ext_impl_Ext_with_impl_ExtOf_1.l0v x0 x7 (wrap64 (x8 + 1)) x2000))) else (none)) else (none)) else (some (-1)) := by
  refine Is.step (slices_IndexFunc_impl_Ext_impl_Ext_with_impl_ExtOf_1.l0_is x0 x7 x8 x2000).mo (fun k => by rw [slices_IndexFunc_impl_Ext_impl_Ext_with_impl_ExtOf_1.l0]) ?_
  · skip
    repeat' first
    | with_reducible exact slices_IndexFunc_impl_Ext_impl_Ext_with_impl_ExtOf_1.l0_is _ _ _ _
    | with_reducible exact Is.now _
    | with_reducible refine Is.ite ?_ ?_
    | with_reducible refine Is.bind ?_ (fun _ => ?_)
theorem slices_IndexFunc_impl_Ext_impl_Ext_with_impl_ExtOf_1.fv_eq (l0 : List (S114)) (a1_0 : Int) : slices_IndexFunc_impl_Ext_impl_Ext_with_impl_ExtOf_1.fv l0 a1_0 = slices_IndexFunc_impl_Ext_impl_Ext_with_impl_ExtOf_1.l0v l0 (l0.length : Int) 0 a1_0 := by
  refine Is.lim (g := fun k => slices_IndexFunc_impl_Ext_impl_Ext_with_impl_ExtOf_1.f k l0 a1_0) ?_
  · unfold slices_IndexFunc_impl_Ext_impl_Ext_with_impl_ExtOf_1.f
    repeat' first
    | with_reducible exact slices_IndexFunc_impl_Ext_impl_Ext_with_impl_ExtOf_1.l0_is _ _ _ _
    | with_reducible exact Is.now _
    | with_reducible refine Is.ite ?_ ?_
    | with_reducible refine Is.bind ?_ (fun _ => ?_)
noncomputable def impl_ExtOf.fv (l0 : List (S114)) (a1 : Int) : Option (Int) := Lim fun k => impl_ExtOf.f k l0 a1
theorem impl_ExtOf.f_is (l0 : List (S114)) (a1 : Int) : Is (fun k => impl_ExtOf.f k l0 a1) (impl_ExtOf.fv l0 a1) := ⟨fun k => impl_ExtOf.mono l0 a1 k, rfl⟩
theorem impl_ExtOf.fv_eq (l0 : List (S114)) (a1 : Int) : impl_ExtOf.fv l0 a1 = (slices_IndexFunc_impl_Ext_impl_Ext_with_impl_ExtOf_1.fv l0 a1).bind fun t251 => (some t251) := by
  refine Is.lim (g := fun k => impl_ExtOf.f k l0 a1) ?_
  · unfold impl_ExtOf.f
    repeat' first
    | with_reducible exact slices_IndexFunc_impl_Ext_impl_Ext_with_impl_ExtOf_1.f_is _ _
    | with_reducible exact Is.now _
    | with_reducible refine Is.ite ?_ ?_
    | with_reducible refine Is.bind ?_ (fun _ => ?_)
end Go.Proofs.Ytdoefkloanpliaa.Print

/- AreVersions, of the program. Condition: at most 10 to the 12 numbers. -/
set_option linter.unusedSimpArgs false
set_option linter.unusedVariables false
namespace Go.Proofs.Ytdoefkloanpliaa.Plain
open Go.RowKit Go.Proofs.YtdoefkloanpliaaW.PrintWords Go.Proofs.Ytdoefkloanpliaa.Base Go.Proofs.Ytdoefkloanpliaa.Print

theorem implVers_l0 (suf : List Int) : ∀ pre : List Int, (pre ++ suf).length ≤ 1000000000000 →
    impl_AreVersions.l0v (pre ++ suf) (pre ++ suf) ((pre ++ suf).length : Int) (pre.length : Int) = some (vers (pre.getLastD 0) suf && decide (0 < (pre ++ suf).length)) := by
  induction suf with
  | nil =>
    intro pre hl
    rw [impl_AreVersions.l0v_eq, if_neg (nlt_end pre)]
    by_cases h : 0 < pre.length <;> simp [vers, h]
  | cons x suf ih =>
    intro pre hl
    have hn : pre.length < (pre ++ x :: suf).length := by simp
    rw [impl_AreVersions.l0v_eq, if_pos (lt_mid pre suf x), if_pos (by omega), if_pos (lt_mid pre suf x), rd_mid, inRange_f]
    simp only [Option.bind_some, vers]
    cases hx : inR 1 9 x with
    | false => simp
    | true =>
      rw [if_pos rfl, up_mid pre x hn hl]
      have h1 := ih (pre ++ [x]) (by simpa using hl)
      rw [← mid_snoc pre suf x] at h1
      rw [h1]
      have hr := inR_true.mp hx
      by_cases hp : pre = []
      · subst hp
        rw [if_neg (by simp)]
        have h0 : (0 : Int) < x := by omega
        simp [h0]
      · have hpl : 0 < pre.length := List.length_pos_iff.mpr hp
        rw [if_pos (by omega), w64 (x := (pre.length : Int) - 1) (by omega) (by omega), if_pos (by omega), if_pos (by omega), rd_lastD pre _ hp]
        by_cases hlt : pre.getLastD 0 < x
        · rw [if_neg (by omega)]
          generalize pre.getLastD 0 = q at hlt
          simp [hlt]
        · rw [if_pos (by omega)]
          generalize pre.getLastD 0 = q at hlt
          simp [hlt]
theorem implVers_v (l : List Int) (hl : l.length ≤ 1000000000000) : impl_AreVersions.fv l = some (areV l) := by
  rw [impl_AreVersions.fv_eq]
  simpa [areV] using implVers_l0 l [] (by simpa using hl)
end Go.Proofs.Ytdoefkloanpliaa.Plain

/- Lists of numbers in a range. Condition: the slice has at most 10 to the 12 numbers. -/
set_option linter.unusedSimpArgs false
set_option linter.unusedVariables false
namespace Go.Proofs.Ytdoefkloanpliaa.Plain
open Go.RowKit Go.Proofs.YtdoefkloanpliaaW.PrintWords Go.Proofs.Ytdoefkloanpliaa.Base Go.Proofs.Ytdoefkloanpliaa.Print

theorem areNumbers_l0 (lo hi : Int) (suf : List Int) : ∀ (pre : List Int), (pre ++ suf).length ≤ 1000000000000 →
    ∃ r, slices_IndexFunc_int_int_with_impl_areNumbers_1.l0v (pre ++ suf) ((pre ++ suf).length : Int) (pre.length : Int) lo hi = some r ∧ decide (r ≥ 0) = !(suf.all (inR lo hi)) := by
  induction suf with
  | nil =>
    intro pre _
    refine ⟨-1, ?_, by simp⟩
    rw [slices_IndexFunc_int_int_with_impl_areNumbers_1.l0v_eq, if_neg (nlt_end pre)]
  | cons x suf ih =>
    intro pre hl
    have hn : pre.length < (pre ++ x :: suf).length := by simp
    rw [slices_IndexFunc_int_int_with_impl_areNumbers_1.l0v_eq, if_pos (lt_mid pre suf x), if_pos (by omega), if_pos (lt_mid pre suf x), rd_mid]
    unfold impl_areNumbers_1.f
    rw [inRange_f]
    simp only [Option.bind_some]
    cases hx : inR lo hi x with
    | false =>
      refine ⟨(pre.length : Int), by simp, ?_⟩
      simp [hx]
    | true =>
      rw [up_mid pre x hn hl]
      simp only [Bool.not_true, Bool.false_eq_true, if_false]
      rw [mid_snoc pre suf x] at hl ⊢
      obtain ⟨r, h1, h2⟩ := ih (pre ++ [x]) hl
      exact ⟨r, h1, by rw [h2]; simp [hx]⟩

theorem areNumbers_v (l : List Int) (lo hi : Int) (hl : l.length ≤ 1000000000000) : impl_areNumbers.fv l lo hi = some (l.all (inR lo hi)) := by
  obtain ⟨r, h1, h2⟩ := areNumbers_l0 lo hi l [] (by simpa using hl)
  rw [impl_areNumbers.fv_eq, slices_ContainsFunc_int_int_with_impl_areNumbers_1.fv_eq, slices_IndexFunc_int_int_with_impl_areNumbers_1.fv_eq]
  simp only [List.nil_append, List.length_nil, Int.natCast_zero] at h1
  rw [h1]
  simp [h2]
end Go.Proofs.Ytdoefkloanpliaa.Plain

/- Written by a program of this session (limx.py): the equations of what the printed functions come to. No condition. -/
namespace Go.Proofs.Ytdoefkloanpliaa.Print
open Go.RowKit Go.Proofs.YtdoefkloanpliaaW.PrintWords Go.Proofs.YtdoefkloanpliaaW.PrintLast Go.Proofs.Ytdoefkloanpliaa.Base
set_option linter.unusedVariables false
set_option maxRecDepth 20000
noncomputable def impl_AreExts.l0v (x0 : List (S114)) (x5 : List (S114)) (x6 : Int) (x7 : Int) : Option (Bool) := Lim fun k => impl_AreExts.l0 k x0 x5 x6 x7
noncomputable def impl_AreExts.fv (l0 : List (S114)) : Option (Bool) := Lim fun k => impl_AreExts.f k l0
theorem impl_AreExts.l0_is (x0 : List (S114)) (x5 : List (S114)) (x6 : Int) (x7 : Int) : Is (fun k => impl_AreExts.l0 k x0 x5 x6 x7) (impl_AreExts.l0v x0 x5 x6 x7) := ⟨fun k => (impl_AreExts.mono_l k) x0 x5 x6 x7, rfl⟩
theorem impl_AreExts.f_is (l0 : List (S114)) : Is (fun k => impl_AreExts.f k l0) (impl_AreExts.fv l0) := ⟨fun k => impl_AreExts.mono l0 k, rfl⟩
theorem impl_AreExts.l0v_eq (x0 : List (S114)) (x5 : List (S114)) (x6 : Int) (x7 : Int) : impl_AreExts.l0v x0 x5 x6 x7 = if x7 < x6 then (if 0 ≤ x7 then (if x7 < (x5.length : Int) then ((impl_InRange.f ((rd_T114 x5 x7).f0) 0 255).bind fun t254 => (if t254 = true then (if x7 ≤ (x0.length : Int) then ((impl_ExtOf.fv (x0.take (x7 : Int).toNat) ((rd_T114 x5 x7).f0)).bind fun t259 => (if t259 ≥ 0 then (some false) else (if (((rd_T114 x5 x7).f1).length : Int) > 4 then (some false) else ((impl_areNumbers.fv ((rd_T114 x5 x7).f1) 0 255).bind fun t260 => (if t260 = true then (impl_AreExts.l0v x0 x5 x6 (wrap64 (x7 + 1))) else (some false)))))) else (none)) else (some false))) else (none)) else (none)) else (some (decide ((x0.length : Int) ≤ 6))) := by
  refine Is.step (impl_AreExts.l0_is x0 x5 x6 x7).mo (fun k => by rw [impl_AreExts.l0]) ?_
  · skip
    repeat' first
    | with_reducible exact impl_AreExts.l0_is _ _ _ _
    | with_reducible exact impl_ExtOf.f_is _ _
    | with_reducible exact impl_areNumbers.f_is _ _ _
    | with_reducible exact Is.now _
    | with_reducible refine Is.ite ?_ ?_
    | with_reducible refine Is.bind ?_ (fun _ => ?_)
theorem impl_AreExts.fv_eq (l0 : List (S114)) : impl_AreExts.fv l0 = impl_AreExts.l0v l0 l0 (l0.length : Int) 0 := by
  refine Is.lim (g := fun k => impl_AreExts.f k l0) ?_
  · unfold impl_AreExts.f
    repeat' first
    | with_reducible exact impl_AreExts.l0_is _ _ _ _
    | with_reducible exact Is.now _
    | with_reducible refine Is.ite ?_ ?_
    | with_reducible refine Is.bind ?_ (fun _ => ?_)
end Go.Proofs.Ytdoefkloanpliaa.Print

/- Written by a program of this session (limx.py): the equations of what the printed functions come to. No condition. -/
namespace Go.Proofs.Ytdoefkloanpliaa.Print
open Go.RowKit Go.Proofs.YtdoefkloanpliaaW.PrintWords Go.Proofs.YtdoefkloanpliaaW.PrintLast Go.Proofs.Ytdoefkloanpliaa.Base
set_option linter.unusedVariables false
set_option maxRecDepth 20000
noncomputable def impl_IsHello.fv (l0_0 : List Int) (l0_1 : List (S114)) : Option (Bool) := Lim fun k => impl_IsHello.f k l0_0 l0_1
theorem impl_IsHello.f_is (l0_0 : List Int) (l0_1 : List (S114)) : Is (fun k => impl_IsHello.f k l0_0 l0_1) (impl_IsHello.fv l0_0 l0_1) := ⟨fun k => impl_IsHello.mono l0_0 l0_1 k, rfl⟩
theorem impl_IsHello.fv_eq (l0_0 : List Int) (l0_1 : List (S114)) : impl_IsHello.fv l0_0 l0_1 = (impl_AreVersions.fv l0_0).bind fun t262 => (if t262 = true then ((impl_AreExts.fv l0_1).bind fun t263 => (some t263)) else (some false)) := by
  refine Is.lim (g := fun k => impl_IsHello.f k l0_0 l0_1) ?_
  · unfold impl_IsHello.f
    repeat' first
    | with_reducible exact impl_AreExts.f_is _
    | with_reducible exact impl_AreVersions.f_is _
    | with_reducible exact Is.now _
    | with_reducible refine Is.ite ?_ ?_
    | with_reducible refine Is.bind ?_ (fun _ => ?_)
noncomputable def slices_Max_int_int.l0v (x0 : List Int) (x3 : Int) (x4 : Int) : Option (Int) := Lim fun k => slices_Max_int_int.l0 k x0 x3 x4
noncomputable def slices_Max_int_int.fv (l0 : List Int) : Option (Int) := Lim fun k => slices_Max_int_int.f k l0
theorem slices_Max_int_int.l0_is (x0 : List Int) (x3 : Int) (x4 : Int) : Is (fun k => slices_Max_int_int.l0 k x0 x3 x4) (slices_Max_int_int.l0v x0 x3 x4) := ⟨fun k => (slices_Max_int_int.mono_l k) x0 x3 x4, rfl⟩
theorem slices_Max_int_int.f_is (l0 : List Int) : Is (fun k => slices_Max_int_int.f k l0) (slices_Max_int_int.fv l0) := ⟨fun k => slices_Max_int_int.mono l0 k, rfl⟩
theorem slices_Max_int_int.l0v_eq (x0 : List Int) (x3 : Int) (x4 : Int) : slices_Max_int_int.l0v x0 x3 x4 = if x4 < (x0.length : Int) then (if 0 ≤ x4 then (slices_Max_int_int.l0v x0 (mx x3 (rd x0 x4)) (wrap64 (x4 + 1))) else (none)) else (some x3) := by
  refine Is.step (slices_Max_int_int.l0_is x0 x3 x4).mo (fun k => by rw [slices_Max_int_int.l0]) ?_
  · skip
    repeat' first
    | with_reducible exact slices_Max_int_int.l0_is _ _ _
    | with_reducible exact Is.now _
    | with_reducible refine Is.ite ?_ ?_
    | with_reducible refine Is.bind ?_ (fun _ => ?_)
theorem slices_Max_int_int.fv_eq (l0 : List Int) : slices_Max_int_int.fv l0 = if (l0.length : Int) < 1 then (none) else (if 0 < (l0.length : Int) then (slices_Max_int_int.l0v l0 (rd l0 0) 1) else (none)) := by
  refine Is.lim (g := fun k => slices_Max_int_int.f k l0) ?_
  · unfold slices_Max_int_int.f
    repeat' first
    | with_reducible exact slices_Max_int_int.l0_is _ _ _
    | with_reducible exact Is.now _
    | with_reducible refine Is.ite ?_ ?_
    | with_reducible refine Is.bind ?_ (fun _ => ?_)
noncomputable def slices_Index_int_int.l0v (x0 : List Int) (x1 : Int) (x7 : Int) (x8 : Int) : Option (Int) := Lim fun k => slices_Index_int_int.l0 k x0 x1 x7 x8
noncomputable def slices_Index_int_int.fv (l0 : List Int) (a1 : Int) : Option (Int) := Lim fun k => slices_Index_int_int.f k l0 a1
theorem slices_Index_int_int.l0_is (x0 : List Int) (x1 : Int) (x7 : Int) (x8 : Int) : Is (fun k => slices_Index_int_int.l0 k x0 x1 x7 x8) (slices_Index_int_int.l0v x0 x1 x7 x8) := ⟨fun k => (slices_Index_int_int.mono_l k) x0 x1 x7 x8, rfl⟩
theorem slices_Index_int_int.f_is (l0 : List Int) (a1 : Int) : Is (fun k => slices_Index_int_int.f k l0 a1) (slices_Index_int_int.fv l0 a1) := ⟨fun k => slices_Index_int_int.mono l0 a1 k, rfl⟩
theorem slices_Index_int_int.l0v_eq (x0 : List Int) (x1 : Int) (x7 : Int) (x8 : Int) : slices_Index_int_int.l0v x0 x1 x7 x8 = if x8 < x7 then (if 0 ≤ x8 then (if x8 < (x0.length : Int) then (if x1 = (rd x0 x8) then (some x8) else (slices_Index_int_int.l0v x0 x1 x7 (wrap64 (x8 + 1)))) else (none)) else (none)) else (some (-1)) := by
  refine Is.step (slices_Index_int_int.l0_is x0 x1 x7 x8).mo (fun k => by rw [slices_Index_int_int.l0]) ?_
  · skip
    repeat' first
    | with_reducible exact slices_Index_int_int.l0_is _ _ _ _
    | with_reducible exact Is.now _
    | with_reducible refine Is.ite ?_ ?_
    | with_reducible refine Is.bind ?_ (fun _ => ?_)
theorem slices_Index_int_int.fv_eq (l0 : List Int) (a1 : Int) : slices_Index_int_int.fv l0 a1 = slices_Index_int_int.l0v l0 a1 (l0.length : Int) 0 := by
  refine Is.lim (g := fun k => slices_Index_int_int.f k l0 a1) ?_
  · unfold slices_Index_int_int.f
    repeat' first
    | with_reducible exact slices_Index_int_int.l0_is _ _ _ _
    | with_reducible exact Is.now _
    | with_reducible refine Is.ite ?_ ?_
    | with_reducible refine Is.bind ?_ (fun _ => ?_)
noncomputable def slices_Contains_int_int.fv (l0 : List Int) (a1 : Int) : Option (Bool) := Lim fun k => slices_Contains_int_int.f k l0 a1
theorem slices_Contains_int_int.f_is (l0 : List Int) (a1 : Int) : Is (fun k => slices_Contains_int_int.f k l0 a1) (slices_Contains_int_int.fv l0 a1) := ⟨fun k => slices_Contains_int_int.mono l0 a1 k, rfl⟩
theorem slices_Contains_int_int.fv_eq (l0 : List Int) (a1 : Int) : slices_Contains_int_int.fv l0 a1 = (slices_Index_int_int.fv l0 a1).bind fun t267 => (some (decide (t267 ≥ 0))) := by
  refine Is.lim (g := fun k => slices_Contains_int_int.f k l0 a1) ?_
  · unfold slices_Contains_int_int.f
    repeat' first
    | with_reducible exact slices_Index_int_int.f_is _ _
    | with_reducible exact Is.now _
    | with_reducible refine Is.ite ?_ ?_
    | with_reducible refine Is.bind ?_ (fun _ => ?_)
noncomputable def impl_loses_1.fv (a0_0 : Int) (l0_1 : List Int) (a1_0 : Int) (l1_1 : List Int) (l1_2 : List Int) (a1_3 : Bool) : Option (Bool) := Lim fun k => impl_loses_1.f k a0_0 l0_1 a1_0 l1_1 l1_2 a1_3
theorem impl_loses_1.f_is (a0_0 : Int) (l0_1 : List Int) (a1_0 : Int) (l1_1 : List Int) (l1_2 : List Int) (a1_3 : Bool) : Is (fun k => impl_loses_1.f k a0_0 l0_1 a1_0 l1_1 l1_2 a1_3) (impl_loses_1.fv a0_0 l0_1 a1_0 l1_1 l1_2 a1_3) := ⟨fun k => impl_loses_1.mono a0_0 l0_1 a1_0 l1_1 l1_2 a1_3 k, rfl⟩
theorem impl_loses_1.fv_eq (a0_0 : Int) (l0_1 : List Int) (a1_0 : Int) (l1_1 : List Int) (l1_2 : List Int) (a1_3 : Bool) : impl_loses_1.fv a0_0 l0_1 a1_0 l1_1 l1_2 a1_3 = (slices_Contains_int_int.fv l1_1 a0_0).bind fun t269 => (if t269 = true then (some true) else (if a1_3 = true then ((slices_Contains_int_int.fv l1_2 a0_0).bind fun t270 => (if t270 = true then (some false) else ((impl_InRange.f a0_0 1 3).bind fun t271 => (some (!t271))))) else (some false))) := by
  refine Is.lim (g := fun k => impl_loses_1.f k a0_0 l0_1 a1_0 l1_1 l1_2 a1_3) ?_
  · unfold impl_loses_1.f
    repeat' first
    | with_reducible exact slices_Contains_int_int.f_is _ _
    | with_reducible exact Is.now _
    | with_reducible refine Is.ite ?_ ?_
    | with_reducible refine Is.bind ?_ (fun _ => ?_)
noncomputable def slices_IndexFunc_impl_Ext_impl_Ext_with_impl_loses_1.l0v (x0 : List (S114)) (x7 : Int) (x8 : Int) (x2000 : Int) (x2001 : List Int) (x2002 : List Int) (x2003 : Bool) : Option (Int) := Lim fun k => slices_IndexFunc_impl_Ext_impl_Ext_with_impl_loses_1.l0 k x0 x7 x8 x2000 x2001 x2002 x2003
noncomputable def slices_IndexFunc_impl_Ext_impl_Ext_with_impl_loses_1.fv (l0 : List (S114)) (a1_0 : Int) (l1_1 : List Int) (l1_2 : List Int) (a1_3 : Bool) : Option (Int) := Lim fun k => slices_IndexFunc_impl_Ext_impl_Ext_with_impl_loses_1.f k l0 a1_0 l1_1 l1_2 a1_3
theorem slices_IndexFunc_impl_Ext_impl_Ext_with_impl_loses_1.l0_is (x0 : List (S114)) (x7 : Int) (x8 : Int) (x2000 : Int) (x2001 : List Int) (x2002 : List Int) (x2003 : Bool) : Is (fun k => slices_IndexFunc_impl_Ext_impl_Ext_with_impl_loses_1.l0 k x0 x7 x8 x2000 x2001 x2002 x2003) (slices_IndexFunc_impl_Ext_impl_Ext_with_impl_loses_1.l0v x0 x7 x8 x2000 x2001 x2002 x2003) := ⟨fun k => (slices_IndexFunc_impl_Ext_impl_Ext_with_impl_loses_1.mono_l k) x0 x7 x8 x2000 x2001 x2002 x2003, rfl⟩
theorem slices_IndexFunc_impl_Ext_impl_Ext_with_impl_loses_1.f_is (l0 : List (S114)) (a1_0 : Int) (l1_1 : List Int) (l1_2 : List Int) (a1_3 : Bool) : Is (fun k => slices_IndexFunc_impl_Ext_impl_Ext_with_impl_loses_1.f k l0 a1_0 l1_1 l1_2 a1_3) (slices_IndexFunc_impl_Ext_impl_Ext_with_impl_loses_1.fv l0 a1_0 l1_1 l1_2 a1_3) := ⟨fun k => slices_IndexFunc_impl_Ext_impl_Ext_with_impl_loses_1.mono l0 a1_0 l1_1 l1_2 a1_3 k, rfl⟩
theorem slices_IndexFunc_impl_Ext_impl_Ext_with_impl_loses_1.l0v_eq (x0 : List (S114)) (x7 : Int) (x8 : Int) (x2000 : Int) (x2001 : List Int) (x2002 : List Int) (x2003 : Bool) : slices_IndexFunc_impl_Ext_impl_Ext_with_impl_loses_1.l0v x0 x7 x8 x2000 x2001 x2002 x2003 = if x8 < x7 then (if 0 ≤ x8 then (if x8 < (x0.length : Int) then ((impl_loses_1.fv ((rd_T114 x0 x8).f0) ((rd_T114 x0 x8).f1) x2000 x2001 x2002 x2003).bind fun t273 => (if t273 = true then (some x8) else (slices_IndexFunc_impl_Ext_impl_Ext_with_impl_loses_1.l0v x0 x7 (wrap64 (x8 + 1)) x2000 x2001 x2002 x2003))) else (none)) else (none)) else (some (-1)) := by
  refine Is.step (slices_IndexFunc_impl_Ext_impl_Ext_with_impl_loses_1.l0_is x0 x7 x8 x2000 x2001 x2002 x2003).mo (fun k => by rw [slices_IndexFunc_impl_Ext_impl_Ext_with_impl_loses_1.l0]) ?_
  · skip
    repeat' first
    | with_reducible exact impl_loses_1.f_is _ _ _ _ _ _
    | with_reducible exact slices_IndexFunc_impl_Ext_impl_Ext_with_impl_loses_1.l0_is _ _ _ _ _ _ _
    | with_reducible exact Is.now _
    | with_reducible refine Is.ite ?_ ?_
    | with_reducible refine Is.bind ?_ (fun _ => ?_)
theorem slices_IndexFunc_impl_Ext_impl_Ext_with_impl_loses_1.fv_eq (l0 : List (S114)) (a1_0 : Int) (l1_1 : List Int) (l1_2 : List Int) (a1_3 : Bool) : slices_IndexFunc_impl_Ext_impl_Ext_with_impl_loses_1.fv l0 a1_0 l1_1 l1_2 a1_3 = slices_IndexFunc_impl_Ext_impl_Ext_with_impl_loses_1.l0v l0 (l0.length : Int) 0 a1_0 l1_1 l1_2 a1_3 := by
  refine Is.lim (g := fun k => slices_IndexFunc_impl_Ext_impl_Ext_with_impl_loses_1.f k l0 a1_0 l1_1 l1_2 a1_3) ?_
  · unfold slices_IndexFunc_impl_Ext_impl_Ext_with_impl_loses_1.f
    repeat' first
    | with_reducible exact slices_IndexFunc_impl_Ext_impl_Ext_with_impl_loses_1.l0_is _ _ _ _ _ _ _
    | with_reducible exact Is.now _
    | with_reducible refine Is.ite ?_ ?_
    | with_reducible refine Is.bind ?_ (fun _ => ?_)
noncomputable def slices_ContainsFunc_impl_Ext_impl_Ext_with_impl_loses_1.fv (l0 : List (S114)) (a1_0 : Int) (l1_1 : List Int) (l1_2 : List Int) (a1_3 : Bool) : Option (Bool) := Lim fun k => slices_ContainsFunc_impl_Ext_impl_Ext_with_impl_loses_1.f k l0 a1_0 l1_1 l1_2 a1_3
theorem slices_ContainsFunc_impl_Ext_impl_Ext_with_impl_loses_1.f_is (l0 : List (S114)) (a1_0 : Int) (l1_1 : List Int) (l1_2 : List Int) (a1_3 : Bool) : Is (fun k => slices_ContainsFunc_impl_Ext_impl_Ext_with_impl_loses_1.f k l0 a1_0 l1_1 l1_2 a1_3) (slices_ContainsFunc_impl_Ext_impl_Ext_with_impl_loses_1.fv l0 a1_0 l1_1 l1_2 a1_3) := ⟨fun k => slices_ContainsFunc_impl_Ext_impl_Ext_with_impl_loses_1.mono l0 a1_0 l1_1 l1_2 a1_3 k, rfl⟩
theorem slices_ContainsFunc_impl_Ext_impl_Ext_with_impl_loses_1.fv_eq (l0 : List (S114)) (a1_0 : Int) (l1_1 : List Int) (l1_2 : List Int) (a1_3 : Bool) : slices_ContainsFunc_impl_Ext_impl_Ext_with_impl_loses_1.fv l0 a1_0 l1_1 l1_2 a1_3 = (slices_IndexFunc_impl_Ext_impl_Ext_with_impl_loses_1.fv l0 a1_0 l1_1 l1_2 a1_3).bind fun t274 => (some (decide (t274 ≥ 0))) := by
  refine Is.lim (g := fun k => slices_ContainsFunc_impl_Ext_impl_Ext_with_impl_loses_1.f k l0 a1_0 l1_1 l1_2 a1_3) ?_
  · unfold slices_ContainsFunc_impl_Ext_impl_Ext_with_impl_loses_1.f
    repeat' first
    | with_reducible exact slices_IndexFunc_impl_Ext_impl_Ext_with_impl_loses_1.f_is _ _ _ _ _
    | with_reducible exact Is.now _
    | with_reducible refine Is.ite ?_ ?_
    | with_reducible refine Is.bind ?_ (fun _ => ?_)
end Go.Proofs.Ytdoefkloanpliaa.Print

/- ExtOf, AreExts and IsHello, of the program. Condition: at most 10 to the 12 of each. -/
set_option linter.unusedSimpArgs false
set_option linter.unusedVariables false
namespace Go.Proofs.Ytdoefkloanpliaa.Plain
open Go.RowKit Go.Proofs.YtdoefkloanpliaaW.PrintWords Go.Proofs.Ytdoefkloanpliaa.Base Go.Proofs.Ytdoefkloanpliaa.Print

theorem implExtOf_l0 (t : Int) (suf : List S114) : ∀ (pre : List S114), (pre ++ suf).length ≤ 1000000000000 →
    ∃ r, slices_IndexFunc_impl_Ext_impl_Ext_with_impl_ExtOf_1.l0v (pre ++ suf) ((pre ++ suf).length : Int) (pre.length : Int) t = some r ∧ decide (r ≥ 0) = hasT suf t := by
  induction suf with
  | nil =>
    intro pre _
    refine ⟨-1, ?_, by simp [hasT]⟩
    rw [slices_IndexFunc_impl_Ext_impl_Ext_with_impl_ExtOf_1.l0v_eq, if_neg (nlt_end pre)]
  | cons x suf ih =>
    intro pre hl
    have hn : pre.length < (pre ++ x :: suf).length := by simp
    rw [slices_IndexFunc_impl_Ext_impl_Ext_with_impl_ExtOf_1.l0v_eq, if_pos (lt_mid pre suf x), if_pos (by omega), if_pos (lt_mid pre suf x), rdExt_mid]
    unfold impl_ExtOf_1.f
    simp only [Option.bind_some, beq_iff_eq]
    by_cases hx : x.f0 = t
    · rw [if_pos hx]
      exact ⟨(pre.length : Int), rfl, by simp [hasT, hx]⟩
    · rw [if_neg hx, up_mid pre x hn hl]
      rw [mid_snoc pre suf x] at hl ⊢
      obtain ⟨r, h1, h2⟩ := ih (pre ++ [x]) hl
      exact ⟨r, h1, by rw [h2]; simp [hasT, hx]⟩
theorem implExtOf_ex (l : List S114) (t : Int) (hl : l.length ≤ 1000000000000) : ∃ r, impl_ExtOf.fv l t = some r ∧ decide (r ≥ 0) = hasT l t := by
  obtain ⟨r, h1, h2⟩ := implExtOf_l0 t l [] (by simpa using hl)
  refine ⟨r, ?_, h2⟩
  rw [impl_ExtOf.fv_eq, slices_IndexFunc_impl_Ext_impl_Ext_with_impl_ExtOf_1.fv_eq]
  simp only [List.nil_append, List.length_nil, Int.natCast_zero] at h1
  rw [h1]
  rfl
theorem implExts_l0 (suf : List S114) : ∀ (pre : List S114), (pre ++ suf).length ≤ 1000000000000 → okXs suf →
    impl_AreExts.l0v (pre ++ suf) (pre ++ suf) ((pre ++ suf).length : Int) (pre.length : Int) = some (areX pre suf && decide ((pre ++ suf).length ≤ 6)) := by
  induction suf with
  | nil =>
    intro pre _ _
    rw [impl_AreExts.l0v_eq, if_neg (nlt_end pre)]
    simp only [areX, Bool.true_and, show (((pre ++ []).length : Int) ≤ 6) ↔ ((pre ++ []).length ≤ 6) from by omega]
  | cons x suf ih =>
    intro pre hl hs
    have hn : pre.length < (pre ++ x :: suf).length := by simp
    have ht : (pre ++ x :: suf).take ((pre.length : Int)).toNat = pre := by simp
    obtain ⟨r, e1, e2⟩ := implExtOf_ex pre x.f0 (by omega)
    have h1 := ih (pre ++ [x]) (by simpa using hl) (fun y hy => hs y (List.mem_cons_of_mem _ hy))
    rw [← mid_snoc pre suf x] at h1
    rw [impl_AreExts.l0v_eq, if_pos (lt_mid pre suf x), if_pos (by omega), if_pos (lt_mid pre suf x), rdExt_mid, inRange_f, ht, e1, areNumbers_v _ _ _ (hs x List.mem_cons_self), up_mid pre x hn hl, h1]
    simp only [Option.bind_some, areX]
    rw [← e2]
    generalize areX (pre ++ [x]) suf = z
    generalize decide ((pre ++ x :: suf).length ≤ 6) = q
    generalize x.f1.all (inR 0 255) = y
    cases inR 0 255 x.f0 with
    | false => simp
    | true =>
      rw [if_pos rfl, if_pos (by omega)]
      by_cases h2 : r ≥ 0
      · simp [h2]
      · by_cases h3 : x.f1.length ≤ 4
        · rw [if_neg h2, if_neg (by omega)]
          cases y <;> simp [h2, h3]
        · rw [if_neg h2, if_pos (by omega)]
          simp [h3]
theorem implExts_v (l : List S114) (hl : l.length ≤ 1000000000000) (hs : okXs l) : impl_AreExts.fv l = some (isX l) := by
  rw [impl_AreExts.fv_eq]
  simpa [isX] using implExts_l0 l [] (by simpa using hl) hs
theorem implHello_v (v : List Int) (l : List S114) (hv : v.length ≤ 1000000000000) (hl : l.length ≤ 1000000000000) (hs : okXs l) : impl_IsHello.fv v l = some (isH v l) := by
  rw [impl_IsHello.fv_eq, implVers_v v hv, implExts_v l hl hs]
  simp only [Option.bind_some, isH]
  cases areV v <;> simp
end Go.Proofs.Ytdoefkloanpliaa.Plain

/- IsBox, of the program. Condition: at most 10 to the 12 of each. -/
set_option linter.unusedSimpArgs false
set_option linter.unusedVariables false
namespace Go.Proofs.Ytdoefkloanpliaa.Plain
open Go.RowKit Go.Proofs.YtdoefkloanpliaaW.PrintWords Go.Proofs.Ytdoefkloanpliaa.Base Go.Proofs.Ytdoefkloanpliaa.Print

theorem implIsB_v (b : S67) (h : okB b) : impl_IsBox.fv b.f0 b.f1 b.f2 b.f3 = some (isB b) := by
  rw [impl_IsBox.fv_eq, inRange_f, areNumbers_v _ _ _ h.1, areNumbers_v _ _ _ h.2]
  simp only [Option.bind_some, isB]
  simp only [show ((b.f1.length : Int) ≤ 6) ↔ (b.f1.length ≤ 6) from by omega, show ((b.f2.length : Int) ≤ 6) ↔ (b.f2.length ≤ 6) from by omega]
  generalize inR 0 9 b.f0 = x
  generalize b.f1.all (inR 0 255) = y
  generalize b.f2.all (inR 0 255) = z
  by_cases h1 : b.f1.length ≤ 6 <;> by_cases h2 : b.f2.length ≤ 6 <;> cases x <;> cases y <;> cases z <;> simp [h1, h2]
end Go.Proofs.Ytdoefkloanpliaa.Plain

/- slices.Contains on whole numbers. Condition: at most 10 to the 12 numbers. -/
set_option linter.unusedSimpArgs false
set_option linter.unusedVariables false
namespace Go.Proofs.Ytdoefkloanpliaa.Plain
open Go.RowKit Go.Proofs.YtdoefkloanpliaaW.PrintWords Go.Proofs.Ytdoefkloanpliaa.Base Go.Proofs.Ytdoefkloanpliaa.Print

theorem slIndex_l0 (x : Int) (suf : List Int) : ∀ (pre : List Int), (pre ++ suf).length ≤ 1000000000000 →
    ∃ r, slices_Index_int_int.l0v (pre ++ suf) x ((pre ++ suf).length : Int) (pre.length : Int) = some r ∧ decide (r ≥ 0) = mem suf x := by
  induction suf with
  | nil =>
    intro pre _
    refine ⟨-1, ?_, by simp [mem]⟩
    rw [slices_Index_int_int.l0v_eq, if_neg (nlt_end pre)]
  | cons y suf ih =>
    intro pre hl
    have hn : pre.length < (pre ++ y :: suf).length := by simp
    rw [slices_Index_int_int.l0v_eq, if_pos (lt_mid pre suf y), if_pos (by omega), if_pos (lt_mid pre suf y), rd_mid]
    by_cases hxy : x = y
    · rw [if_pos hxy]
      refine ⟨(pre.length : Int), rfl, ?_⟩
      rw [mem_cons, hxy]
      simp
    · rw [if_neg hxy, up_mid pre y hn hl]
      rw [mid_snoc pre suf y] at hl ⊢
      obtain ⟨r, h1, h2⟩ := ih (pre ++ [y]) hl
      refine ⟨r, h1, ?_⟩
      rw [h2, mem_cons]
      simp [show ¬ y = x from fun e => hxy e.symm]
theorem slHas_v (l : List Int) (x : Int) (hl : l.length ≤ 1000000000000) : slices_Contains_int_int.fv l x = some (mem l x) := by
  obtain ⟨r, h1, h2⟩ := slIndex_l0 x l [] (by simpa using hl)
  rw [slices_Contains_int_int.fv_eq, slices_Index_int_int.fv_eq]
  simp only [List.nil_append, List.length_nil, Int.natCast_zero] at h1
  rw [h1]
  simp [h2]
end Go.Proofs.Ytdoefkloanpliaa.Plain

/- Written by a program of this session (limx.py): the equations of what the printed functions come to. No condition. -/
namespace Go.Proofs.Ytdoefkloanpliaa.Print
open Go.RowKit Go.Proofs.YtdoefkloanpliaaW.PrintWords Go.Proofs.YtdoefkloanpliaaW.PrintLast Go.Proofs.Ytdoefkloanpliaa.Base
set_option linter.unusedVariables false
set_option maxRecDepth 20000
noncomputable def impl_loses.fv (a0_0 : Int) (l0_1 : List Int) (l0_2 : List Int) (a0_3 : Bool) (l1_0 : List Int) (l1_1 : List (S114)) : Option (Bool) := Lim fun k => impl_loses.f k a0_0 l0_1 l0_2 a0_3 l1_0 l1_1
theorem impl_loses.f_is (a0_0 : Int) (l0_1 : List Int) (l0_2 : List Int) (a0_3 : Bool) (l1_0 : List Int) (l1_1 : List (S114)) : Is (fun k => impl_loses.f k a0_0 l0_1 l0_2 a0_3 l1_0 l1_1) (impl_loses.fv a0_0 l0_1 l0_2 a0_3 l1_0 l1_1) := ⟨fun k => impl_loses.mono a0_0 l0_1 l0_2 a0_3 l1_0 l1_1 k, rfl⟩
theorem impl_loses.fv_eq (a0_0 : Int) (l0_1 : List Int) (l0_2 : List Int) (a0_3 : Bool) (l1_0 : List Int) (l1_1 : List (S114)) : impl_loses.fv a0_0 l0_1 l0_2 a0_3 l1_0 l1_1 = if a0_0 = 0 then ((slices_ContainsFunc_impl_Ext_impl_Ext_with_impl_loses_1.fv l1_1 a0_0 l0_1 l0_2 a0_3).bind fun t277 => (some t277)) else ((slices_Max_int_int.fv l1_0).bind fun t278 => (if t278 > a0_0 then (some true) else ((slices_ContainsFunc_impl_Ext_impl_Ext_with_impl_loses_1.fv l1_1 a0_0 l0_1 l0_2 a0_3).bind fun t279 => (some t279)))) := by
  refine Is.lim (g := fun k => impl_loses.f k a0_0 l0_1 l0_2 a0_3 l1_0 l1_1) ?_
  · unfold impl_loses.f
    repeat' first
    | with_reducible exact slices_ContainsFunc_impl_Ext_impl_Ext_with_impl_loses_1.f_is _ _ _ _ _
    | with_reducible exact slices_Max_int_int.f_is _
    | with_reducible exact Is.now _
    | with_reducible refine Is.ite ?_ ?_
    | with_reducible refine Is.bind ?_ (fun _ => ?_)
noncomputable def impl_PassBox_1.fv (a0 : Int) (a1_0 : Int) (l1_1 : List Int) (l1_2 : List Int) (a1_3 : Bool) : Option (Bool) := Lim fun k => impl_PassBox_1.f k a0 a1_0 l1_1 l1_2 a1_3
theorem impl_PassBox_1.f_is (a0 : Int) (a1_0 : Int) (l1_1 : List Int) (l1_2 : List Int) (a1_3 : Bool) : Is (fun k => impl_PassBox_1.f k a0 a1_0 l1_1 l1_2 a1_3) (impl_PassBox_1.fv a0 a1_0 l1_1 l1_2 a1_3) := ⟨fun k => impl_PassBox_1.mono a0 a1_0 l1_1 l1_2 a1_3 k, rfl⟩
theorem impl_PassBox_1.fv_eq (a0 : Int) (a1_0 : Int) (l1_1 : List Int) (l1_2 : List Int) (a1_3 : Bool) : impl_PassBox_1.fv a0 a1_0 l1_1 l1_2 a1_3 = (slices_Contains_int_int.fv l1_2 a0).bind fun t286 => (some (!t286)) := by
  refine Is.lim (g := fun k => impl_PassBox_1.f k a0 a1_0 l1_1 l1_2 a1_3) ?_
  · unfold impl_PassBox_1.f
    repeat' first
    | with_reducible exact slices_Contains_int_int.f_is _ _
    | with_reducible exact Is.now _
    | with_reducible refine Is.ite ?_ ?_
    | with_reducible refine Is.bind ?_ (fun _ => ?_)
noncomputable def impl_keptExts_with_impl_PassBox_1.l0v (x5 : List (S114)) (x9 : List (S114)) (x10 : Int) (x11 : Int) (x2000 : Int) (x2001 : List Int) (x2002 : List Int) (x2003 : Bool) : Option ((List (S114))) := Lim fun k => impl_keptExts_with_impl_PassBox_1.l0 k x5 x9 x10 x11 x2000 x2001 x2002 x2003
noncomputable def impl_keptExts_with_impl_PassBox_1.fv (l0 : List (S114)) (a1_0 : Int) (l1_1 : List Int) (l1_2 : List Int) (a1_3 : Bool) : Option ((List (S114))) := Lim fun k => impl_keptExts_with_impl_PassBox_1.f k l0 a1_0 l1_1 l1_2 a1_3
theorem impl_keptExts_with_impl_PassBox_1.l0_is (x5 : List (S114)) (x9 : List (S114)) (x10 : Int) (x11 : Int) (x2000 : Int) (x2001 : List Int) (x2002 : List Int) (x2003 : Bool) : Is (fun k => impl_keptExts_with_impl_PassBox_1.l0 k x5 x9 x10 x11 x2000 x2001 x2002 x2003) (impl_keptExts_with_impl_PassBox_1.l0v x5 x9 x10 x11 x2000 x2001 x2002 x2003) := ⟨fun k => (impl_keptExts_with_impl_PassBox_1.mono_l k) x5 x9 x10 x11 x2000 x2001 x2002 x2003, rfl⟩
theorem impl_keptExts_with_impl_PassBox_1.f_is (l0 : List (S114)) (a1_0 : Int) (l1_1 : List Int) (l1_2 : List Int) (a1_3 : Bool) : Is (fun k => impl_keptExts_with_impl_PassBox_1.f k l0 a1_0 l1_1 l1_2 a1_3) (impl_keptExts_with_impl_PassBox_1.fv l0 a1_0 l1_1 l1_2 a1_3) := ⟨fun k => impl_keptExts_with_impl_PassBox_1.mono l0 a1_0 l1_1 l1_2 a1_3 k, rfl⟩
theorem impl_keptExts_with_impl_PassBox_1.l0v_eq (x5 : List (S114)) (x9 : List (S114)) (x10 : Int) (x11 : Int) (x2000 : Int) (x2001 : List Int) (x2002 : List Int) (x2003 : Bool) : impl_keptExts_with_impl_PassBox_1.l0v x5 x9 x10 x11 x2000 x2001 x2002 x2003 = if x11 < x10 then (if 0 ≤ x11 then (if x11 < (x9.length : Int) then ((impl_PassBox_1.fv ((rd_T114 x9 x11).f0) x2000 x2001 x2002 x2003).bind fun t292 => (if t292 = true then ((some (([] : List Int) : List Int)).bind fun y293 => (if y293.length + ((rd_T114 x9 x11).f1).length < 17592186044416 then (if x5.length < 4398046511104 then (impl_keptExts_with_impl_PassBox_1.l0v (x5 ++ [(⟨(rd_T114 x9 x11).f0, (y293 ++ ((rd_T114 x9 x11).f1))⟩ : S114)]) x9 x10 (wrap64 (x11 + 1)) x2000 x2001 x2002 x2003) else (none)) else (none))) else (impl_keptExts_with_impl_PassBox_1.l0v x5 x9 x10 (wrap64 (x11 + 1)) x2000 x2001 x2002 x2003))) else (none)) else (none)) else (some x5) := by
  refine Is.step (impl_keptExts_with_impl_PassBox_1.l0_is x5 x9 x10 x11 x2000 x2001 x2002 x2003).mo (fun k => by rw [impl_keptExts_with_impl_PassBox_1.l0]) ?_
  · skip
    repeat' first
    | with_reducible exact impl_PassBox_1.f_is _ _ _ _ _
    | with_reducible exact impl_keptExts_with_impl_PassBox_1.l0_is _ _ _ _ _ _ _ _
    | with_reducible exact Is.now _
    | with_reducible refine Is.ite ?_ ?_
    | with_reducible refine Is.bind ?_ (fun _ => ?_)
theorem impl_keptExts_with_impl_PassBox_1.fv_eq (l0 : List (S114)) (a1_0 : Int) (l1_1 : List Int) (l1_2 : List Int) (a1_3 : Bool) : impl_keptExts_with_impl_PassBox_1.fv l0 a1_0 l1_1 l1_2 a1_3 = impl_keptExts_with_impl_PassBox_1.l0v (([] : List (S114))) l0 (l0.length : Int) 0 a1_0 l1_1 l1_2 a1_3 := by
  refine Is.lim (g := fun k => impl_keptExts_with_impl_PassBox_1.f k l0 a1_0 l1_1 l1_2 a1_3) ?_
  · unfold impl_keptExts_with_impl_PassBox_1.f
    repeat' first
    | with_reducible exact impl_keptExts_with_impl_PassBox_1.l0_is _ _ _ _ _ _ _ _
    | with_reducible exact Is.now _
    | with_reducible refine Is.ite ?_ ?_
    | with_reducible refine Is.bind ?_ (fun _ => ?_)
end Go.Proofs.Ytdoefkloanpliaa.Print

/- Written by a program of this session (limx.py): the equations of what the printed functions come to. No condition. -/
namespace Go.Proofs.Ytdoefkloanpliaa.Print
open Go.RowKit Go.Proofs.YtdoefkloanpliaaW.PrintWords Go.Proofs.YtdoefkloanpliaaW.PrintLast Go.Proofs.Ytdoefkloanpliaa.Base
set_option linter.unusedVariables false
set_option maxRecDepth 20000
noncomputable def impl_PassBox.j0v (x18 : Bool) (x303000 : Int) (x303001 : List Int) (x303002 : List Int) (x303003 : Bool) (x304000 : List Int) (x304001 : List (S114)) : Option (List Int × (List (S114)) × Bool) := Lim fun k => impl_PassBox.j0 k x18 x303000 x303001 x303002 x303003 x304000 x304001
noncomputable def impl_PassBox.fv (a0_0 : Int) (l0_1 : List Int) (l0_2 : List Int) (a0_3 : Bool) (l1_0 : List Int) (l1_1 : List (S114)) : Option (List Int × (List (S114)) × Bool) := Lim fun k => impl_PassBox.f k a0_0 l0_1 l0_2 a0_3 l1_0 l1_1
theorem impl_PassBox.j0_is (x18 : Bool) (x303000 : Int) (x303001 : List Int) (x303002 : List Int) (x303003 : Bool) (x304000 : List Int) (x304001 : List (S114)) : Is (fun k => impl_PassBox.j0 k x18 x303000 x303001 x303002 x303003 x304000 x304001) (impl_PassBox.j0v x18 x303000 x303001 x303002 x303003 x304000 x304001) := ⟨fun k => (impl_PassBox.mono_l k) x18 x303000 x303001 x303002 x303003 x304000 x304001, rfl⟩
theorem impl_PassBox.f_is (a0_0 : Int) (l0_1 : List Int) (l0_2 : List Int) (a0_3 : Bool) (l1_0 : List Int) (l1_1 : List (S114)) : Is (fun k => impl_PassBox.f k a0_0 l0_1 l0_2 a0_3 l1_0 l1_1) (impl_PassBox.fv a0_0 l0_1 l0_2 a0_3 l1_0 l1_1) := ⟨fun k => impl_PassBox.mono a0_0 l0_1 l0_2 a0_3 l1_0 l1_1 k, rfl⟩
theorem impl_PassBox.j0v_eq (x18 : Bool) (x303000 : Int) (x303001 : List Int) (x303002 : List Int) (x303003 : Bool) (x304000 : List Int) (x304001 : List (S114)) : impl_PassBox.j0v x18 x303000 x303001 x303002 x303003 x304000 x304001 = if x18 = true then (some (([] : List Int), ([] : List (S114)), false)) else ((slices_Clone_int_int.f x304000).bind fun t308 => ((impl_keptExts_with_impl_PassBox_1.fv x304001 x303000 x303001 x303002 x303003).bind fun t311 => (some (t308, t311, true)))) := by
  refine Is.step (impl_PassBox.j0_is x18 x303000 x303001 x303002 x303003 x304000 x304001).mo (fun k => by rw [impl_PassBox.j0]) ?_
  · skip
    repeat' first
    | with_reducible exact impl_keptExts_with_impl_PassBox_1.f_is _ _ _ _ _
    | with_reducible exact Is.now _
    | with_reducible refine Is.ite ?_ ?_
    | with_reducible refine Is.bind ?_ (fun _ => ?_)
theorem impl_PassBox.fv_eq (a0_0 : Int) (l0_1 : List Int) (l0_2 : List Int) (a0_3 : Bool) (l1_0 : List Int) (l1_1 : List (S114)) : impl_PassBox.fv a0_0 l0_1 l0_2 a0_3 l1_0 l1_1 = (impl_IsBox.fv a0_0 l0_1 l0_2 a0_3).bind fun t305 => (if t305 = true then ((impl_IsHello.fv l1_0 l1_1).bind fun t306 => (if t306 = true then ((impl_loses.fv a0_0 l0_1 l0_2 a0_3 l1_0 l1_1).bind fun t307 => (impl_PassBox.j0v t307 a0_0 l0_1 l0_2 a0_3 l1_0 l1_1)) else (impl_PassBox.j0v true a0_0 l0_1 l0_2 a0_3 l1_0 l1_1))) else (impl_PassBox.j0v true a0_0 l0_1 l0_2 a0_3 l1_0 l1_1)) := by
  refine Is.lim (g := fun k => impl_PassBox.f k a0_0 l0_1 l0_2 a0_3 l1_0 l1_1) ?_
  · unfold impl_PassBox.f
    repeat' first
    | with_reducible exact impl_IsBox.f_is _ _ _ _
    | with_reducible exact impl_IsHello.f_is _ _
    | with_reducible exact impl_PassBox.j0_is _ _ _ _ _ _ _
    | with_reducible exact impl_loses.f_is _ _ _ _ _ _
    | with_reducible exact Is.now _
    | with_reducible refine Is.ite ?_ ?_
    | with_reducible refine Is.bind ?_ (fun _ => ?_)
noncomputable def impl_RefusesGrease_1.fv (a0 : Int) (a1_0 : Int) (l1_1 : List Int) (l1_2 : List Int) (a1_3 : Bool) : Option (Bool) := Lim fun k => impl_RefusesGrease_1.f k a0 a1_0 l1_1 l1_2 a1_3
theorem impl_RefusesGrease_1.f_is (a0 : Int) (a1_0 : Int) (l1_1 : List Int) (l1_2 : List Int) (a1_3 : Bool) : Is (fun k => impl_RefusesGrease_1.f k a0 a1_0 l1_1 l1_2 a1_3) (impl_RefusesGrease_1.fv a0 a1_0 l1_1 l1_2 a1_3) := ⟨fun k => impl_RefusesGrease_1.mono a0 a1_0 l1_1 l1_2 a1_3 k, rfl⟩
theorem impl_RefusesGrease_1.fv_eq (a0 : Int) (a1_0 : Int) (l1_1 : List Int) (l1_2 : List Int) (a1_3 : Bool) : impl_RefusesGrease_1.fv a0 a1_0 l1_1 l1_2 a1_3 = (impl_PassBox.fv a1_0 l1_1 l1_2 a1_3 (([1] : List Int)) (([(⟨a0, ([] : List Int)⟩ : S114)] : List (S114)))).bind fun bt320 => (if bt320.2.2 = true then (some ((bt320.2.1.length : Int) == 0)) else (some true)) := by
  refine Is.lim (g := fun k => impl_RefusesGrease_1.f k a0 a1_0 l1_1 l1_2 a1_3) ?_
  · unfold impl_RefusesGrease_1.f
    repeat' first
    | with_reducible exact impl_PassBox.f_is _ _ _ _ _ _
    | with_reducible exact Is.now _
    | with_reducible refine Is.ite ?_ ?_
    | with_reducible refine Is.bind ?_ (fun _ => ?_)
noncomputable def slices_IndexFunc_int_int_with_impl_RefusesGrease_1.l0v (x0 : List Int) (x7 : Int) (x8 : Int) (x2000 : Int) (x2001 : List Int) (x2002 : List Int) (x2003 : Bool) : Option (Int) := Lim fun k => slices_IndexFunc_int_int_with_impl_RefusesGrease_1.l0 k x0 x7 x8 x2000 x2001 x2002 x2003
noncomputable def slices_IndexFunc_int_int_with_impl_RefusesGrease_1.fv (l0 : List Int) (a1_0 : Int) (l1_1 : List Int) (l1_2 : List Int) (a1_3 : Bool) : Option (Int) := Lim fun k => slices_IndexFunc_int_int_with_impl_RefusesGrease_1.f k l0 a1_0 l1_1 l1_2 a1_3
theorem slices_IndexFunc_int_int_with_impl_RefusesGrease_1.l0_is (x0 : List Int) (x7 : Int) (x8 : Int) (x2000 : Int) (x2001 : List Int) (x2002 : List Int) (x2003 : Bool) : Is (fun k => slices_IndexFunc_int_int_with_impl_RefusesGrease_1.l0 k x0 x7 x8 x2000 x2001 x2002 x2003) (slices_IndexFunc_int_int_with_impl_RefusesGrease_1.l0v x0 x7 x8 x2000 x2001 x2002 x2003) := ⟨fun k => (slices_IndexFunc_int_int_with_impl_RefusesGrease_1.mono_l k) x0 x7 x8 x2000 x2001 x2002 x2003, rfl⟩
theorem slices_IndexFunc_int_int_with_impl_RefusesGrease_1.f_is (l0 : List Int) (a1_0 : Int) (l1_1 : List Int) (l1_2 : List Int) (a1_3 : Bool) : Is (fun k => slices_IndexFunc_int_int_with_impl_RefusesGrease_1.f k l0 a1_0 l1_1 l1_2 a1_3) (slices_IndexFunc_int_int_with_impl_RefusesGrease_1.fv l0 a1_0 l1_1 l1_2 a1_3) := ⟨fun k => slices_IndexFunc_int_int_with_impl_RefusesGrease_1.mono l0 a1_0 l1_1 l1_2 a1_3 k, rfl⟩
theorem slices_IndexFunc_int_int_with_impl_RefusesGrease_1.l0v_eq (x0 : List Int) (x7 : Int) (x8 : Int) (x2000 : Int) (x2001 : List Int) (x2002 : List Int) (x2003 : Bool) : slices_IndexFunc_int_int_with_impl_RefusesGrease_1.l0v x0 x7 x8 x2000 x2001 x2002 x2003 = if x8 < x7 then (if 0 ≤ x8 then (if x8 < (x0.length : Int) then ((impl_RefusesGrease_1.fv (rd x0 x8) x2000 x2001 x2002 x2003).bind fun t329 => (if t329 = true then (some x8) else (slices_IndexFunc_int_int_with_impl_RefusesGrease_1.l0v x0 x7 (wrap64 (x8 + 1)) x2000 x2001 x2002 x2003))) else (none)) else (none)) else (some (-1)) := by
  refine Is.step (slices_IndexFunc_int_int_with_impl_RefusesGrease_1.l0_is x0 x7 x8 x2000 x2001 x2002 x2003).mo (fun k => by rw [slices_IndexFunc_int_int_with_impl_RefusesGrease_1.l0]) ?_
  · skip
    repeat' first
    | with_reducible exact impl_RefusesGrease_1.f_is _ _ _ _ _
    | with_reducible exact slices_IndexFunc_int_int_with_impl_RefusesGrease_1.l0_is _ _ _ _ _ _ _
    | with_reducible exact Is.now _
    | with_reducible refine Is.ite ?_ ?_
    | with_reducible refine Is.bind ?_ (fun _ => ?_)
theorem slices_IndexFunc_int_int_with_impl_RefusesGrease_1.fv_eq (l0 : List Int) (a1_0 : Int) (l1_1 : List Int) (l1_2 : List Int) (a1_3 : Bool) : slices_IndexFunc_int_int_with_impl_RefusesGrease_1.fv l0 a1_0 l1_1 l1_2 a1_3 = slices_IndexFunc_int_int_with_impl_RefusesGrease_1.l0v l0 (l0.length : Int) 0 a1_0 l1_1 l1_2 a1_3 := by
  refine Is.lim (g := fun k => slices_IndexFunc_int_int_with_impl_RefusesGrease_1.f k l0 a1_0 l1_1 l1_2 a1_3) ?_
  · unfold slices_IndexFunc_int_int_with_impl_RefusesGrease_1.f
    repeat' first
    | with_reducible exact slices_IndexFunc_int_int_with_impl_RefusesGrease_1.l0_is _ _ _ _ _ _ _
    | with_reducible exact Is.now _
    | with_reducible refine Is.ite ?_ ?_
    | with_reducible refine Is.bind ?_ (fun _ => ?_)
noncomputable def slices_ContainsFunc_int_int_with_impl_RefusesGrease_1.fv (l0 : List Int) (a1_0 : Int) (l1_1 : List Int) (l1_2 : List Int) (a1_3 : Bool) : Option (Bool) := Lim fun k => slices_ContainsFunc_int_int_with_impl_RefusesGrease_1.f k l0 a1_0 l1_1 l1_2 a1_3
theorem slices_ContainsFunc_int_int_with_impl_RefusesGrease_1.f_is (l0 : List Int) (a1_0 : Int) (l1_1 : List Int) (l1_2 : List Int) (a1_3 : Bool) : Is (fun k => slices_ContainsFunc_int_int_with_impl_RefusesGrease_1.f k l0 a1_0 l1_1 l1_2 a1_3) (slices_ContainsFunc_int_int_with_impl_RefusesGrease_1.fv l0 a1_0 l1_1 l1_2 a1_3) := ⟨fun k => slices_ContainsFunc_int_int_with_impl_RefusesGrease_1.mono l0 a1_0 l1_1 l1_2 a1_3 k, rfl⟩
theorem slices_ContainsFunc_int_int_with_impl_RefusesGrease_1.fv_eq (l0 : List Int) (a1_0 : Int) (l1_1 : List Int) (l1_2 : List Int) (a1_3 : Bool) : slices_ContainsFunc_int_int_with_impl_RefusesGrease_1.fv l0 a1_0 l1_1 l1_2 a1_3 = (slices_IndexFunc_int_int_with_impl_RefusesGrease_1.fv l0 a1_0 l1_1 l1_2 a1_3).bind fun t330 => (some (decide (t330 ≥ 0))) := by
  refine Is.lim (g := fun k => slices_ContainsFunc_int_int_with_impl_RefusesGrease_1.f k l0 a1_0 l1_1 l1_2 a1_3) ?_
  · unfold slices_ContainsFunc_int_int_with_impl_RefusesGrease_1.f
    repeat' first
    | with_reducible exact slices_IndexFunc_int_int_with_impl_RefusesGrease_1.f_is _ _ _ _ _
    | with_reducible exact Is.now _
    | with_reducible refine Is.ite ?_ ?_
    | with_reducible refine Is.bind ?_ (fun _ => ?_)
noncomputable def impl_RefusesGrease.fv (a0_0 : Int) (l0_1 : List Int) (l0_2 : List Int) (a0_3 : Bool) : Option (Bool) := Lim fun k => impl_RefusesGrease.f k a0_0 l0_1 l0_2 a0_3
theorem impl_RefusesGrease.f_is (a0_0 : Int) (l0_1 : List Int) (l0_2 : List Int) (a0_3 : Bool) : Is (fun k => impl_RefusesGrease.f k a0_0 l0_1 l0_2 a0_3) (impl_RefusesGrease.fv a0_0 l0_1 l0_2 a0_3) := ⟨fun k => impl_RefusesGrease.mono a0_0 l0_1 l0_2 a0_3 k, rfl⟩
theorem impl_RefusesGrease.fv_eq (a0_0 : Int) (l0_1 : List Int) (l0_2 : List Int) (a0_3 : Bool) : impl_RefusesGrease.fv a0_0 l0_1 l0_2 a0_3 = (impl_IsBox.fv a0_0 l0_1 l0_2 a0_3).bind fun t332 => (if t332 = true then ((impl_reservedTags.fv).bind fun t333 => ((slices_ContainsFunc_int_int_with_impl_RefusesGrease_1.fv t333 a0_0 l0_1 l0_2 a0_3).bind fun t336 => (some t336))) else (some false)) := by
  refine Is.lim (g := fun k => impl_RefusesGrease.f k a0_0 l0_1 l0_2 a0_3) ?_
  · unfold impl_RefusesGrease.f
    repeat' first
    | with_reducible exact impl_IsBox.f_is _ _ _ _
    | with_reducible exact impl_reservedTags.f_is 
    | with_reducible exact slices_ContainsFunc_int_int_with_impl_RefusesGrease_1.f_is _ _ _ _ _
    | with_reducible exact Is.now _
    | with_reducible refine Is.ite ?_ ?_
    | with_reducible refine Is.bind ?_ (fun _ => ?_)
noncomputable def impl_HardenedBoxes.l0v (x3 : List Int) (x7 : List (S67)) (x8 : Int) (x9 : Int) : Option (List Int) := Lim fun k => impl_HardenedBoxes.l0 k x3 x7 x8 x9
noncomputable def impl_HardenedBoxes.fv (l0 : List (S67)) : Option (List Int) := Lim fun k => impl_HardenedBoxes.f k l0
theorem impl_HardenedBoxes.l0_is (x3 : List Int) (x7 : List (S67)) (x8 : Int) (x9 : Int) : Is (fun k => impl_HardenedBoxes.l0 k x3 x7 x8 x9) (impl_HardenedBoxes.l0v x3 x7 x8 x9) := ⟨fun k => (impl_HardenedBoxes.mono_l k) x3 x7 x8 x9, rfl⟩
theorem impl_HardenedBoxes.f_is (l0 : List (S67)) : Is (fun k => impl_HardenedBoxes.f k l0) (impl_HardenedBoxes.fv l0) := ⟨fun k => impl_HardenedBoxes.mono l0 k, rfl⟩
theorem impl_HardenedBoxes.l0v_eq (x3 : List Int) (x7 : List (S67)) (x8 : Int) (x9 : Int) : impl_HardenedBoxes.l0v x3 x7 x8 x9 = if x9 < x8 then (if 0 ≤ x9 then (if x9 < (x7.length : Int) then ((impl_RefusesGrease.fv ((rd_T67 x7 x9).f0) ((rd_T67 x7 x9).f1) ((rd_T67 x7 x9).f2) ((rd_T67 x7 x9).f3)).bind fun t342 => (if t342 = true then (if x3.length < 17592186044416 then (impl_HardenedBoxes.l0v (x3 ++ [x9]) x7 x8 (wrap64 (x9 + 1))) else (none)) else (impl_HardenedBoxes.l0v x3 x7 x8 (wrap64 (x9 + 1))))) else (none)) else (none)) else (some x3) := by
  refine Is.step (impl_HardenedBoxes.l0_is x3 x7 x8 x9).mo (fun k => by rw [impl_HardenedBoxes.l0]) ?_
  · skip
    repeat' first
    | with_reducible exact impl_HardenedBoxes.l0_is _ _ _ _
    | with_reducible exact impl_RefusesGrease.f_is _ _ _ _
    | with_reducible exact Is.now _
    | with_reducible refine Is.ite ?_ ?_
    | with_reducible refine Is.bind ?_ (fun _ => ?_)
theorem impl_HardenedBoxes.fv_eq (l0 : List (S67)) : impl_HardenedBoxes.fv l0 = impl_HardenedBoxes.l0v (([] : List Int)) l0 (l0.length : Int) 0 := by
  refine Is.lim (g := fun k => impl_HardenedBoxes.f k l0) ?_
  · unfold impl_HardenedBoxes.f
    repeat' first
    | with_reducible exact impl_HardenedBoxes.l0_is _ _ _ _
    | with_reducible exact Is.now _
    | with_reducible refine Is.ite ?_ ?_
    | with_reducible refine Is.bind ?_ (fun _ => ?_)
end Go.Proofs.Ytdoefkloanpliaa.Print

/- PassBox, of the program. Condition: at most 10 to the 12 of each. -/
set_option linter.unusedSimpArgs false
set_option linter.unusedVariables false
namespace Go.Proofs.Ytdoefkloanpliaa.Plain
open Go.RowKit Go.Proofs.YtdoefkloanpliaaW.PrintWords Go.Proofs.Ytdoefkloanpliaa.Base Go.Proofs.Ytdoefkloanpliaa.Print

theorem slMax_l0 (suf : List Int) : ∀ (pre : List Int) (m : Int), (pre ++ suf).length ≤ 1000000000000 → vers m suf = true → slices_Max_int_int.l0v (pre ++ suf) m (pre.length : Int) = some (suf.getLastD m) := by
  induction suf with
  | nil =>
    intro pre m _ _
    rw [slices_Max_int_int.l0v_eq, if_neg (nlt_end pre)]
    rfl
  | cons x suf ih =>
    intro pre m hl hv
    have hn : pre.length < (pre ++ x :: suf).length := by simp
    simp only [vers, Bool.and_eq_true, decide_eq_true_eq] at hv
    have hm : mx m x = x := by
      unfold mx
      split <;> omega
    rw [slices_Max_int_int.l0v_eq, if_pos (lt_mid pre suf x), if_pos (by omega), rd_mid, up_mid pre x hn hl, hm]
    rw [mid_snoc pre suf x] at hl ⊢
    rw [ih (pre ++ [x]) x hl hv.2.2, lastD_cons]
theorem slMax_v (l : List Int) (hl : l.length ≤ 1000000000000) (h : areV l = true) : slices_Max_int_int.fv l = some (l.getLastD 0) := by
  cases l with
  | nil => simp [areV] at h
  | cons x l =>
    simp only [areV, vers, Bool.and_eq_true] at h
    have h1 := slMax_l0 l [x] x (by simpa using hl) h.1.2.2
    have h0 : rd (x :: l) 0 = x := by simp [rd]
    rw [slices_Max_int_int.fv_eq, if_neg (by simp only [List.length_cons]; omega), if_pos (by simp only [List.length_cons]; omega), h0, lastD_cons]
    simpa using h1
theorem slClone_f (l : List Int) (hl : l.length ≤ 1000000000000) : slices_Clone_int_int.f l = some l := by
  unfold slices_Clone_int_int.f
  simp only [Option.bind_some, List.nil_append, List.length_nil, Nat.zero_add]
  rw [if_pos (by omega)]
theorem implLose1_v (b : S67) (t : Int) (l : List Int) (h : okB b) : impl_loses_1.fv t l b.f0 b.f1 b.f2 b.f3 = some (drops b t) := by
  rw [impl_loses_1.fv_eq, slHas_v _ _ h.1, slHas_v _ _ h.2, inRange_f]
  simp only [Option.bind_some, drops]
  generalize mem b.f1 t = x
  generalize mem b.f2 t = y
  generalize inR 1 3 t = z
  generalize b.f3 = u
  cases x <;> cases y <;> cases z <;> cases u <;> rfl
theorem implLose_l0 (b : S67) (h : okB b) (suf : List S114) : ∀ (pre : List S114), (pre ++ suf).length ≤ 1000000000000 →
    ∃ r, slices_IndexFunc_impl_Ext_impl_Ext_with_impl_loses_1.l0v (pre ++ suf) ((pre ++ suf).length : Int) (pre.length : Int) b.f0 b.f1 b.f2 b.f3 = some r ∧ decide (r ≥ 0) = suf.any (fun x => drops b x.f0) := by
  induction suf with
  | nil =>
    intro pre _
    refine ⟨-1, ?_, by simp⟩
    rw [slices_IndexFunc_impl_Ext_impl_Ext_with_impl_loses_1.l0v_eq, if_neg (nlt_end pre)]
  | cons x suf ih =>
    intro pre hl
    have hn : pre.length < (pre ++ x :: suf).length := by simp
    rw [slices_IndexFunc_impl_Ext_impl_Ext_with_impl_loses_1.l0v_eq, if_pos (lt_mid pre suf x), if_pos (by omega), if_pos (lt_mid pre suf x), rdExt_mid, implLose1_v b _ _ h]
    simp only [Option.bind_some, List.any_cons]
    cases hx : drops b x.f0 with
    | true =>
      rw [if_pos rfl]
      exact ⟨(pre.length : Int), rfl, by simp⟩
    | false =>
      rw [if_neg (by simp), up_mid pre x hn hl]
      rw [mid_snoc pre suf x] at hl ⊢
      obtain ⟨r, h1, h2⟩ := ih (pre ++ [x]) hl
      exact ⟨r, h1, by rw [h2]; rfl⟩
theorem implLoseX_v (b : S67) (h : okB b) (l : List S114) (hl : l.length ≤ 1000000000000) : slices_ContainsFunc_impl_Ext_impl_Ext_with_impl_loses_1.fv l b.f0 b.f1 b.f2 b.f3 = some (l.any (fun x => drops b x.f0)) := by
  obtain ⟨r, h1, h2⟩ := implLose_l0 b h l [] (by simpa using hl)
  rw [slices_ContainsFunc_impl_Ext_impl_Ext_with_impl_loses_1.fv_eq, slices_IndexFunc_impl_Ext_impl_Ext_with_impl_loses_1.fv_eq]
  simp only [List.nil_append, List.length_nil, Int.natCast_zero] at h1
  rw [h1]
  simp only [Option.bind_some, h2]
theorem implLose_v (b : S67) (v : List Int) (l : List S114) (h : okB b) (hv : v.length ≤ 1000000000000) (hl : l.length ≤ 1000000000000) (ha : areV v = true) : impl_loses.fv b.f0 b.f1 b.f2 b.f3 v l = some (lose b v l) := by
  rw [impl_loses.fv_eq, implLoseX_v b h l hl, slMax_v v hv ha]
  simp only [Option.bind_some, lose]
  by_cases h0 : b.f0 = 0
  · simp [h0]
  · by_cases h1 : v.getLastD 0 > b.f0
    · rw [if_neg h0, if_pos h1]
      simp only [h0, h1, decide_true, decide_false, Bool.not_false, Bool.and_self, Bool.true_or]
    · rw [if_neg h0, if_neg h1]
      simp only [h1, decide_false, Bool.and_false, Bool.false_or]
theorem implKept_l0 (b : S67) (h : okB b) (suf : List S114) : ∀ (pre out : List S114), (pre ++ suf).length ≤ 1000000000000 → out.length ≤ pre.length → okXs suf →
    impl_keptExts_with_impl_PassBox_1.l0v out (pre ++ suf) ((pre ++ suf).length : Int) (pre.length : Int) b.f0 b.f1 b.f2 b.f3 = some (out ++ kept b suf) := by
  induction suf with
  | nil =>
    intro pre out _ _ _
    rw [impl_keptExts_with_impl_PassBox_1.l0v_eq, if_neg (nlt_end pre)]
    simp [kept]
  | cons x suf ih =>
    intro pre out hl ho hs
    have hn : pre.length < (pre ++ x :: suf).length := by simp
    have hp : pre.length < 1000000000000 := by omega
    have hx := hs x List.mem_cons_self
    have hs' : okXs suf := fun y hy => hs y (List.mem_cons_of_mem _ hy)
    rw [impl_keptExts_with_impl_PassBox_1.l0v_eq, if_pos (lt_mid pre suf x), if_pos (by omega), if_pos (lt_mid pre suf x), rdExt_mid, impl_PassBox_1.fv_eq, slHas_v _ _ h.2, up_mid pre x hn hl]
    simp only [Option.bind_some, List.nil_append, List.length_nil, Nat.zero_add]
    rw [mid_snoc pre suf x] at hl ⊢
    cases hm : mem b.f2 x.f0 with
    | true =>
      rw [if_neg (by simp), ih (pre ++ [x]) out hl (by simp; omega) hs']
      simp [kept, hm]
    | false =>
      rw [if_pos (show (!false) = true from rfl), if_pos (by omega), if_pos (by omega), ih (pre ++ [x]) _ hl (by simp; omega) hs']
      simp [kept, hm]
theorem implKept_v (b : S67) (h : okB b) (l : List S114) (hl : l.length ≤ 1000000000000) (hs : okXs l) : impl_keptExts_with_impl_PassBox_1.fv l b.f0 b.f1 b.f2 b.f3 = some (kept b l) := by
  rw [impl_keptExts_with_impl_PassBox_1.fv_eq]
  simpa using implKept_l0 b h l [] [] (by simpa using hl) (by simp) hs
theorem implPass_v (b : S67) (v : List Int) (l : List S114) (h : okB b) (hv : v.length ≤ 1000000000000) (hl : l.length ≤ 1000000000000) (hs : okXs l) : impl_PassBox.fv b.f0 b.f1 b.f2 b.f3 v l = some (pass b v l) := by
  rw [impl_PassBox.fv_eq, implIsB_v b h, implHello_v v l hv hl hs]
  simp only [Option.bind_some, impl_PassBox.j0v_eq, slClone_f v hv, implKept_v b h l hl hs, pass]
  cases isB b with
  | false => simp
  | true =>
    cases hh : isH v l with
    | false => simp
    | true =>
      have ha : areV v = true := by
        simp only [isH, Bool.and_eq_true] at hh
        exact hh.1
      rw [if_pos rfl, if_pos rfl, implLose_v b v l h hv hl ha]
      simp only [Option.bind_some]
      cases lose b v l <;> simp
end Go.Proofs.Ytdoefkloanpliaa.Plain

/- reservedTags and RefusesGrease, of the program. Condition: at most 10 to the 12 of each. -/
set_option linter.unusedSimpArgs false
set_option linter.unusedVariables false
namespace Go.Proofs.Ytdoefkloanpliaa.Plain
open Go.RowKit Go.Proofs.YtdoefkloanpliaaW.PrintWords Go.Proofs.Ytdoefkloanpliaa.Base Go.Proofs.Ytdoefkloanpliaa.Print

theorem resTags_l0 (m : Nat) : ∀ (n : Nat) (out : List Int), n + m = 16 → out.length = n → impl_reservedTags.l0v out (10 + 16 * (n : Int)) = some (out ++ greases n m) := by
  induction m with
  | zero =>
    intro n out hn _
    rw [impl_reservedTags.l0v_eq, if_neg (by omega)]
    simp [greases]
  | succ m ih =>
    intro n out hn ho
    rw [impl_reservedTags.l0v_eq, if_pos (by omega), if_pos (by omega), w64 (by omega) (by omega), show 10 + 16 * (n : Int) + 16 = 10 + 16 * ((n + 1 : Nat) : Int) by omega, ih (n + 1) _ (by omega) (by simp [ho])]
    simp [greases]
theorem resTags_v : impl_reservedTags.fv = some (greases 0 16) := by
  rw [impl_reservedTags.fv_eq]
  simpa using resTags_l0 16 0 [] rfl rfl
theorem implRefuse1_v (b : S67) (t : Int) (h : okB b) : impl_RefusesGrease_1.fv t b.f0 b.f1 b.f2 b.f3 = some (refuse b t) := by
  have hx : okXs [one t] := fun x hx => by
    rw [List.mem_singleton.1 hx]
    simp [one]
  rw [impl_RefusesGrease_1.fv_eq, show (⟨t, []⟩ : S114) = one t from rfl, implPass_v b [1] [one t] h (by simp) (by simp) hx]
  simp only [Option.bind_some, refuse]
  generalize pass b [1] [one t] = r
  obtain ⟨p, q, o⟩ := r
  have e : (((q.length : Nat) : Int) == 0) = decide (q.length = 0) := by
    by_cases hq : q.length = 0
    · simp [hq]
    · have : ¬ (q.length : Int) = 0 := by omega
      simp only [hq, decide_false, beq_eq_false_iff_ne, ne_eq]
      exact this
  cases o <;> simp [e]
theorem implRefuse_l0 (b : S67) (h : okB b) (suf : List Int) : ∀ (pre : List Int), (pre ++ suf).length ≤ 1000000000000 →
    ∃ r, slices_IndexFunc_int_int_with_impl_RefusesGrease_1.l0v (pre ++ suf) ((pre ++ suf).length : Int) (pre.length : Int) b.f0 b.f1 b.f2 b.f3 = some r ∧ decide (r ≥ 0) = suf.any (refuse b) := by
  induction suf with
  | nil =>
    intro pre _
    refine ⟨-1, ?_, by simp⟩
    rw [slices_IndexFunc_int_int_with_impl_RefusesGrease_1.l0v_eq, if_neg (nlt_end pre)]
  | cons x suf ih =>
    intro pre hl
    have hn : pre.length < (pre ++ x :: suf).length := by simp
    rw [slices_IndexFunc_int_int_with_impl_RefusesGrease_1.l0v_eq, if_pos (lt_mid pre suf x), if_pos (by omega), if_pos (lt_mid pre suf x), rd_mid, implRefuse1_v b _ h]
    simp only [Option.bind_some, List.any_cons]
    cases hx : refuse b x with
    | true =>
      rw [if_pos rfl]
      exact ⟨(pre.length : Int), rfl, by simp⟩
    | false =>
      rw [if_neg (by simp), up_mid pre x hn hl]
      rw [mid_snoc pre suf x] at hl ⊢
      obtain ⟨r, h1, h2⟩ := ih (pre ++ [x]) hl
      exact ⟨r, h1, by rw [h2]; rfl⟩
theorem implRefuses_v (b : S67) (h : okB b) : impl_RefusesGrease.fv b.f0 b.f1 b.f2 b.f3 = some (refuses b) := by
  obtain ⟨r, h1, h2⟩ := implRefuse_l0 b h (greases 0 16) [] (by decide)
  simp only [List.nil_append, List.length_nil, Int.natCast_zero] at h1
  rw [impl_RefusesGrease.fv_eq, implIsB_v b h, resTags_v]
  simp only [Option.bind_some, slices_ContainsFunc_int_int_with_impl_RefusesGrease_1.fv_eq, slices_IndexFunc_int_int_with_impl_RefusesGrease_1.fv_eq, h1, h2, refuses]
  cases isB b <;> simp
end Go.Proofs.Ytdoefkloanpliaa.Plain

/- HardenedBoxes, of the program. Condition: at most 10 to the 12 of each. -/
set_option linter.unusedSimpArgs false
set_option linter.unusedVariables false
namespace Go.Proofs.Ytdoefkloanpliaa.Plain
open Go.RowKit Go.Proofs.YtdoefkloanpliaaW.PrintWords Go.Proofs.Ytdoefkloanpliaa.Base Go.Proofs.Ytdoefkloanpliaa.Print

theorem implBoxes_l0 (suf : List S67) : ∀ (pre : List S67) (out : List Int), (pre ++ suf).length ≤ 1000000000000 → (∀ x ∈ suf, okB x) → out.length ≤ pre.length →
    impl_HardenedBoxes.l0v out (pre ++ suf) ((pre ++ suf).length : Int) (pre.length : Int) = some (out ++ hards (pre.length : Int) suf) := by
  induction suf with
  | nil =>
    intro pre out _ _ _
    rw [impl_HardenedBoxes.l0v_eq, if_neg (nlt_end pre)]
    simp [hards]
  | cons b suf ih =>
    intro pre out hl hs ho
    have hn : pre.length < (pre ++ b :: suf).length := by simp
    have hq : pre.length < 1000000000000 := by omega
    have e1 : ((pre ++ [b]).length : Int) = (pre.length : Int) + 1 := by simp
    have hs' : ∀ x ∈ suf, okB x := fun y hy => hs y (List.mem_cons_of_mem _ hy)
    rw [impl_HardenedBoxes.l0v_eq, if_pos (lt_mid pre suf b), if_pos (by omega), if_pos (lt_mid pre suf b), rdBox_mid, implRefuses_v b (hs b List.mem_cons_self), up_mid pre b hn hl]
    simp only [Option.bind_some, hards]
    rw [mid_snoc pre suf b] at hl ⊢
    cases refuses b with
    | true =>
      rw [if_pos rfl, if_pos (by omega), ih (pre ++ [b]) _ hl hs' (by simp; omega), e1]
      simp
    | false =>
      rw [if_neg (by simp), ih (pre ++ [b]) out hl hs' (by simp; omega), e1]
      simp
theorem implBoxes_v (p : List S67) (hp : p.length ≤ 1000000000000) (hs : ∀ x ∈ p, okB x) : impl_HardenedBoxes.fv p = some (hards 0 p) := by
  rw [impl_HardenedBoxes.fv_eq]
  simpa using implBoxes_l0 p [] [] (by simpa using hp) hs (by simp)
end Go.Proofs.Ytdoefkloanpliaa.Plain

/- Written by a program of this session (limx.py): the equations of what the printed functions come to. No condition. -/
namespace Go.Proofs.Ytdoefkloanpliaa.Print
open Go.RowKit Go.Proofs.YtdoefkloanpliaaW.PrintWords Go.Proofs.YtdoefkloanpliaaW.PrintLast Go.Proofs.Ytdoefkloanpliaa.Base
set_option linter.unusedVariables false
set_option maxRecDepth 20000
noncomputable def laws_eqIntS.l0v (x0 : List Int) (x1 : List Int) (x5 : Int) : Option (Bool) := Lim fun k => laws_eqIntS.l0 k x0 x1 x5
noncomputable def laws_eqIntS.fv (l0 : List Int) (l1 : List Int) : Option (Bool) := Lim fun k => laws_eqIntS.f k l0 l1
theorem laws_eqIntS.l0_is (x0 : List Int) (x1 : List Int) (x5 : Int) : Is (fun k => laws_eqIntS.l0 k x0 x1 x5) (laws_eqIntS.l0v x0 x1 x5) := ⟨fun k => (laws_eqIntS.mono_l k) x0 x1 x5, rfl⟩
theorem laws_eqIntS.f_is (l0 : List Int) (l1 : List Int) : Is (fun k => laws_eqIntS.f k l0 l1) (laws_eqIntS.fv l0 l1) := ⟨fun k => laws_eqIntS.mono l0 l1 k, rfl⟩
theorem laws_eqIntS.l0v_eq (x0 : List Int) (x1 : List Int) (x5 : Int) : laws_eqIntS.l0v x0 x1 x5 = if x5 < (x0.length : Int) then (if 0 ≤ x5 then (if x5 < (x1.length : Int) then (if (rd x0 x5) = (rd x1 x5) then (laws_eqIntS.l0v x0 x1 (wrap64 (x5 + 1))) else (some false)) else (none)) else (none)) else (some true) := by
  refine Is.step (laws_eqIntS.l0_is x0 x1 x5).mo (fun k => by rw [laws_eqIntS.l0]) ?_
  · skip
    repeat' first
    | with_reducible exact laws_eqIntS.l0_is _ _ _
    | with_reducible exact Is.now _
    | with_reducible refine Is.ite ?_ ?_
    | with_reducible refine Is.bind ?_ (fun _ => ?_)
theorem laws_eqIntS.fv_eq (l0 : List Int) (l1 : List Int) : laws_eqIntS.fv l0 l1 = if (l0.length : Int) = (l1.length : Int) then (laws_eqIntS.l0v l0 l1 0) else (some false) := by
  refine Is.lim (g := fun k => laws_eqIntS.f k l0 l1) ?_
  · unfold laws_eqIntS.f
    repeat' first
    | with_reducible exact laws_eqIntS.l0_is _ _ _
    | with_reducible exact Is.now _
    | with_reducible refine Is.ite ?_ ?_
    | with_reducible refine Is.bind ?_ (fun _ => ?_)
noncomputable def laws_markIntS.l0v (x0 : List Int) (x1 : Int) (x5 : Int) : Option (Int × List Int) := Lim fun k => laws_markIntS.l0 k x0 x1 x5
noncomputable def laws_markIntS.fv (l0 : List Int) (a1 : Int) : Option (Int × List Int) := Lim fun k => laws_markIntS.f k l0 a1
theorem laws_markIntS.l0_is (x0 : List Int) (x1 : Int) (x5 : Int) : Is (fun k => laws_markIntS.l0 k x0 x1 x5) (laws_markIntS.l0v x0 x1 x5) := ⟨fun k => (laws_markIntS.mono_l k) x0 x1 x5, rfl⟩
theorem laws_markIntS.f_is (l0 : List Int) (a1 : Int) : Is (fun k => laws_markIntS.f k l0 a1) (laws_markIntS.fv l0 a1) := ⟨fun k => laws_markIntS.mono l0 a1 k, rfl⟩
theorem laws_markIntS.l0v_eq (x0 : List Int) (x1 : Int) (x5 : Int) : laws_markIntS.l0v x0 x1 x5 = if x5 < (x0.length : Int) then (if 0 ≤ x5 then (laws_markIntS.l0v (x0.set (x5 : Int).toNat x1) (wrap64 (x1 + 1)) (wrap64 (x5 + 1))) else (none)) else (some (x1, x0)) := by
  refine Is.step (laws_markIntS.l0_is x0 x1 x5).mo (fun k => by rw [laws_markIntS.l0]) ?_
  · skip
    repeat' first
    | with_reducible exact laws_markIntS.l0_is _ _ _
    | with_reducible exact Is.now _
    | with_reducible refine Is.ite ?_ ?_
    | with_reducible refine Is.bind ?_ (fun _ => ?_)
theorem laws_markIntS.fv_eq (l0 : List Int) (a1 : Int) : laws_markIntS.fv l0 a1 = laws_markIntS.l0v l0 a1 0 := by
  refine Is.lim (g := fun k => laws_markIntS.f k l0 a1) ?_
  · unfold laws_markIntS.f
    repeat' first
    | with_reducible exact laws_markIntS.l0_is _ _ _
    | with_reducible exact Is.now _
    | with_reducible refine Is.ite ?_ ?_
    | with_reducible refine Is.bind ?_ (fun _ => ?_)
noncomputable def laws_heldIntS.l0v (x0 : List Int) (x1 : Int) (x5 : Int) : Option (Int) := Lim fun k => laws_heldIntS.l0 k x0 x1 x5
noncomputable def laws_heldIntS.fv (l0 : List Int) (a1 : Int) : Option (Int) := Lim fun k => laws_heldIntS.f k l0 a1
theorem laws_heldIntS.l0_is (x0 : List Int) (x1 : Int) (x5 : Int) : Is (fun k => laws_heldIntS.l0 k x0 x1 x5) (laws_heldIntS.l0v x0 x1 x5) := ⟨fun k => (laws_heldIntS.mono_l k) x0 x1 x5, rfl⟩
theorem laws_heldIntS.f_is (l0 : List Int) (a1 : Int) : Is (fun k => laws_heldIntS.f k l0 a1) (laws_heldIntS.fv l0 a1) := ⟨fun k => laws_heldIntS.mono l0 a1 k, rfl⟩
theorem laws_heldIntS.l0v_eq (x0 : List Int) (x1 : Int) (x5 : Int) : laws_heldIntS.l0v x0 x1 x5 = if x5 < (x0.length : Int) then (if 0 ≤ x5 then (if (rd x0 x5) = x1 then (laws_heldIntS.l0v x0 (wrap64 (x1 + 1)) (wrap64 (x5 + 1))) else (some (-1))) else (none)) else (some x1) := by
  refine Is.step (laws_heldIntS.l0_is x0 x1 x5).mo (fun k => by rw [laws_heldIntS.l0]) ?_
  · skip
    repeat' first
    | with_reducible exact laws_heldIntS.l0_is _ _ _
    | with_reducible exact Is.now _
    | with_reducible refine Is.ite ?_ ?_
    | with_reducible refine Is.bind ?_ (fun _ => ?_)
theorem laws_heldIntS.fv_eq (l0 : List Int) (a1 : Int) : laws_heldIntS.fv l0 a1 = laws_heldIntS.l0v l0 a1 0 := by
  refine Is.lim (g := fun k => laws_heldIntS.f k l0 a1) ?_
  · unfold laws_heldIntS.f
    repeat' first
    | with_reducible exact laws_heldIntS.l0_is _ _ _
    | with_reducible exact Is.now _
    | with_reducible refine Is.ite ?_ ?_
    | with_reducible refine Is.bind ?_ (fun _ => ?_)
noncomputable def laws_szBoxS.l0v (x0 : List (S64)) (x1 : Int) (x5 : Int) : Option (Int) := Lim fun k => laws_szBoxS.l0 k x0 x1 x5
noncomputable def laws_szBoxS.fv (l0 : List (S64)) (a1 : Int) : Option (Int) := Lim fun k => laws_szBoxS.f k l0 a1
theorem laws_szBoxS.l0_is (x0 : List (S64)) (x1 : Int) (x5 : Int) : Is (fun k => laws_szBoxS.l0 k x0 x1 x5) (laws_szBoxS.l0v x0 x1 x5) := ⟨fun k => (laws_szBoxS.mono_l k) x0 x1 x5, rfl⟩
theorem laws_szBoxS.f_is (l0 : List (S64)) (a1 : Int) : Is (fun k => laws_szBoxS.f k l0 a1) (laws_szBoxS.fv l0 a1) := ⟨fun k => laws_szBoxS.mono l0 a1 k, rfl⟩
theorem laws_szBoxS.l0v_eq (x0 : List (S64)) (x1 : Int) (x5 : Int) : laws_szBoxS.l0v x0 x1 x5 = if x5 < (x0.length : Int) then (if 0 ≤ x5 then ((laws_szBox.f ((rd_T64 x0 x5).f0) ((rd_T64 x0 x5).f1) ((rd_T64 x0 x5).f2) ((rd_T64 x0 x5).f3) x1).bind fun t109 => (if t109 < 0 then (some (-1)) else (laws_szBoxS.l0v x0 t109 (wrap64 (x5 + 1))))) else (none)) else (some x1) := by
  refine Is.step (laws_szBoxS.l0_is x0 x1 x5).mo (fun k => by rw [laws_szBoxS.l0]) ?_
  · skip
    repeat' first
    | with_reducible exact laws_szBoxS.l0_is _ _ _
    | with_reducible exact Is.now _
    | with_reducible refine Is.ite ?_ ?_
    | with_reducible refine Is.bind ?_ (fun _ => ?_)
theorem laws_szBoxS.fv_eq (l0 : List (S64)) (a1 : Int) : laws_szBoxS.fv l0 a1 = if (wrap64 (a1 - (l0.length : Int))) < 0 then (some (-1)) else (laws_szBoxS.l0v l0 (wrap64 (a1 - (l0.length : Int))) 0) := by
  refine Is.lim (g := fun k => laws_szBoxS.f k l0 a1) ?_
  · unfold laws_szBoxS.f
    repeat' first
    | with_reducible exact laws_szBoxS.l0_is _ _ _
    | with_reducible exact Is.now _
    | with_reducible refine Is.ite ?_ ?_
    | with_reducible refine Is.bind ?_ (fun _ => ?_)
noncomputable def spec_l9Byte.l0v (x0 : List Int) (x3 : Int) : Option (Bool) := Lim fun k => spec_l9Byte.l0 k x0 x3
noncomputable def spec_l9Byte.fv (l0 : List Int) : Option (Bool) := Lim fun k => spec_l9Byte.f k l0
theorem spec_l9Byte.l0_is (x0 : List Int) (x3 : Int) : Is (fun k => spec_l9Byte.l0 k x0 x3) (spec_l9Byte.l0v x0 x3) := ⟨fun k => (spec_l9Byte.mono_l k) x0 x3, rfl⟩
theorem spec_l9Byte.f_is (l0 : List Int) : Is (fun k => spec_l9Byte.f k l0) (spec_l9Byte.fv l0) := ⟨fun k => spec_l9Byte.mono l0 k, rfl⟩
theorem spec_l9Byte.l0v_eq (x0 : List Int) (x3 : Int) : spec_l9Byte.l0v x0 x3 = if x3 < (x0.length : Int) then (if 0 ≤ x3 then ((spec_l1In.f (rd x0 x3) 0 255).bind fun t111 => (if t111 = true then (spec_l9Byte.l0v x0 (wrap64 (x3 + 1))) else (some false))) else (none)) else (some true) := by
  refine Is.step (spec_l9Byte.l0_is x0 x3).mo (fun k => by rw [spec_l9Byte.l0]) ?_
  · skip
    repeat' first
    | with_reducible exact spec_l9Byte.l0_is _ _
    | with_reducible exact Is.now _
    | with_reducible refine Is.ite ?_ ?_
    | with_reducible refine Is.bind ?_ (fun _ => ?_)
theorem spec_l9Byte.fv_eq (l0 : List Int) : spec_l9Byte.fv l0 = spec_l9Byte.l0v l0 0 := by
  refine Is.lim (g := fun k => spec_l9Byte.f k l0) ?_
  · unfold spec_l9Byte.f
    repeat' first
    | with_reducible exact spec_l9Byte.l0_is _ _
    | with_reducible exact Is.now _
    | with_reducible refine Is.ite ?_ ?_
    | with_reducible refine Is.bind ?_ (fun _ => ?_)
noncomputable def spec_IsBox.fv (a0_0 : Int) (l0_1 : List Int) (l0_2 : List Int) (a0_3 : Bool) : Option (Bool) := Lim fun k => spec_IsBox.f k a0_0 l0_1 l0_2 a0_3
theorem spec_IsBox.f_is (a0_0 : Int) (l0_1 : List Int) (l0_2 : List Int) (a0_3 : Bool) : Is (fun k => spec_IsBox.f k a0_0 l0_1 l0_2 a0_3) (spec_IsBox.fv a0_0 l0_1 l0_2 a0_3) := ⟨fun k => spec_IsBox.mono a0_0 l0_1 l0_2 a0_3 k, rfl⟩
theorem spec_IsBox.fv_eq (a0_0 : Int) (l0_1 : List Int) (l0_2 : List Int) (a0_3 : Bool) : spec_IsBox.fv a0_0 l0_1 l0_2 a0_3 = (spec_l1In.f a0_0 0 9).bind fun t113 => (if t113 = true then (if (l0_1.length : Int) ≤ 6 then (if (l0_2.length : Int) ≤ 6 then ((spec_l9Byte.fv l0_1).bind fun t114 => (if t114 = true then ((spec_l9Byte.fv l0_2).bind fun t115 => (some t115)) else (some false))) else (some false)) else (some false)) else (some false)) := by
  refine Is.lim (g := fun k => spec_IsBox.f k a0_0 l0_1 l0_2 a0_3) ?_
  · unfold spec_IsBox.f
    repeat' first
    | with_reducible exact spec_l9Byte.f_is _
    | with_reducible exact Is.now _
    | with_reducible refine Is.ite ?_ ?_
    | with_reducible refine Is.bind ?_ (fun _ => ?_)
end Go.Proofs.Ytdoefkloanpliaa.Print

/- Written by a program of this session (limx.py): the equations of what the printed functions come to. No condition. -/
namespace Go.Proofs.Ytdoefkloanpliaa.Print
open Go.RowKit Go.Proofs.YtdoefkloanpliaaW.PrintWords Go.Proofs.YtdoefkloanpliaaW.PrintLast Go.Proofs.Ytdoefkloanpliaa.Base
set_option linter.unusedVariables false
set_option maxRecDepth 20000
noncomputable def spec_l9Has.l0v (x0 : List Int) (x1 : Int) (x5 : Int) : Option (Bool) := Lim fun k => spec_l9Has.l0 k x0 x1 x5
noncomputable def spec_l9Has.fv (l0 : List Int) (a1 : Int) : Option (Bool) := Lim fun k => spec_l9Has.f k l0 a1
theorem spec_l9Has.l0_is (x0 : List Int) (x1 : Int) (x5 : Int) : Is (fun k => spec_l9Has.l0 k x0 x1 x5) (spec_l9Has.l0v x0 x1 x5) := ⟨fun k => (spec_l9Has.mono_l k) x0 x1 x5, rfl⟩
theorem spec_l9Has.f_is (l0 : List Int) (a1 : Int) : Is (fun k => spec_l9Has.f k l0 a1) (spec_l9Has.fv l0 a1) := ⟨fun k => spec_l9Has.mono l0 a1 k, rfl⟩
theorem spec_l9Has.l0v_eq (x0 : List Int) (x1 : Int) (x5 : Int) : spec_l9Has.l0v x0 x1 x5 = if x5 < (x0.length : Int) then (if 0 ≤ x5 then (if (rd x0 x5) = x1 then (some true) else (spec_l9Has.l0v x0 x1 (wrap64 (x5 + 1)))) else (none)) else (some false) := by
  refine Is.step (spec_l9Has.l0_is x0 x1 x5).mo (fun k => by rw [spec_l9Has.l0]) ?_
  · skip
    repeat' first
    | with_reducible exact spec_l9Has.l0_is _ _ _
    | with_reducible exact Is.now _
    | with_reducible refine Is.ite ?_ ?_
    | with_reducible refine Is.bind ?_ (fun _ => ?_)
theorem spec_l9Has.fv_eq (l0 : List Int) (a1 : Int) : spec_l9Has.fv l0 a1 = spec_l9Has.l0v l0 a1 0 := by
  refine Is.lim (g := fun k => spec_l9Has.f k l0 a1) ?_
  · unfold spec_l9Has.f
    repeat' first
    | with_reducible exact spec_l9Has.l0_is _ _ _
    | with_reducible exact Is.now _
    | with_reducible refine Is.ite ?_ ?_
    | with_reducible refine Is.bind ?_ (fun _ => ?_)
noncomputable def spec_AreVersions.l0v (x0 : List Int) (x3 : Int) : Option (Bool) := Lim fun k => spec_AreVersions.l0 k x0 x3
noncomputable def spec_AreVersions.fv (l0 : List Int) : Option (Bool) := Lim fun k => spec_AreVersions.f k l0
theorem spec_AreVersions.l0_is (x0 : List Int) (x3 : Int) : Is (fun k => spec_AreVersions.l0 k x0 x3) (spec_AreVersions.l0v x0 x3) := ⟨fun k => (spec_AreVersions.mono_l k) x0 x3, rfl⟩
theorem spec_AreVersions.f_is (l0 : List Int) : Is (fun k => spec_AreVersions.f k l0) (spec_AreVersions.fv l0) := ⟨fun k => spec_AreVersions.mono l0 k, rfl⟩
theorem spec_AreVersions.l0v_eq (x0 : List Int) (x3 : Int) : spec_AreVersions.l0v x0 x3 = if x3 < (x0.length : Int) then (if 0 ≤ x3 then ((spec_l1In.f (rd x0 x3) 1 9).bind fun t128 => (if t128 = true then (if x3 > 0 then (if 0 ≤ (wrap64 (x3 - 1)) then (if (wrap64 (x3 - 1)) < (x0.length : Int) then (if (rd x0 (wrap64 (x3 - 1))) ≥ (rd x0 x3) then (some false) else (spec_AreVersions.l0v x0 (wrap64 (x3 + 1)))) else (none)) else (none)) else (spec_AreVersions.l0v x0 (wrap64 (x3 + 1)))) else (some false))) else (none)) else (some (decide ((x0.length : Int) > 0))) := by
  refine Is.step (spec_AreVersions.l0_is x0 x3).mo (fun k => by rw [spec_AreVersions.l0]) ?_
  · skip
    repeat' first
    | with_reducible exact spec_AreVersions.l0_is _ _
    | with_reducible exact Is.now _
    | with_reducible refine Is.ite ?_ ?_
    | with_reducible refine Is.bind ?_ (fun _ => ?_)
theorem spec_AreVersions.fv_eq (l0 : List Int) : spec_AreVersions.fv l0 = spec_AreVersions.l0v l0 0 := by
  refine Is.lim (g := fun k => spec_AreVersions.f k l0) ?_
  · unfold spec_AreVersions.f
    repeat' first
    | with_reducible exact spec_AreVersions.l0_is _ _
    | with_reducible exact Is.now _
    | with_reducible refine Is.ite ?_ ?_
    | with_reducible refine Is.bind ?_ (fun _ => ?_)
noncomputable def spec_ExtOf.l0v (x0 : List (S114)) (x1 : Int) (x5 : Int) : Option (Int) := Lim fun k => spec_ExtOf.l0 k x0 x1 x5
noncomputable def spec_ExtOf.fv (l0 : List (S114)) (a1 : Int) : Option (Int) := Lim fun k => spec_ExtOf.f k l0 a1
theorem spec_ExtOf.l0_is (x0 : List (S114)) (x1 : Int) (x5 : Int) : Is (fun k => spec_ExtOf.l0 k x0 x1 x5) (spec_ExtOf.l0v x0 x1 x5) := ⟨fun k => (spec_ExtOf.mono_l k) x0 x1 x5, rfl⟩
theorem spec_ExtOf.f_is (l0 : List (S114)) (a1 : Int) : Is (fun k => spec_ExtOf.f k l0 a1) (spec_ExtOf.fv l0 a1) := ⟨fun k => spec_ExtOf.mono l0 a1 k, rfl⟩
theorem spec_ExtOf.l0v_eq (x0 : List (S114)) (x1 : Int) (x5 : Int) : spec_ExtOf.l0v x0 x1 x5 = if x5 < (x0.length : Int) then (if 0 ≤ x5 then (if ((rd_T114 x0 x5).f0) = x1 then (some x5) else (spec_ExtOf.l0v x0 x1 (wrap64 (x5 + 1)))) else (none)) else (some (-1)) := by
  refine Is.step (spec_ExtOf.l0_is x0 x1 x5).mo (fun k => by rw [spec_ExtOf.l0]) ?_
  · skip
    repeat' first
    | with_reducible exact spec_ExtOf.l0_is _ _ _
    | with_reducible exact Is.now _
    | with_reducible refine Is.ite ?_ ?_
    | with_reducible refine Is.bind ?_ (fun _ => ?_)
theorem spec_ExtOf.fv_eq (l0 : List (S114)) (a1 : Int) : spec_ExtOf.fv l0 a1 = spec_ExtOf.l0v l0 a1 0 := by
  refine Is.lim (g := fun k => spec_ExtOf.f k l0 a1) ?_
  · unfold spec_ExtOf.f
    repeat' first
    | with_reducible exact spec_ExtOf.l0_is _ _ _
    | with_reducible exact Is.now _
    | with_reducible refine Is.ite ?_ ?_
    | with_reducible refine Is.bind ?_ (fun _ => ?_)
noncomputable def spec_AreExts.l0v (x0 : List (S114)) (x3 : Int) : Option (Bool) := Lim fun k => spec_AreExts.l0 k x0 x3
noncomputable def spec_AreExts.fv (l0 : List (S114)) : Option (Bool) := Lim fun k => spec_AreExts.f k l0
theorem spec_AreExts.l0_is (x0 : List (S114)) (x3 : Int) : Is (fun k => spec_AreExts.l0 k x0 x3) (spec_AreExts.l0v x0 x3) := ⟨fun k => (spec_AreExts.mono_l k) x0 x3, rfl⟩
theorem spec_AreExts.f_is (l0 : List (S114)) : Is (fun k => spec_AreExts.f k l0) (spec_AreExts.fv l0) := ⟨fun k => spec_AreExts.mono l0 k, rfl⟩
theorem spec_AreExts.l0v_eq (x0 : List (S114)) (x3 : Int) : spec_AreExts.l0v x0 x3 = if x3 < (x0.length : Int) then (if 0 ≤ x3 then ((spec_l1In.f ((rd_T114 x0 x3).f0) 0 255).bind fun t133 => (if t133 = true then (if (((rd_T114 x0 x3).f1).length : Int) > 4 then (some false) else ((spec_l9Byte.fv ((rd_T114 x0 x3).f1)).bind fun t136 => (if t136 = true then ((spec_ExtOf.fv x0 ((rd_T114 x0 x3).f0)).bind fun t138 => (if t138 < x3 then (some false) else (spec_AreExts.l0v x0 (wrap64 (x3 + 1))))) else (some false)))) else (some false))) else (none)) else (some (decide ((x0.length : Int) ≤ 6))) := by
  refine Is.step (spec_AreExts.l0_is x0 x3).mo (fun k => by rw [spec_AreExts.l0]) ?_
  · skip
    repeat' first
    | with_reducible exact spec_AreExts.l0_is _ _
    | with_reducible exact spec_ExtOf.f_is _ _
    | with_reducible exact spec_l9Byte.f_is _
    | with_reducible exact Is.now _
    | with_reducible refine Is.ite ?_ ?_
    | with_reducible refine Is.bind ?_ (fun _ => ?_)
theorem spec_AreExts.fv_eq (l0 : List (S114)) : spec_AreExts.fv l0 = spec_AreExts.l0v l0 0 := by
  refine Is.lim (g := fun k => spec_AreExts.f k l0) ?_
  · unfold spec_AreExts.f
    repeat' first
    | with_reducible exact spec_AreExts.l0_is _ _
    | with_reducible exact Is.now _
    | with_reducible refine Is.ite ?_ ?_
    | with_reducible refine Is.bind ?_ (fun _ => ?_)
noncomputable def spec_IsHello.fv (l0_0 : List Int) (l0_1 : List (S114)) : Option (Bool) := Lim fun k => spec_IsHello.f k l0_0 l0_1
theorem spec_IsHello.f_is (l0_0 : List Int) (l0_1 : List (S114)) : Is (fun k => spec_IsHello.f k l0_0 l0_1) (spec_IsHello.fv l0_0 l0_1) := ⟨fun k => spec_IsHello.mono l0_0 l0_1 k, rfl⟩
theorem spec_IsHello.fv_eq (l0_0 : List Int) (l0_1 : List (S114)) : spec_IsHello.fv l0_0 l0_1 = (spec_AreVersions.fv l0_0).bind fun t140 => (if t140 = true then ((spec_AreExts.fv l0_1).bind fun t141 => (some t141)) else (some false)) := by
  refine Is.lim (g := fun k => spec_IsHello.f k l0_0 l0_1) ?_
  · unfold spec_IsHello.f
    repeat' first
    | with_reducible exact spec_AreExts.f_is _
    | with_reducible exact spec_AreVersions.f_is _
    | with_reducible exact Is.now _
    | with_reducible refine Is.ite ?_ ?_
    | with_reducible refine Is.bind ?_ (fun _ => ?_)
end Go.Proofs.Ytdoefkloanpliaa.Print

/- AreVersions, of the reference. Condition: at most 10 to the 12 numbers. -/
set_option linter.unusedSimpArgs false
set_option linter.unusedVariables false
namespace Go.Proofs.Ytdoefkloanpliaa.Plain
open Go.RowKit Go.Proofs.YtdoefkloanpliaaW.PrintWords Go.Proofs.Ytdoefkloanpliaa.Base Go.Proofs.Ytdoefkloanpliaa.Print

theorem specVers_l0 (suf : List Int) : ∀ pre : List Int, (pre ++ suf).length ≤ 1000000000000 →
    spec_AreVersions.l0v (pre ++ suf) (pre.length : Int) = some (vers (pre.getLastD 0) suf && decide (0 < (pre ++ suf).length)) := by
  induction suf with
  | nil =>
    intro pre hl
    rw [spec_AreVersions.l0v_eq, if_neg (nlt_end pre)]
    by_cases h : 0 < pre.length <;> simp [vers, h]
  | cons x suf ih =>
    intro pre hl
    have hn : pre.length < (pre ++ x :: suf).length := by simp
    rw [spec_AreVersions.l0v_eq, if_pos (lt_mid pre suf x), if_pos (by omega), rd_mid, l1In_f]
    simp only [Option.bind_some, vers]
    cases hx : inR 1 9 x with
    | false => simp
    | true =>
      rw [if_pos rfl, up_mid pre x hn hl]
      have h1 := ih (pre ++ [x]) (by simpa using hl)
      rw [← mid_snoc pre suf x] at h1
      rw [h1]
      have hr := inR_true.mp hx
      by_cases hp : pre = []
      · subst hp
        rw [if_neg (by simp)]
        have h0 : (0 : Int) < x := by omega
        simp [h0]
      · have hpl : 0 < pre.length := List.length_pos_iff.mpr hp
        rw [if_pos (by omega), w64 (x := (pre.length : Int) - 1) (by omega) (by omega), if_pos (by omega), if_pos (by omega), rd_lastD pre _ hp]
        by_cases hlt : pre.getLastD 0 < x
        · rw [if_neg (by omega)]
          generalize pre.getLastD 0 = q at hlt
          simp [hlt]
        · rw [if_pos (by omega)]
          generalize pre.getLastD 0 = q at hlt
          simp [hlt]
theorem specVers_v (l : List Int) (hl : l.length ≤ 1000000000000) : spec_AreVersions.fv l = some (areV l) := by
  rw [spec_AreVersions.fv_eq]
  simpa [areV] using specVers_l0 l [] (by simpa using hl)
end Go.Proofs.Ytdoefkloanpliaa.Plain

/- Lists of bytes, of the reference. Condition: at most 10 to the 12 numbers. -/
set_option linter.unusedSimpArgs false
set_option linter.unusedVariables false
namespace Go.Proofs.Ytdoefkloanpliaa.Plain
open Go.RowKit Go.Proofs.YtdoefkloanpliaaW.PrintWords Go.Proofs.Ytdoefkloanpliaa.Base Go.Proofs.Ytdoefkloanpliaa.Print

theorem specByte_l0 (suf : List Int) : ∀ (pre : List Int), (pre ++ suf).length ≤ 1000000000000 → spec_l9Byte.l0v (pre ++ suf) (pre.length : Int) = some (suf.all (inR 0 255)) := by
  induction suf with
  | nil =>
    intro pre _
    rw [spec_l9Byte.l0v_eq, if_neg (nlt_end pre)]
    rfl
  | cons x suf ih =>
    intro pre hl
    have hn : pre.length < (pre ++ x :: suf).length := by simp
    rw [spec_l9Byte.l0v_eq, if_pos (lt_mid pre suf x), if_pos (by omega), rd_mid, l1In_f, up_mid pre x hn hl]
    simp only [Option.bind_some, List.all_cons]
    cases inR 0 255 x with
    | false => simp
    | true =>
      rw [if_pos rfl]
      rw [mid_snoc pre suf x] at hl ⊢
      rw [ih (pre ++ [x]) hl, Bool.true_and]
theorem specByte_v (l : List Int) (hl : l.length ≤ 1000000000000) : spec_l9Byte.fv l = some (l.all (inR 0 255)) := by
  rw [spec_l9Byte.fv_eq]
  simpa using specByte_l0 l [] (by simpa using hl)
end Go.Proofs.Ytdoefkloanpliaa.Plain

/- ExtOf, AreExts and IsHello, of the reference. Condition: at most 10 to the 12 of each. -/
set_option linter.unusedSimpArgs false
set_option linter.unusedVariables false
namespace Go.Proofs.Ytdoefkloanpliaa.Plain
open Go.RowKit Go.Proofs.YtdoefkloanpliaaW.PrintWords Go.Proofs.Ytdoefkloanpliaa.Base Go.Proofs.Ytdoefkloanpliaa.Print

/-- The first extension with a tag is behind these, or among them. -/
theorem specExtOf_l0 (t : Int) (n : Nat) (suf : List S114) : ∀ (pre : List S114), (pre ++ suf).length ≤ 1000000000000 → (∃ x, suf[n]? = some x ∧ x.f0 = t) →
    ∃ r, spec_ExtOf.l0v (pre ++ suf) t (pre.length : Int) = some r ∧ decide (r < ((pre.length + n : Nat) : Int)) = hasT (suf.take n) t := by
  induction n generalizing suf with
  | zero =>
    intro pre hl hx
    obtain ⟨x, hx, ht⟩ := hx
    cases suf with
    | nil => simp at hx
    | cons y suf =>
      obtain rfl : y = x := by simpa using hx
      rw [spec_ExtOf.l0v_eq, if_pos (lt_mid pre suf y), if_pos (by omega), rdExt_mid, if_pos ht]
      exact ⟨_, rfl, by simp [hasT]⟩
  | succ n ih =>
    intro pre hl hx
    cases suf with
    | nil =>
      obtain ⟨x, hx, _⟩ := hx
      simp at hx
    | cons y suf =>
      have hn : pre.length < (pre ++ y :: suf).length := by simp
      rw [spec_ExtOf.l0v_eq, if_pos (lt_mid pre suf y), if_pos (by omega), rdExt_mid]
      by_cases hy : y.f0 = t
      · rw [if_pos hy]
        refine ⟨_, rfl, ?_⟩
        simp only [List.take_succ_cons, hasT, List.any_cons, hy, decide_true, Bool.true_or, decide_eq_true_eq]
        omega
      · rw [if_neg hy, up_mid pre y hn hl]
        rw [mid_snoc pre suf y] at hl ⊢
        obtain ⟨r, h1, h2⟩ := ih suf (pre ++ [y]) hl (by simpa using hx)
        refine ⟨r, h1, ?_⟩
        simp only [List.length_append, List.length_cons, List.length_nil] at h2
        rw [show pre.length + (n + 1) = pre.length + (0 + 1) + n by omega, h2]
        simp [hasT, hy]
theorem specExtOf_ex (pre suf : List S114) (x : S114) (hl : (pre ++ x :: suf).length ≤ 1000000000000) : ∃ r, spec_ExtOf.fv (pre ++ x :: suf) x.f0 = some r ∧ decide (r < (pre.length : Int)) = hasT pre x.f0 := by
  obtain ⟨r, h1, h2⟩ := specExtOf_l0 x.f0 pre.length (pre ++ x :: suf) [] (by simpa using hl) ⟨x, by simp, rfl⟩
  refine ⟨r, ?_, ?_⟩
  · rw [spec_ExtOf.fv_eq]
    simpa using h1
  · simpa using h2
theorem specExts_l0 (suf : List S114) : ∀ (pre : List S114), (pre ++ suf).length ≤ 1000000000000 → okXs suf →
    spec_AreExts.l0v (pre ++ suf) (pre.length : Int) = some (areX pre suf && decide ((pre ++ suf).length ≤ 6)) := by
  induction suf with
  | nil =>
    intro pre _ _
    rw [spec_AreExts.l0v_eq, if_neg (nlt_end pre)]
    simp only [areX, Bool.true_and, show (((pre ++ []).length : Int) ≤ 6) ↔ ((pre ++ []).length ≤ 6) from by omega]
  | cons x suf ih =>
    intro pre hl hs
    have hn : pre.length < (pre ++ x :: suf).length := by simp
    obtain ⟨r, e1, e2⟩ := specExtOf_ex pre suf x hl
    have h1 := ih (pre ++ [x]) (by simpa using hl) (fun y hy => hs y (List.mem_cons_of_mem _ hy))
    rw [← mid_snoc pre suf x] at h1
    rw [spec_AreExts.l0v_eq, if_pos (lt_mid pre suf x), if_pos (by omega), rdExt_mid, l1In_f, e1, specByte_v _ (hs x List.mem_cons_self), up_mid pre x hn hl, h1]
    simp only [Option.bind_some, areX]
    rw [← e2]
    generalize areX (pre ++ [x]) suf = z
    generalize decide ((pre ++ x :: suf).length ≤ 6) = q
    generalize x.f1.all (inR 0 255) = y
    cases inR 0 255 x.f0 with
    | false => simp
    | true =>
      rw [if_pos rfl]
      by_cases h3 : x.f1.length ≤ 4
      · rw [if_neg (by omega)]
        by_cases h2 : r < (pre.length : Int) <;> cases y <;> simp [h2, h3]
      · rw [if_pos (by omega)]
        simp [h3]
theorem specExts_v (l : List S114) (hl : l.length ≤ 1000000000000) (hs : okXs l) : spec_AreExts.fv l = some (isX l) := by
  rw [spec_AreExts.fv_eq]
  simpa [isX] using specExts_l0 l [] (by simpa using hl) hs
theorem specHello_v (v : List Int) (l : List S114) (hv : v.length ≤ 1000000000000) (hl : l.length ≤ 1000000000000) (hs : okXs l) : spec_IsHello.fv v l = some (isH v l) := by
  rw [spec_IsHello.fv_eq, specVers_v v hv, specExts_v l hl hs]
  simp only [Option.bind_some, isH]
  cases areV v <;> simp
end Go.Proofs.Ytdoefkloanpliaa.Plain

/- IsBox, of the reference. Condition: at most 10 to the 12 of each. -/
set_option linter.unusedSimpArgs false
set_option linter.unusedVariables false
namespace Go.Proofs.Ytdoefkloanpliaa.Plain
open Go.RowKit Go.Proofs.YtdoefkloanpliaaW.PrintWords Go.Proofs.Ytdoefkloanpliaa.Base Go.Proofs.Ytdoefkloanpliaa.Print

theorem specIsB_v (b : S67) (h : okB b) : spec_IsBox.fv b.f0 b.f1 b.f2 b.f3 = some (isB b) := by
  rw [spec_IsBox.fv_eq, l1In_f, specByte_v _ h.1, specByte_v _ h.2]
  simp only [Option.bind_some, isB]
  simp only [show ((b.f1.length : Int) ≤ 6) ↔ (b.f1.length ≤ 6) from by omega, show ((b.f2.length : Int) ≤ 6) ↔ (b.f2.length ≤ 6) from by omega]
  generalize inR 0 9 b.f0 = x
  generalize b.f1.all (inR 0 255) = y
  generalize b.f2.all (inR 0 255) = z
  by_cases h1 : b.f1.length ≤ 6 <;> by_cases h2 : b.f2.length ≤ 6 <;> cases x <;> cases y <;> cases z <;> simp [h1, h2]
end Go.Proofs.Ytdoefkloanpliaa.Plain

/- Membership, of the reference. Condition: at most 10 to the 12 numbers. -/
set_option linter.unusedSimpArgs false
set_option linter.unusedVariables false
namespace Go.Proofs.Ytdoefkloanpliaa.Plain
open Go.RowKit Go.Proofs.YtdoefkloanpliaaW.PrintWords Go.Proofs.Ytdoefkloanpliaa.Base Go.Proofs.Ytdoefkloanpliaa.Print

theorem l9Has_l0 (x : Int) (suf : List Int) : ∀ (pre : List Int), (pre ++ suf).length ≤ 1000000000000 →
    spec_l9Has.l0v (pre ++ suf) x (pre.length : Int) = some (mem suf x) := by
  induction suf with
  | nil =>
    intro pre _
    rw [spec_l9Has.l0v_eq, if_neg (nlt_end pre)]
    simp [mem]
  | cons y suf ih =>
    intro pre hl
    have hn : pre.length < (pre ++ y :: suf).length := by simp
    rw [spec_l9Has.l0v_eq, if_pos (lt_mid pre suf y), if_pos (by omega), rd_mid, mem_cons]
    by_cases hxy : y = x
    · rw [if_pos hxy]
      simp [hxy]
    · rw [if_neg hxy, up_mid pre y hn hl]
      rw [mid_snoc pre suf y] at hl ⊢
      rw [ih (pre ++ [y]) hl]
      simp [hxy]
theorem l9Has_v (l : List Int) (x : Int) (hl : l.length ≤ 1000000000000) : spec_l9Has.fv l x = some (mem l x) := by
  rw [spec_l9Has.fv_eq]
  simpa using l9Has_l0 x l [] (by simpa using hl)
end Go.Proofs.Ytdoefkloanpliaa.Plain

/- Written by a program of this session (limx.py): the equations of what the printed functions come to. No condition. -/
namespace Go.Proofs.Ytdoefkloanpliaa.Print
open Go.RowKit Go.Proofs.YtdoefkloanpliaaW.PrintWords Go.Proofs.YtdoefkloanpliaaW.PrintLast Go.Proofs.Ytdoefkloanpliaa.Base
set_option linter.unusedVariables false
set_option maxRecDepth 20000
noncomputable def spec_PassBox.j0v (x35 : Bool) (x143000 : Int) (x143001 : List Int) (x143002 : List Int) (x143003 : Bool) (x144000 : List Int) (x144001 : List (S114)) : Option (List Int × (List (S114)) × Bool) := Lim fun k => spec_PassBox.j0 k x35 x143000 x143001 x143002 x143003 x144000 x144001
noncomputable def spec_PassBox.l0v (x7 : Int) (x143000 : Int) (x143001 : List Int) (x143002 : List Int) (x143003 : Bool) (x144000 : List Int) (x144001 : List (S114)) (x155000 : List Int) (x155001 : List (S114)) : Option (List Int × (List (S114)) × Bool) := Lim fun k => spec_PassBox.l0 k x7 x143000 x143001 x143002 x143003 x144000 x144001 x155000 x155001
noncomputable def spec_PassBox.j2v (x7 : Int) (x8 : Int) (x9 : Bool) (x75 : Bool) (x143000 : Int) (x143001 : List Int) (x143002 : List Int) (x143003 : Bool) (x144000 : List Int) (x144001 : List (S114)) (x155000 : List Int) (x155001 : List (S114)) : Option (List Int × (List (S114)) × Bool) := Lim fun k => spec_PassBox.j2 k x7 x8 x9 x75 x143000 x143001 x143002 x143003 x144000 x144001 x155000 x155001
noncomputable def spec_PassBox.fv (a0_0 : Int) (l0_1 : List Int) (l0_2 : List Int) (a0_3 : Bool) (l1_0 : List Int) (l1_1 : List (S114)) : Option (List Int × (List (S114)) × Bool) := Lim fun k => spec_PassBox.f k a0_0 l0_1 l0_2 a0_3 l1_0 l1_1
theorem spec_PassBox.j0_is (x35 : Bool) (x143000 : Int) (x143001 : List Int) (x143002 : List Int) (x143003 : Bool) (x144000 : List Int) (x144001 : List (S114)) : Is (fun k => spec_PassBox.j0 k x35 x143000 x143001 x143002 x143003 x144000 x144001) (spec_PassBox.j0v x35 x143000 x143001 x143002 x143003 x144000 x144001) := ⟨fun k => (spec_PassBox.mono_l k).1 x35 x143000 x143001 x143002 x143003 x144000 x144001, rfl⟩
theorem spec_PassBox.l0_is (x7 : Int) (x143000 : Int) (x143001 : List Int) (x143002 : List Int) (x143003 : Bool) (x144000 : List Int) (x144001 : List (S114)) (x155000 : List Int) (x155001 : List (S114)) : Is (fun k => spec_PassBox.l0 k x7 x143000 x143001 x143002 x143003 x144000 x144001 x155000 x155001) (spec_PassBox.l0v x7 x143000 x143001 x143002 x143003 x144000 x144001 x155000 x155001) := ⟨fun k => (spec_PassBox.mono_l k).2.1 x7 x143000 x143001 x143002 x143003 x144000 x144001 x155000 x155001, rfl⟩
theorem spec_PassBox.j2_is (x7 : Int) (x8 : Int) (x9 : Bool) (x75 : Bool) (x143000 : Int) (x143001 : List Int) (x143002 : List Int) (x143003 : Bool) (x144000 : List Int) (x144001 : List (S114)) (x155000 : List Int) (x155001 : List (S114)) : Is (fun k => spec_PassBox.j2 k x7 x8 x9 x75 x143000 x143001 x143002 x143003 x144000 x144001 x155000 x155001) (spec_PassBox.j2v x7 x8 x9 x75 x143000 x143001 x143002 x143003 x144000 x144001 x155000 x155001) := ⟨fun k => (spec_PassBox.mono_l k).2.2 x7 x8 x9 x75 x143000 x143001 x143002 x143003 x144000 x144001 x155000 x155001, rfl⟩
theorem spec_PassBox.f_is (a0_0 : Int) (l0_1 : List Int) (l0_2 : List Int) (a0_3 : Bool) (l1_0 : List Int) (l1_1 : List (S114)) : Is (fun k => spec_PassBox.f k a0_0 l0_1 l0_2 a0_3 l1_0 l1_1) (spec_PassBox.fv a0_0 l0_1 l0_2 a0_3 l1_0 l1_1) := ⟨fun k => spec_PassBox.mono a0_0 l0_1 l0_2 a0_3 l1_0 l1_1 k, rfl⟩
theorem spec_PassBox.j0v_eq (x35 : Bool) (x143000 : Int) (x143001 : List Int) (x143002 : List Int) (x143003 : Bool) (x144000 : List Int) (x144001 : List (S114)) : spec_PassBox.j0v x35 x143000 x143001 x143002 x143003 x144000 x144001 = if x35 = true then (some (([] : List Int), ([] : List (S114)), false)) else ((some (([] : List Int) : List Int)).bind fun y148 => (if y148.length + x144000.length < 17592186044416 then (spec_PassBox.l0v 0 x143000 x143001 x143002 x143003 x144000 x144001 (y148 ++ x144000) ([] : List (S114))) else (none))) := by
  refine Is.step (spec_PassBox.j0_is x35 x143000 x143001 x143002 x143003 x144000 x144001).mo (fun k => by rw [spec_PassBox.j0]) ?_
  · skip
    repeat' first
    | with_reducible exact spec_PassBox.l0_is _ _ _ _ _ _ _ _ _
    | with_reducible exact Is.now _
    | with_reducible refine Is.ite ?_ ?_
    | with_reducible refine Is.bind ?_ (fun _ => ?_)
theorem spec_PassBox.l0v_eq (x7 : Int) (x143000 : Int) (x143001 : List Int) (x143002 : List Int) (x143003 : Bool) (x144000 : List Int) (x144001 : List (S114)) (x155000 : List Int) (x155001 : List (S114)) : spec_PassBox.l0v x7 x143000 x143001 x143002 x143003 x144000 x144001 x155000 x155001 = if x7 < (x144001.length : Int) then (if 0 ≤ x7 then ((spec_l9Has.fv x143002 ((rd_T114 x144001 x7).f0)).bind fun t156 => ((spec_l9Has.fv x143001 ((rd_T114 x144001 x7).f0)).bind fun t157 => (if t157 = true then (spec_PassBox.j2v x7 ((rd_T114 x144001 x7).f0) t156 true x143000 x143001 x143002 x143003 x144000 x144001 x155000 x155001) else (if x143003 = true then (if t156 = true then (spec_PassBox.j2v x7 ((rd_T114 x144001 x7).f0) t156 false x143000 x143001 x143002 x143003 x144000 x144001 x155000 x155001) else ((spec_l1In.f ((rd_T114 x144001 x7).f0) 1 3).bind fun t158 => (spec_PassBox.j2v x7 ((rd_T114 x144001 x7).f0) t156 (!t158) x143000 x143001 x143002 x143003 x144000 x144001 x155000 x155001))) else (spec_PassBox.j2v x7 ((rd_T114 x144001 x7).f0) t156 false x143000 x143001 x143002 x143003 x144000 x144001 x155000 x155001))))) else (none)) else (some (x155000, x155001, true)) := by
  refine Is.step (spec_PassBox.l0_is x7 x143000 x143001 x143002 x143003 x144000 x144001 x155000 x155001).mo (fun k => by rw [spec_PassBox.l0]) ?_
  · skip
    repeat' first
    | with_reducible exact spec_PassBox.j2_is _ _ _ _ _ _ _ _ _ _ _ _
    | with_reducible exact spec_l9Has.f_is _ _
    | with_reducible exact Is.now _
    | with_reducible refine Is.ite ?_ ?_
    | with_reducible refine Is.bind ?_ (fun _ => ?_)
theorem spec_PassBox.j2v_eq (x7 : Int) (x8 : Int) (x9 : Bool) (x75 : Bool) (x143000 : Int) (x143001 : List Int) (x143002 : List Int) (x143003 : Bool) (x144000 : List Int) (x144001 : List (S114)) (x155000 : List Int) (x155001 : List (S114)) : spec_PassBox.j2v x7 x8 x9 x75 x143000 x143001 x143002 x143003 x144000 x144001 x155000 x155001 = if x75 = true then (some (([] : List Int), ([] : List (S114)), false)) else (if x9 = true then (spec_PassBox.l0v (wrap64 (x7 + 1)) x143000 x143001 x143002 x143003 x144000 x144001 x155000 x155001) else ((some (([] : List Int) : List Int)).bind fun y159 => (if 0 ≤ x7 then (if x7 < (x144001.length : Int) then (if y159.length + ((rd_T114 x144001 x7).f1).length < 17592186044416 then (if x155001.length < 4398046511104 then (spec_PassBox.l0v (wrap64 (x7 + 1)) x143000 x143001 x143002 x143003 x144000 x144001 x155000 (x155001 ++ [(⟨x8, (y159 ++ ((rd_T114 x144001 x7).f1))⟩ : S114)])) else (none)) else (none)) else (none)) else (none)))) := by
  refine Is.step (spec_PassBox.j2_is x7 x8 x9 x75 x143000 x143001 x143002 x143003 x144000 x144001 x155000 x155001).mo (fun k => by rw [spec_PassBox.j2]) ?_
  · skip
    repeat' first
    | with_reducible exact spec_PassBox.l0_is _ _ _ _ _ _ _ _ _
    | with_reducible exact Is.now _
    | with_reducible refine Is.ite ?_ ?_
    | with_reducible refine Is.bind ?_ (fun _ => ?_)
theorem spec_PassBox.fv_eq (a0_0 : Int) (l0_1 : List Int) (l0_2 : List Int) (a0_3 : Bool) (l1_0 : List Int) (l1_1 : List (S114)) : spec_PassBox.fv a0_0 l0_1 l0_2 a0_3 l1_0 l1_1 = (spec_IsBox.fv a0_0 l0_1 l0_2 a0_3).bind fun t145 => (if t145 = true then ((spec_IsHello.fv l1_0 l1_1).bind fun t146 => (if t146 = true then (if a0_0 > 0 then (if 0 ≤ (wrap64 ((l1_0.length : Int) - 1)) then (if (wrap64 ((l1_0.length : Int) - 1)) < (l1_0.length : Int) then (spec_PassBox.j0v (decide ((rd l1_0 (wrap64 ((l1_0.length : Int) - 1))) > a0_0)) a0_0 l0_1 l0_2 a0_3 l1_0 l1_1) else (none)) else (none)) else (spec_PassBox.j0v false a0_0 l0_1 l0_2 a0_3 l1_0 l1_1)) else (spec_PassBox.j0v true a0_0 l0_1 l0_2 a0_3 l1_0 l1_1))) else (spec_PassBox.j0v true a0_0 l0_1 l0_2 a0_3 l1_0 l1_1)) := by
  refine Is.lim (g := fun k => spec_PassBox.f k a0_0 l0_1 l0_2 a0_3 l1_0 l1_1) ?_
  · unfold spec_PassBox.f
    repeat' first
    | with_reducible exact spec_IsBox.f_is _ _ _ _
    | with_reducible exact spec_IsHello.f_is _ _
    | with_reducible exact spec_PassBox.j0_is _ _ _ _ _ _ _
    | with_reducible exact Is.now _
    | with_reducible refine Is.ite ?_ ?_
    | with_reducible refine Is.bind ?_ (fun _ => ?_)
end Go.Proofs.Ytdoefkloanpliaa.Print

/- PassBox, of the reference. Condition: at most 10 to the 12 of each. -/
set_option linter.unusedSimpArgs false
set_option linter.unusedVariables false
namespace Go.Proofs.Ytdoefkloanpliaa.Plain
open Go.RowKit Go.Proofs.YtdoefkloanpliaaW.PrintWords Go.Proofs.Ytdoefkloanpliaa.Base Go.Proofs.Ytdoefkloanpliaa.Print

theorem specPass_l0 (b : S67) (v v' : List Int) (h : okB b) (suf : List S114) : ∀ (pre out : List S114), (pre ++ suf).length ≤ 1000000000000 → out.length ≤ pre.length → okXs suf →
    spec_PassBox.l0v (pre.length : Int) b.f0 b.f1 b.f2 b.f3 v (pre ++ suf) v' out = some (if suf.any (fun x => drops b x.f0) then ([], [], false) else (v', out ++ kept b suf, true)) := by
  induction suf with
  | nil =>
    intro pre out _ _ _
    rw [spec_PassBox.l0v_eq, if_neg (nlt_end pre)]
    simp [kept]
  | cons x suf ih =>
    intro pre out hl ho hs
    have hn : pre.length < (pre ++ x :: suf).length := by simp
    have hp : pre.length < 1000000000000 := by omega
    have hx := hs x List.mem_cons_self
    have hs' : okXs suf := fun y hy => hs y (List.mem_cons_of_mem _ hy)
    have hlt := lt_mid pre suf x
    rw [spec_PassBox.l0v_eq, if_pos hlt, if_pos (by omega), rdExt_mid, l9Has_v _ _ h.1, l9Has_v _ _ h.2, l1In_f]
    simp only [spec_PassBox.j2v_eq, Option.bind_some, List.nil_append, List.length_nil, Nat.zero_add, rdExt_mid]
    rw [up_mid pre x hn hl]
    have e1 := ih (pre ++ [x]) out (by simpa using hl) (by simp; omega) hs'
    have e2 := ih (pre ++ [x]) (out ++ [x]) (by simpa using hl) (by simp; omega) hs'
    rw [← mid_snoc pre suf x] at e1 e2
    have e3 : (0 : Int) ≤ (pre.length : Int) := by omega
    have e4 : x.f1.length < 17592186044416 := by omega
    have e5 : out.length < 4398046511104 := by omega
    simp only [e1, hlt, e3, e4, e5, if_true, show (⟨x.f0, x.f1⟩ : S114) = x from rfl, e2, List.any_cons]
    unfold kept
    simp only [List.filter_cons, drops]
    generalize mem b.f1 x.f0 = p
    cases mem b.f2 x.f0 <;> cases inR 1 3 x.f0 <;> rcases Bool.eq_false_or_eq_true b.f3 with h3 | h3 <;> cases p <;> simp [h3]
theorem specPass_v (b : S67) (v : List Int) (l : List S114) (h : okB b) (hv : v.length ≤ 1000000000000) (hl : l.length ≤ 1000000000000) (hs : okXs l) : spec_PassBox.fv b.f0 b.f1 b.f2 b.f3 v l = some (pass b v l) := by
  have h1 := specPass_l0 b v v h l [] [] (by simpa using hl) (by simp) hs
  simp only [List.nil_append, List.length_nil, Int.natCast_zero] at h1
  rw [spec_PassBox.fv_eq, specIsB_v b h, specHello_v v l hv hl hs]
  simp only [Option.bind_some, spec_PassBox.j0v_eq, List.nil_append, List.length_nil, Nat.zero_add, show v.length < 17592186044416 by omega, if_true, h1, pass, lose]
  cases hb : isB b with
  | false => simp
  | true =>
    cases hh : isH v l with
    | false => simp
    | true =>
      have ha : areV v = true := by
        simp only [isH, Bool.and_eq_true] at hh
        exact hh.1
      have hb0 : 0 ≤ b.f0 := by
        simp only [isB, Bool.and_eq_true, inR_true] at hb
        exact hb.1.1
      have hne : v ≠ [] := by
        intro e
        rw [e] at ha
        simp [areV] at ha
      have hp := List.length_pos_iff.mpr hne
      have hd := rd_lastD v [] hne
      rw [List.append_nil] at hd
      rw [w64 (by omega) (by omega), hd, if_pos rfl, if_pos rfl]
      by_cases h0 : b.f0 = 0
      · rw [if_neg (by omega)]
        have d0 : decide (b.f0 = 0) = true := decide_eq_true h0
        rcases Bool.eq_false_or_eq_true (l.any fun x => drops b x.f0) with hq | hq
        · simp only [hq, d0]
          simp
        · simp only [hq, d0]
          simp
      · rw [if_pos (by omega), if_pos (by omega), if_pos (by omega)]
        have d0 : decide (b.f0 = 0) = false := decide_eq_false h0
        rcases Bool.eq_false_or_eq_true (l.any fun x => drops b x.f0) with hq | hq
        · rcases Bool.eq_false_or_eq_true (decide (v.getLastD 0 > b.f0)) with hm | hm
          · simp only [hq, hm, d0]
            simp
          · simp only [hq, hm, d0]
            simp
        · rcases Bool.eq_false_or_eq_true (decide (v.getLastD 0 > b.f0)) with hm | hm
          · simp only [hq, hm, d0]
            simp
          · simp only [hq, hm, d0]
            simp
end Go.Proofs.Ytdoefkloanpliaa.Plain

/- Written by a program of this session (limx.py): the equations of what the printed functions come to. No condition. -/
namespace Go.Proofs.Ytdoefkloanpliaa.Print
open Go.RowKit Go.Proofs.YtdoefkloanpliaaW.PrintWords Go.Proofs.YtdoefkloanpliaaW.PrintLast Go.Proofs.Ytdoefkloanpliaa.Base
set_option linter.unusedVariables false
set_option maxRecDepth 20000
noncomputable def spec_RefusesGrease.l0v (x3 : Int) (x170000 : Int) (x170001 : List Int) (x170002 : List Int) (x170003 : Bool) : Option (Bool) := Lim fun k => spec_RefusesGrease.l0 k x3 x170000 x170001 x170002 x170003
noncomputable def spec_RefusesGrease.j1v (x3 : Int) (x12 : Bool) (x170000 : Int) (x170001 : List Int) (x170002 : List Int) (x170003 : Bool) : Option (Bool) := Lim fun k => spec_RefusesGrease.j1 k x3 x12 x170000 x170001 x170002 x170003
noncomputable def spec_RefusesGrease.fv (a0_0 : Int) (l0_1 : List Int) (l0_2 : List Int) (a0_3 : Bool) : Option (Bool) := Lim fun k => spec_RefusesGrease.f k a0_0 l0_1 l0_2 a0_3
theorem spec_RefusesGrease.l0_is (x3 : Int) (x170000 : Int) (x170001 : List Int) (x170002 : List Int) (x170003 : Bool) : Is (fun k => spec_RefusesGrease.l0 k x3 x170000 x170001 x170002 x170003) (spec_RefusesGrease.l0v x3 x170000 x170001 x170002 x170003) := ⟨fun k => (spec_RefusesGrease.mono_l k).1 x3 x170000 x170001 x170002 x170003, rfl⟩
theorem spec_RefusesGrease.j1_is (x3 : Int) (x12 : Bool) (x170000 : Int) (x170001 : List Int) (x170002 : List Int) (x170003 : Bool) : Is (fun k => spec_RefusesGrease.j1 k x3 x12 x170000 x170001 x170002 x170003) (spec_RefusesGrease.j1v x3 x12 x170000 x170001 x170002 x170003) := ⟨fun k => (spec_RefusesGrease.mono_l k).2 x3 x12 x170000 x170001 x170002 x170003, rfl⟩
theorem spec_RefusesGrease.f_is (a0_0 : Int) (l0_1 : List Int) (l0_2 : List Int) (a0_3 : Bool) : Is (fun k => spec_RefusesGrease.f k a0_0 l0_1 l0_2 a0_3) (spec_RefusesGrease.fv a0_0 l0_1 l0_2 a0_3) := ⟨fun k => spec_RefusesGrease.mono a0_0 l0_1 l0_2 a0_3 k, rfl⟩
theorem spec_RefusesGrease.l0v_eq (x3 : Int) (x170000 : Int) (x170001 : List Int) (x170002 : List Int) (x170003 : Bool) : spec_RefusesGrease.l0v x3 x170000 x170001 x170002 x170003 = if x3 < 256 then ((spec_IsBox.fv x170000 x170001 x170002 x170003).bind fun t170 => (spec_RefusesGrease.j1v x3 t170 x170000 x170001 x170002 x170003)) else (spec_RefusesGrease.j1v x3 false x170000 x170001 x170002 x170003) := by
  refine Is.step (spec_RefusesGrease.l0_is x3 x170000 x170001 x170002 x170003).mo (fun k => by rw [spec_RefusesGrease.l0]) ?_
  · skip
    repeat' first
    | with_reducible exact spec_IsBox.f_is _ _ _ _
    | with_reducible exact spec_RefusesGrease.j1_is _ _ _ _ _ _
    | with_reducible exact Is.now _
    | with_reducible refine Is.ite ?_ ?_
    | with_reducible refine Is.bind ?_ (fun _ => ?_)
theorem spec_RefusesGrease.j1v_eq (x3 : Int) (x12 : Bool) (x170000 : Int) (x170001 : List Int) (x170002 : List Int) (x170003 : Bool) : spec_RefusesGrease.j1v x3 x12 x170000 x170001 x170002 x170003 = if x12 = true then ((spec_PlainHello.f (([1] : List Int))).bind fun bt174 => ((spec_l29One.f x3).bind fun t181 => ((spec_PassBox.fv x170000 x170001 x170002 x170003 bt174.1 t181).bind fun bt184 => (if bt184.2.2 = true then (if (bt184.2.1.length : Int) = 0 then (some true) else (spec_RefusesGrease.l0v (wrap64 (x3 + 16)) x170000 x170001 x170002 x170003)) else (some true))))) else (some false) := by
  refine Is.step (spec_RefusesGrease.j1_is x3 x12 x170000 x170001 x170002 x170003).mo (fun k => by rw [spec_RefusesGrease.j1]) ?_
  · skip
    repeat' first
    | with_reducible exact spec_PassBox.f_is _ _ _ _ _ _
    | with_reducible exact spec_RefusesGrease.l0_is _ _ _ _ _
    | with_reducible exact Is.now _
    | with_reducible refine Is.ite ?_ ?_
    | with_reducible refine Is.bind ?_ (fun _ => ?_)
theorem spec_RefusesGrease.fv_eq (a0_0 : Int) (l0_1 : List Int) (l0_2 : List Int) (a0_3 : Bool) : spec_RefusesGrease.fv a0_0 l0_1 l0_2 a0_3 = spec_RefusesGrease.l0v 10 a0_0 l0_1 l0_2 a0_3 := by
  refine Is.lim (g := fun k => spec_RefusesGrease.f k a0_0 l0_1 l0_2 a0_3) ?_
  · unfold spec_RefusesGrease.f
    repeat' first
    | with_reducible exact spec_RefusesGrease.l0_is _ _ _ _ _
    | with_reducible exact Is.now _
    | with_reducible refine Is.ite ?_ ?_
    | with_reducible refine Is.bind ?_ (fun _ => ?_)
noncomputable def spec_HardenedBoxes.l0v (x0 : List (S67)) (x3 : List Int) (x4 : Int) : Option (List Int) := Lim fun k => spec_HardenedBoxes.l0 k x0 x3 x4
noncomputable def spec_HardenedBoxes.fv (l0 : List (S67)) : Option (List Int) := Lim fun k => spec_HardenedBoxes.f k l0
theorem spec_HardenedBoxes.l0_is (x0 : List (S67)) (x3 : List Int) (x4 : Int) : Is (fun k => spec_HardenedBoxes.l0 k x0 x3 x4) (spec_HardenedBoxes.l0v x0 x3 x4) := ⟨fun k => (spec_HardenedBoxes.mono_l k) x0 x3 x4, rfl⟩
theorem spec_HardenedBoxes.f_is (l0 : List (S67)) : Is (fun k => spec_HardenedBoxes.f k l0) (spec_HardenedBoxes.fv l0) := ⟨fun k => spec_HardenedBoxes.mono l0 k, rfl⟩
theorem spec_HardenedBoxes.l0v_eq (x0 : List (S67)) (x3 : List Int) (x4 : Int) : spec_HardenedBoxes.l0v x0 x3 x4 = if x4 < (x0.length : Int) then (if 0 ≤ x4 then ((spec_RefusesGrease.fv ((rd_T67 x0 x4).f0) ((rd_T67 x0 x4).f1) ((rd_T67 x0 x4).f2) ((rd_T67 x0 x4).f3)).bind fun t196 => (if t196 = true then (if x3.length < 17592186044416 then (spec_HardenedBoxes.l0v x0 (x3 ++ [x4]) (wrap64 (x4 + 1))) else (none)) else (spec_HardenedBoxes.l0v x0 x3 (wrap64 (x4 + 1))))) else (none)) else (some x3) := by
  refine Is.step (spec_HardenedBoxes.l0_is x0 x3 x4).mo (fun k => by rw [spec_HardenedBoxes.l0]) ?_
  · skip
    repeat' first
    | with_reducible exact spec_HardenedBoxes.l0_is _ _ _
    | with_reducible exact spec_RefusesGrease.f_is _ _ _ _
    | with_reducible exact Is.now _
    | with_reducible refine Is.ite ?_ ?_
    | with_reducible refine Is.bind ?_ (fun _ => ?_)
theorem spec_HardenedBoxes.fv_eq (l0 : List (S67)) : spec_HardenedBoxes.fv l0 = spec_HardenedBoxes.l0v l0 (([] : List Int)) 0 := by
  refine Is.lim (g := fun k => spec_HardenedBoxes.f k l0) ?_
  · unfold spec_HardenedBoxes.f
    repeat' first
    | with_reducible exact spec_HardenedBoxes.l0_is _ _ _
    | with_reducible exact Is.now _
    | with_reducible refine Is.ite ?_ ?_
    | with_reducible refine Is.bind ?_ (fun _ => ?_)
noncomputable def laws_toIntS.l0v (x0 : List Int) (x3 : List Int) (x4 : Int) : Option (List Int) := Lim fun k => laws_toIntS.l0 k x0 x3 x4
noncomputable def laws_toIntS.fv (l0 : List Int) : Option (List Int) := Lim fun k => laws_toIntS.f k l0
theorem laws_toIntS.l0_is (x0 : List Int) (x3 : List Int) (x4 : Int) : Is (fun k => laws_toIntS.l0 k x0 x3 x4) (laws_toIntS.l0v x0 x3 x4) := ⟨fun k => (laws_toIntS.mono_l k) x0 x3 x4, rfl⟩
theorem laws_toIntS.f_is (l0 : List Int) : Is (fun k => laws_toIntS.f k l0) (laws_toIntS.fv l0) := ⟨fun k => laws_toIntS.mono l0 k, rfl⟩
theorem laws_toIntS.l0v_eq (x0 : List Int) (x3 : List Int) (x4 : Int) : laws_toIntS.l0v x0 x3 x4 = if x4 < (x0.length : Int) then (if 0 ≤ x4 then (if x4 < (x3.length : Int) then (laws_toIntS.l0v x0 (x3.set (x4 : Int).toNat (rd x0 x4)) (wrap64 (x4 + 1))) else (none)) else (none)) else (some x3) := by
  refine Is.step (laws_toIntS.l0_is x0 x3 x4).mo (fun k => by rw [laws_toIntS.l0]) ?_
  · skip
    repeat' first
    | with_reducible exact laws_toIntS.l0_is _ _ _
    | with_reducible exact Is.now _
    | with_reducible refine Is.ite ?_ ?_
    | with_reducible refine Is.bind ?_ (fun _ => ?_)
theorem laws_toIntS.fv_eq (l0 : List Int) : laws_toIntS.fv l0 = if 0 ≤ (l0.length : Int) then (if ((l0.length : Int) : Int).toNat ≤ 35184372088832 then (laws_toIntS.l0v l0 (List.replicate ((l0.length : Int) : Int).toNat 0) 0) else (none)) else (none) := by
  refine Is.lim (g := fun k => laws_toIntS.f k l0) ?_
  · unfold laws_toIntS.f
    repeat' first
    | with_reducible exact laws_toIntS.l0_is _ _ _
    | with_reducible exact Is.now _
    | with_reducible refine Is.ite ?_ ?_
    | with_reducible refine Is.bind ?_ (fun _ => ?_)
noncomputable def laws_toBox.fv (a0_0 : Int) (l0_1 : List Int) (l0_2 : List Int) (a0_3 : Bool) : Option (Int × List Int × List Int × Bool) := Lim fun k => laws_toBox.f k a0_0 l0_1 l0_2 a0_3
theorem laws_toBox.f_is (a0_0 : Int) (l0_1 : List Int) (l0_2 : List Int) (a0_3 : Bool) : Is (fun k => laws_toBox.f k a0_0 l0_1 l0_2 a0_3) (laws_toBox.fv a0_0 l0_1 l0_2 a0_3) := ⟨fun k => laws_toBox.mono a0_0 l0_1 l0_2 a0_3 k, rfl⟩
theorem laws_toBox.fv_eq (a0_0 : Int) (l0_1 : List Int) (l0_2 : List Int) (a0_3 : Bool) : laws_toBox.fv a0_0 l0_1 l0_2 a0_3 = (laws_toIntS.fv l0_1).bind fun t208 => ((laws_toIntS.fv l0_2).bind fun t211 => (some (a0_0, t208, t211, a0_3))) := by
  refine Is.lim (g := fun k => laws_toBox.f k a0_0 l0_1 l0_2 a0_3) ?_
  · unfold laws_toBox.f
    repeat' first
    | with_reducible exact laws_toIntS.f_is _
    | with_reducible exact Is.now _
    | with_reducible refine Is.ite ?_ ?_
    | with_reducible refine Is.bind ?_ (fun _ => ?_)
noncomputable def laws_toBoxS.l0v (x0 : List (S64)) (x3 : List (S67)) (x4 : Int) : Option ((List (S67))) := Lim fun k => laws_toBoxS.l0 k x0 x3 x4
noncomputable def laws_toBoxS.fv (l0 : List (S64)) : Option ((List (S67))) := Lim fun k => laws_toBoxS.f k l0
theorem laws_toBoxS.l0_is (x0 : List (S64)) (x3 : List (S67)) (x4 : Int) : Is (fun k => laws_toBoxS.l0 k x0 x3 x4) (laws_toBoxS.l0v x0 x3 x4) := ⟨fun k => (laws_toBoxS.mono_l k) x0 x3 x4, rfl⟩
theorem laws_toBoxS.f_is (l0 : List (S64)) : Is (fun k => laws_toBoxS.f k l0) (laws_toBoxS.fv l0) := ⟨fun k => laws_toBoxS.mono l0 k, rfl⟩
theorem laws_toBoxS.l0v_eq (x0 : List (S64)) (x3 : List (S67)) (x4 : Int) : laws_toBoxS.l0v x0 x3 x4 = if x4 < (x0.length : Int) then (if 0 ≤ x4 then ((laws_toBox.fv ((rd_T64 x0 x4).f0) ((rd_T64 x0 x4).f1) ((rd_T64 x0 x4).f2) ((rd_T64 x0 x4).f3)).bind fun bt218 => (if x4 < (x3.length : Int) then (laws_toBoxS.l0v x0 (x3.set (x4 : Int).toNat (⟨bt218.1, bt218.2.1, bt218.2.2.1, bt218.2.2.2⟩ : S67)) (wrap64 (x4 + 1))) else (none))) else (none)) else (some x3) := by
  refine Is.step (laws_toBoxS.l0_is x0 x3 x4).mo (fun k => by rw [laws_toBoxS.l0]) ?_
  · skip
    repeat' first
    | with_reducible exact laws_toBox.f_is _ _ _ _
    | with_reducible exact laws_toBoxS.l0_is _ _ _
    | with_reducible exact Is.now _
    | with_reducible refine Is.ite ?_ ?_
    | with_reducible refine Is.bind ?_ (fun _ => ?_)
theorem laws_toBoxS.fv_eq (l0 : List (S64)) : laws_toBoxS.fv l0 = if 0 ≤ (l0.length : Int) then (if ((l0.length : Int) : Int).toNat ≤ 4398046511104 then (laws_toBoxS.l0v l0 (List.replicate ((l0.length : Int) : Int).toNat z67) 0) else (none)) else (none) := by
  refine Is.lim (g := fun k => laws_toBoxS.f k l0) ?_
  · unfold laws_toBoxS.f
    repeat' first
    | with_reducible exact laws_toBoxS.l0_is _ _ _
    | with_reducible exact Is.now _
    | with_reducible refine Is.ite ?_ ?_
    | with_reducible refine Is.bind ?_ (fun _ => ?_)
end Go.Proofs.Ytdoefkloanpliaa.Print

/- RefusesGrease, of the reference. Condition: at most 10 to the 12 of each. -/
set_option linter.unusedSimpArgs false
set_option linter.unusedVariables false
namespace Go.Proofs.Ytdoefkloanpliaa.Plain
open Go.RowKit Go.Proofs.YtdoefkloanpliaaW.PrintWords Go.Proofs.Ytdoefkloanpliaa.Base Go.Proofs.Ytdoefkloanpliaa.Print

theorem specRefuses_l0 (b : S67) (h : okB b) (m : Nat) : ∀ (n : Nat), n + m = 16 → spec_RefusesGrease.l0v (10 + 16 * (n : Int)) b.f0 b.f1 b.f2 b.f3 = some (isB b && (greases n m).any (refuse b)) := by
  induction m with
  | zero =>
    intro n hn
    rw [spec_RefusesGrease.l0v_eq, if_neg (by omega), spec_RefusesGrease.j1v_eq, if_neg (by simp)]
    simp [greases]
  | succ m ih =>
    intro n hn
    have hx : okXs [one (10 + 16 * (n : Int))] := fun x hx => by
      rw [List.mem_singleton.1 hx]
      simp [one]
    rw [spec_RefusesGrease.l0v_eq, if_pos (by omega), specIsB_v b h]
    simp only [Option.bind_some, spec_RefusesGrease.j1v_eq]
    cases hb : isB b with
    | false => simp
    | true =>
      rw [if_pos rfl]
      unfold spec_PlainHello.f spec_l29One.f
      simp only [Option.bind_some, List.nil_append, List.length_nil, List.length_cons, Nat.zero_add]
      rw [if_pos (by decide)]
      simp only [Option.bind_some]
      rw [show (⟨10 + 16 * (n : Int), []⟩ : S114) = one (10 + 16 * (n : Int)) from rfl, specPass_v b [1] [one (10 + 16 * (n : Int))] h (by simp) (by simp) hx]
      simp only [Option.bind_some, greases, List.any_cons, Bool.true_and]
      rw [w64 (by omega) (by omega), show 10 + 16 * (n : Int) + 16 = 10 + 16 * ((n + 1 : Nat) : Int) by omega, ih (n + 1) (by omega), hb]
      simp only [refuse]
      generalize pass b [1] [one (10 + 16 * (n : Int))] = r
      obtain ⟨p, q, o⟩ := r
      cases o with
      | false => simp
      | true =>
        by_cases hq : q.length = 0
        · simp [hq]
        · have hq' : ¬ (q.length : Int) = 0 := by omega
          simp only [if_true, hq', if_false, Bool.not_true, hq, decide_false, Bool.false_or, Bool.true_and]
theorem specRefuses_v (b : S67) (h : okB b) : spec_RefusesGrease.fv b.f0 b.f1 b.f2 b.f3 = some (refuses b) := by
  rw [spec_RefusesGrease.fv_eq]
  simpa [refuses] using specRefuses_l0 b h 16 0 rfl
end Go.Proofs.Ytdoefkloanpliaa.Plain

/- HardenedBoxes, of the reference. Condition: at most 10 to the 12 of each. -/
set_option linter.unusedSimpArgs false
set_option linter.unusedVariables false
namespace Go.Proofs.Ytdoefkloanpliaa.Plain
open Go.RowKit Go.Proofs.YtdoefkloanpliaaW.PrintWords Go.Proofs.Ytdoefkloanpliaa.Base Go.Proofs.Ytdoefkloanpliaa.Print

theorem specBoxes_l0 (suf : List S67) : ∀ (pre : List S67) (out : List Int), (pre ++ suf).length ≤ 1000000000000 → (∀ x ∈ suf, okB x) → out.length ≤ pre.length →
    spec_HardenedBoxes.l0v (pre ++ suf) out (pre.length : Int) = some (out ++ hards (pre.length : Int) suf) := by
  induction suf with
  | nil =>
    intro pre out _ _ _
    rw [spec_HardenedBoxes.l0v_eq, if_neg (nlt_end pre)]
    simp [hards]
  | cons b suf ih =>
    intro pre out hl hs ho
    have hn : pre.length < (pre ++ b :: suf).length := by simp
    have hq : pre.length < 1000000000000 := by omega
    have e1 : ((pre ++ [b]).length : Int) = (pre.length : Int) + 1 := by simp
    have hs' : ∀ x ∈ suf, okB x := fun y hy => hs y (List.mem_cons_of_mem _ hy)
    rw [spec_HardenedBoxes.l0v_eq, if_pos (lt_mid pre suf b), if_pos (by omega), rdBox_mid, specRefuses_v b (hs b List.mem_cons_self), up_mid pre b hn hl]
    simp only [Option.bind_some, hards]
    rw [mid_snoc pre suf b] at hl ⊢
    cases refuses b with
    | true =>
      rw [if_pos rfl, if_pos (by omega), ih (pre ++ [b]) _ hl hs' (by simp; omega), e1]
      simp
    | false =>
      rw [if_neg (by simp), ih (pre ++ [b]) out hl hs' (by simp; omega), e1]
      simp
theorem specBoxes_v (p : List S67) (hp : p.length ≤ 1000000000000) (hs : ∀ x ∈ p, okB x) : spec_HardenedBoxes.fv p = some (hards 0 p) := by
  rw [spec_HardenedBoxes.fv_eq]
  simpa using specBoxes_l0 p [] [] (by simpa using hp) hs (by simp)
end Go.Proofs.Ytdoefkloanpliaa.Plain

/- The marks that a law writes into a result and looks for again. Condition: at most 10 to the 12 numbers, and the first mark is small. -/
set_option linter.unusedSimpArgs false
set_option linter.unusedVariables false
namespace Go.Proofs.Ytdoefkloanpliaa.Plain
open Go.RowKit Go.Proofs.YtdoefkloanpliaaW.PrintWords Go.Proofs.Ytdoefkloanpliaa.Base Go.Proofs.Ytdoefkloanpliaa.Print

/-- The marks of so many places. -/
def marks (a : Int) : Nat → List Int
  | 0 => []
  | n + 1 => a :: marks (a + 1) n
theorem marks_len (n : Nat) : ∀ a, (marks a n).length = n := by
  induction n with
  | zero =>
    intro a
    rfl
  | succ n ih =>
    intro a
    simp [marks, ih]
theorem markIntS_l0 (suf : List Int) : ∀ (pre : List Int) (a : Int), (pre ++ suf).length ≤ 1000000000000 → 0 ≤ a → a + suf.length ≤ 4000000000000000000 →
    laws_markIntS.l0v (pre ++ suf) a (pre.length : Int) = some (a + suf.length, pre ++ marks a suf.length) := by
  induction suf with
  | nil =>
    intro pre a _ _ _
    rw [laws_markIntS.l0v_eq, if_neg (nlt_end pre)]
    simp [marks]
  | cons x suf ih =>
    intro pre a hl h0 ha
    have hn : pre.length < (pre ++ x :: suf).length := by simp
    simp only [List.length_cons, Int.natCast_succ] at ha
    rw [laws_markIntS.l0v_eq, if_pos (lt_mid pre suf x), if_pos (by omega), set_mid, up_mid pre x hn hl, w64 (by omega) (by omega)]
    rw [mid_snoc pre suf x] at hl
    have h1 := ih (pre ++ [a]) (a + 1) (by simpa using hl) (by omega) (by omega)
    simp only [List.length_append, List.length_cons, List.length_nil] at h1 ⊢
    rw [h1]
    simp [marks]
    omega
theorem heldIntS_l0 (n : Nat) : ∀ (pre : List Int) (a : Int), pre.length + n ≤ 1000000000000 → 0 ≤ a → a + n ≤ 4000000000000000000 →
    laws_heldIntS.l0v (pre ++ marks a n) a (pre.length : Int) = some (a + n) := by
  induction n with
  | zero =>
    intro pre a _ _ _
    rw [marks, laws_heldIntS.l0v_eq, if_neg (nlt_end pre)]
    simp
  | succ n ih =>
    intro pre a hl h0 ha
    have hl' : (pre ++ a :: marks (a + 1) n).length ≤ 1000000000000 := by
      simp only [List.length_append, List.length_cons, marks_len]
      omega
    have hn : pre.length < (pre ++ a :: marks (a + 1) n).length := by simp
    rw [marks, laws_heldIntS.l0v_eq, if_pos (lt_mid pre (marks (a + 1) n) a), if_pos (by omega), rd_mid, if_pos rfl, up_mid pre a hn hl', w64 (by omega) (by omega), mid_snoc pre (marks (a + 1) n) a]
    have h1 := ih (pre ++ [a]) (a + 1) (by simp; omega) (by omega) (by omega)
    rw [h1]
    congr 1
    omega
theorem markIntS_v (l : List Int) (a : Int) (hl : l.length ≤ 1000000000000) (h0 : 0 ≤ a) (ha : a ≤ 3000000000000000000) : laws_markIntS.fv l a = some (a + l.length, marks a l.length) := by
  rw [laws_markIntS.fv_eq]
  exact markIntS_l0 l [] a (by simpa using hl) h0 (by omega)
theorem heldIntS_v (n : Nat) (a : Int) (hl : n ≤ 1000000000000) (h0 : 0 ≤ a) (ha : a ≤ 3000000000000000000) : laws_heldIntS.fv (marks a n) a = some (a + n) := by
  rw [laws_heldIntS.fv_eq]
  exact heldIntS_l0 n [] a (by simpa using hl) h0 (by omega)
end Go.Proofs.Ytdoefkloanpliaa.Plain

/- What the law's own helpers on slices of whole numbers come to: a copy, equality, marks. Condition: the slice has at most 2 to the 40 numbers. -/
set_option linter.unusedSimpArgs false
set_option linter.unusedVariables false
namespace Go.Proofs.Ytdoefkloanpliaa.Plain
open Go.RowKit Go.Proofs.YtdoefkloanpliaaW.PrintWords Go.Proofs.Ytdoefkloanpliaa.Base Go.Proofs.Ytdoefkloanpliaa.Print

theorem toIntS_l0 (suf : List Int) : ∀ (pre rest : List Int), rest.length = suf.length → (pre ++ suf).length ≤ 1000000000000 → laws_toIntS.l0v (pre ++ suf) (pre ++ rest) (pre.length : Int) = some (pre ++ suf) := by
  induction suf with
  | nil =>
    intro pre rest hr _
    rw [laws_toIntS.l0v_eq, if_neg (nlt_end pre)]
    simp at hr
    rw [hr]
  | cons x suf ih =>
    intro pre rest hr hl
    cases rest with
    | nil => simp at hr
    | cons y rest =>
      have hn : pre.length < (pre ++ x :: suf).length := by simp
      rw [laws_toIntS.l0v_eq, if_pos (lt_mid pre suf x), if_pos (by omega), if_pos (lt_mid pre rest y), rd_mid, set_mid, up_mid pre x hn hl]
      rw [mid_snoc pre suf x] at hl ⊢
      have h1 := ih (pre ++ [x]) rest (by simpa using hr) hl
      simp only [List.length_append, List.length_cons, List.length_nil] at h1 ⊢
      exact h1

theorem toIntS_v (l : List Int) (hl : l.length ≤ 1000000000000) : laws_toIntS.fv l = some l := by
  rw [laws_toIntS.fv_eq, if_pos (by omega), if_pos (by omega)]
  have h := toIntS_l0 l [] (List.replicate ((l.length : Int) : Int).toNat 0) (by simp) (by simpa using hl)
  simpa using h

theorem eqIntS_l0 (sa : List Int) : ∀ (pre sb : List Int), sb.length = sa.length → (pre ++ sa).length ≤ 1000000000000 → laws_eqIntS.l0v (pre ++ sa) (pre ++ sb) (pre.length : Int) = some (decide (sa = sb)) := by
  induction sa with
  | nil =>
    intro pre sb hr _
    rw [laws_eqIntS.l0v_eq, if_neg (nlt_end pre)]
    simp at hr
    simp [hr]
  | cons x sa ih =>
    intro pre sb hr hl
    cases sb with
    | nil => simp at hr
    | cons y sb =>
      have hn : pre.length < (pre ++ x :: sa).length := by simp
      rw [laws_eqIntS.l0v_eq, if_pos (lt_mid pre sa x), if_pos (by omega), if_pos (lt_mid pre sb y), rd_mid, rd_mid, up_mid pre x hn hl]
      by_cases hxy : x = y
      · subst hxy
        rw [if_pos rfl]
        rw [mid_snoc pre sa x] at hl ⊢
        rw [mid_snoc pre sb x]
        rw [ih (pre ++ [x]) sb (by simpa using hr) hl]
        simp
      · rw [if_neg hxy]
        simp [hxy]

theorem eqIntS_v (a b : List Int) (hl : a.length ≤ 1000000000000) : laws_eqIntS.fv a b = some (decide (a = b)) := by
  rw [laws_eqIntS.fv_eq]
  by_cases h : a.length = b.length
  · rw [if_pos (by omega)]
    have h1 := eqIntS_l0 a [] b h.symm (by simpa using hl)
    simpa using h1
  · rw [if_neg (by omega)]
    have : a ≠ b := fun e => h (by rw [e])
    simp [this]
end Go.Proofs.Ytdoefkloanpliaa.Plain

/- What is left of a size, row by row. Condition: at most 2 to the 20 is left. -/
set_option linter.unusedSimpArgs false
set_option linter.unusedVariables false
namespace Go.Proofs.Ytdoefkloanpliaa.Plain
open Go.RowKit Go.Proofs.YtdoefkloanpliaaW.PrintWords Go.Proofs.Ytdoefkloanpliaa.Base Go.Proofs.Ytdoefkloanpliaa.Print

theorem szIntS_f (l : List Int) (n : Int) (h0 : 0 ≤ n) (h : n ≤ 1048576) (hl : l.length ≤ 1000000000000000000) : laws_szIntS.f l n = some (if n < l.length then -1 else n - l.length) := by
  unfold laws_szIntS.f
  rw [w64 (by omega) (by omega)]
  by_cases hc : n < l.length
  · rw [if_pos (by omega), if_pos hc]
  · rw [if_neg (by omega), if_neg hc]
/-- What is left of n behind the rows, each with a size of its own; -1 where they are too large. -/
def sizes {α : Type} (f : α → Nat) : List α → Int → Int
  | [], n => n
  | x :: l, n => if n < (f x : Int) then -1 else sizes f l (n - (f x : Int))
/-- The same, with one for each row. -/
def sizeOf1 {α : Type} (f : α → Nat) (l : List α) (n : Int) : Int := if n < (l.length : Int) then -1 else sizes f l (n - (l.length : Int))
theorem sizes_le {α : Type} (f : α → Nat) (l : List α) : ∀ n : Int, 0 ≤ sizes f l n → sizes f l n ≤ n ∧ ∀ x ∈ l, (f x : Int) ≤ n := by
  induction l with
  | nil =>
    intro n h
    exact ⟨Int.le_refl _, fun x hx => by cases hx⟩
  | cons y l ih =>
    intro n h
    simp only [sizes] at h ⊢
    by_cases hc : n < (f y : Int)
    · rw [if_pos hc] at h
      omega
    · rw [if_neg hc] at h ⊢
      obtain ⟨h1, h2⟩ := ih _ h
      refine ⟨by omega, fun x hx => ?_⟩
      cases hx with
      | head => omega
      | tail _ hx =>
        have := h2 x hx
        omega
theorem sizeOf1_le {α : Type} (f : α → Nat) (l : List α) (n : Int) (h : 0 ≤ sizeOf1 f l n) : sizeOf1 f l n ≤ n ∧ (l.length : Int) ≤ n ∧ ∀ x ∈ l, (f x : Int) ≤ n := by
  unfold sizeOf1 at h ⊢
  by_cases hc : n < (l.length : Int)
  · rw [if_pos hc] at h
    omega
  · rw [if_neg hc] at h ⊢
    obtain ⟨h1, h2⟩ := sizes_le f l _ h
    exact ⟨by omega, by omega, fun x hx => by
      have := h2 x hx
      omega⟩
theorem sizes_neg {α : Type} (f : α → Nat) (l : List α) : ∀ n : Int, 0 ≤ n → sizes f l n < 0 → sizes f l n = -1 := by
  induction l with
  | nil =>
    intro n h0 h
    simp only [sizes] at h
    omega
  | cons y l ih =>
    intro n h0 h
    simp only [sizes] at h ⊢
    by_cases hc : n < (f y : Int)
    · rw [if_pos hc]
    · rw [if_neg hc] at h ⊢
      exact ih _ (by omega) h
end Go.Proofs.Ytdoefkloanpliaa.Plain

/- Written by a program of this session (limx.py): the equations of what the printed functions come to. No condition. -/
namespace Go.Proofs.Ytdoefkloanpliaa.Print
open Go.RowKit Go.Proofs.YtdoefkloanpliaaW.PrintWords Go.Proofs.YtdoefkloanpliaaW.PrintLast Go.Proofs.Ytdoefkloanpliaa.Base
set_option linter.unusedVariables false
set_option maxRecDepth 20000
noncomputable def laws_eqBox.fv (a0_0 : Int) (l0_1 : List Int) (l0_2 : List Int) (a0_3 : Bool) (a1_0 : Int) (l1_1 : List Int) (l1_2 : List Int) (a1_3 : Bool) : Option (Bool) := Lim fun k => laws_eqBox.f k a0_0 l0_1 l0_2 a0_3 a1_0 l1_1 l1_2 a1_3
theorem laws_eqBox.f_is (a0_0 : Int) (l0_1 : List Int) (l0_2 : List Int) (a0_3 : Bool) (a1_0 : Int) (l1_1 : List Int) (l1_2 : List Int) (a1_3 : Bool) : Is (fun k => laws_eqBox.f k a0_0 l0_1 l0_2 a0_3 a1_0 l1_1 l1_2 a1_3) (laws_eqBox.fv a0_0 l0_1 l0_2 a0_3 a1_0 l1_1 l1_2 a1_3) := ⟨fun k => laws_eqBox.mono a0_0 l0_1 l0_2 a0_3 a1_0 l1_1 l1_2 a1_3 k, rfl⟩
theorem laws_eqBox.fv_eq (a0_0 : Int) (l0_1 : List Int) (l0_2 : List Int) (a0_3 : Bool) (a1_0 : Int) (l1_1 : List Int) (l1_2 : List Int) (a1_3 : Bool) : laws_eqBox.fv a0_0 l0_1 l0_2 a0_3 a1_0 l1_1 l1_2 a1_3 = if a0_0 = a1_0 then ((laws_eqIntS.fv l0_1 l1_1).bind fun t348 => (if t348 = true then ((laws_eqIntS.fv l0_2 l1_2).bind fun t349 => (if t349 = true then (if (a0_3 != a1_3) = true then (some false) else (some true)) else (some false))) else (some false))) else (some false) := by
  refine Is.lim (g := fun k => laws_eqBox.f k a0_0 l0_1 l0_2 a0_3 a1_0 l1_1 l1_2 a1_3) ?_
  · unfold laws_eqBox.f
    repeat' first
    | with_reducible exact laws_eqIntS.f_is _ _
    | with_reducible exact Is.now _
    | with_reducible refine Is.ite ?_ ?_
    | with_reducible refine Is.bind ?_ (fun _ => ?_)
noncomputable def laws_eqBoxS.l0v (x0 : List (S67)) (x1 : List (S67)) (x5 : Int) : Option (Bool) := Lim fun k => laws_eqBoxS.l0 k x0 x1 x5
noncomputable def laws_eqBoxS.fv (l0 : List (S67)) (l1 : List (S67)) : Option (Bool) := Lim fun k => laws_eqBoxS.f k l0 l1
theorem laws_eqBoxS.l0_is (x0 : List (S67)) (x1 : List (S67)) (x5 : Int) : Is (fun k => laws_eqBoxS.l0 k x0 x1 x5) (laws_eqBoxS.l0v x0 x1 x5) := ⟨fun k => (laws_eqBoxS.mono_l k) x0 x1 x5, rfl⟩
theorem laws_eqBoxS.f_is (l0 : List (S67)) (l1 : List (S67)) : Is (fun k => laws_eqBoxS.f k l0 l1) (laws_eqBoxS.fv l0 l1) := ⟨fun k => laws_eqBoxS.mono l0 l1 k, rfl⟩
theorem laws_eqBoxS.l0v_eq (x0 : List (S67)) (x1 : List (S67)) (x5 : Int) : laws_eqBoxS.l0v x0 x1 x5 = if x5 < (x0.length : Int) then (if 0 ≤ x5 then (if x5 < (x1.length : Int) then ((laws_eqBox.fv ((rd_T67 x0 x5).f0) ((rd_T67 x0 x5).f1) ((rd_T67 x0 x5).f2) ((rd_T67 x0 x5).f3) ((rd_T67 x1 x5).f0) ((rd_T67 x1 x5).f1) ((rd_T67 x1 x5).f2) ((rd_T67 x1 x5).f3)).bind fun t352 => (if t352 = true then (laws_eqBoxS.l0v x0 x1 (wrap64 (x5 + 1))) else (some false))) else (none)) else (none)) else (some true) := by
  refine Is.step (laws_eqBoxS.l0_is x0 x1 x5).mo (fun k => by rw [laws_eqBoxS.l0]) ?_
  · skip
    repeat' first
    | with_reducible exact laws_eqBox.f_is _ _ _ _ _ _ _ _
    | with_reducible exact laws_eqBoxS.l0_is _ _ _
    | with_reducible exact Is.now _
    | with_reducible refine Is.ite ?_ ?_
    | with_reducible refine Is.bind ?_ (fun _ => ?_)
theorem laws_eqBoxS.fv_eq (l0 : List (S67)) (l1 : List (S67)) : laws_eqBoxS.fv l0 l1 = if (l0.length : Int) = (l1.length : Int) then (laws_eqBoxS.l0v l0 l1 0) else (some false) := by
  refine Is.lim (g := fun k => laws_eqBoxS.f k l0 l1) ?_
  · unfold laws_eqBoxS.f
    repeat' first
    | with_reducible exact laws_eqBoxS.l0_is _ _ _
    | with_reducible exact Is.now _
    | with_reducible refine Is.ite ?_ ?_
    | with_reducible refine Is.bind ?_ (fun _ => ?_)
noncomputable def laws_markBoxS.l0v (x0 : List (S67)) (x1 : Int) (x5 : Int) : Option (Int) := Lim fun k => laws_markBoxS.l0 k x0 x1 x5
noncomputable def laws_markBoxS.fv (l0 : List (S67)) (a1 : Int) : Option (Int) := Lim fun k => laws_markBoxS.f k l0 a1
theorem laws_markBoxS.l0_is (x0 : List (S67)) (x1 : Int) (x5 : Int) : Is (fun k => laws_markBoxS.l0 k x0 x1 x5) (laws_markBoxS.l0v x0 x1 x5) := ⟨fun k => (laws_markBoxS.mono_l k) x0 x1 x5, rfl⟩
theorem laws_markBoxS.f_is (l0 : List (S67)) (a1 : Int) : Is (fun k => laws_markBoxS.f k l0 a1) (laws_markBoxS.fv l0 a1) := ⟨fun k => laws_markBoxS.mono l0 a1 k, rfl⟩
theorem laws_markBoxS.l0v_eq (x0 : List (S67)) (x1 : Int) (x5 : Int) : laws_markBoxS.l0v x0 x1 x5 = if x5 < (x0.length : Int) then (if 0 ≤ x5 then ((laws_markIntS.fv (rd_T67 x0 x5).f1 (wrap64 (x1 + 1))).bind fun bt1 => ((laws_markIntS.fv (rd_T67 x0 x5).f2 bt1.1).bind fun bt2 => (laws_markBoxS.l0v x0 (wrap64 (bt2.1 + 1)) (wrap64 (x5 + 1))))) else (none)) else (some x1) := by
  refine Is.step (laws_markBoxS.l0_is x0 x1 x5).mo (fun k => by rw [laws_markBoxS.l0]) ?_
  · skip
    repeat' first
    | with_reducible exact laws_markBoxS.l0_is _ _ _
    | with_reducible exact laws_markIntS.f_is _ _
    | with_reducible exact Is.now _
    | with_reducible refine Is.ite ?_ ?_
    | with_reducible refine Is.bind ?_ (fun _ => ?_)
theorem laws_markBoxS.fv_eq (l0 : List (S67)) (a1 : Int) : laws_markBoxS.fv l0 a1 = laws_markBoxS.l0v l0 a1 0 := by
  refine Is.lim (g := fun k => laws_markBoxS.f k l0 a1) ?_
  · unfold laws_markBoxS.f
    repeat' first
    | with_reducible exact laws_markBoxS.l0_is _ _ _
    | with_reducible exact Is.now _
    | with_reducible refine Is.ite ?_ ?_
    | with_reducible refine Is.bind ?_ (fun _ => ?_)
end Go.Proofs.Ytdoefkloanpliaa.Print

/- Boxes: their sizes, copies and equality, as the law's helpers tell them. Condition: at most 10 to the 12 of each. -/
set_option linter.unusedSimpArgs false
set_option linter.unusedVariables false
namespace Go.Proofs.Ytdoefkloanpliaa.Plain
open Go.RowKit Go.Proofs.YtdoefkloanpliaaW.PrintWords Go.Proofs.Ytdoefkloanpliaa.Base Go.Proofs.Ytdoefkloanpliaa.Print

theorem rdBoxL_mid (pre suf : List S64) (x : S64) : rd_T64 (pre ++ x :: suf) (pre.length : Int) = x := by simp [rd_T64]
/-- The law's box as the program's. -/
def toB (b : S64) : S67 := ⟨b.f0, b.f1, b.f2, b.f3⟩
def szB (b : S64) : Nat := b.f1.length + b.f2.length
theorem szBox_f (a : Int) (l m : List Int) (f : Bool) (n : Int) (h0 : 0 ≤ n) (h : n ≤ 1048576) (hl : l.length ≤ 1000000000000000000) (hm : m.length ≤ 1000000000000000000) : laws_szBox.f a l m f n = some (if n < ((l.length + m.length : Nat) : Int) then -1 else n - ((l.length + m.length : Nat) : Int)) := by
  unfold laws_szBox.f
  rw [szIntS_f l n h0 h hl]
  simp only [Option.bind_some]
  by_cases hc : n < (l.length : Int)
  · rw [if_pos hc, if_pos (by omega), if_pos (by omega)]
  · rw [if_neg hc, if_neg (by omega), szIntS_f m _ (by omega) (by omega) hm]
    simp only [Option.bind_some]
    by_cases hd : n - (l.length : Int) < (m.length : Int)
    · rw [if_pos hd, if_pos (by omega), if_pos (by omega)]
    · rw [if_neg hd, if_neg (by omega), if_neg (by omega)]
      congr 1
      omega
theorem szBoxS_l0 (suf : List S64) : ∀ (pre : List S64) (n : Int), (pre ++ suf).length ≤ 1000000000000 → 0 ≤ n → n ≤ 1048576 → (∀ x ∈ suf, x.f1.length ≤ 1000000000000000000 ∧ x.f2.length ≤ 1000000000000000000) →
    laws_szBoxS.l0v (pre ++ suf) n (pre.length : Int) = some (sizes szB suf n) := by
  induction suf with
  | nil =>
    intro pre n _ _ _ _
    rw [laws_szBoxS.l0v_eq, if_neg (nlt_end pre)]
    rfl
  | cons x suf ih =>
    intro pre n hl h0 h1 hs
    have hn : pre.length < (pre ++ x :: suf).length := by simp
    have hx := hs x List.mem_cons_self
    rw [laws_szBoxS.l0v_eq, if_pos (lt_mid pre suf x), if_pos (by omega), rdBoxL_mid, szBox_f _ _ _ _ n h0 h1 hx.1 hx.2]
    simp only [Option.bind_some, sizes]
    have e : ((x.f1.length + x.f2.length : Nat) : Int) = (szB x : Int) := rfl
    rw [e]
    by_cases hc : n < (szB x : Int)
    · rw [if_pos hc, if_pos (by omega), if_pos hc]
    · rw [if_neg hc, if_neg (by omega), if_neg hc, up_mid pre x hn hl]
      rw [mid_snoc pre suf x] at hl ⊢
      exact ih (pre ++ [x]) _ hl (by omega) (by omega) (fun y hy => hs y (List.mem_cons_of_mem _ hy))
theorem szBoxS_v (l : List S64) (n : Int) (h0 : 0 ≤ n) (h1 : n ≤ 1048576) (hl : l.length ≤ 100000000000000000) (hs : ∀ x ∈ l, x.f1.length ≤ 1000000000000000000 ∧ x.f2.length ≤ 1000000000000000000) :
    laws_szBoxS.fv l n = some (sizeOf1 szB l n) := by
  rw [laws_szBoxS.fv_eq, w64 (by omega) (by omega)]
  unfold sizeOf1
  by_cases hc : n < (l.length : Int)
  · rw [if_pos (by omega), if_pos hc]
  · rw [if_neg (by omega), if_neg hc]
    have h := szBoxS_l0 l [] (n - (l.length : Int)) (by simp; omega) (by omega) (by omega) hs
    simpa using h
theorem toBox_v (a : Int) (l m : List Int) (f : Bool) (hl : l.length ≤ 1000000000000) (hm : m.length ≤ 1000000000000) : laws_toBox.fv a l m f = some (a, l, m, f) := by
  rw [laws_toBox.fv_eq, toIntS_v l hl, toIntS_v m hm]
  rfl
theorem toBoxS_l0 (suf : List S64) : ∀ (pre : List S64) (q rest : List S67), q.length = pre.length → rest.length = suf.length → (pre ++ suf).length ≤ 1000000000000 → (∀ x ∈ suf, okB (toB x)) → laws_toBoxS.l0v (pre ++ suf) (q ++ rest) (pre.length : Int) = some (q ++ suf.map toB) := by
  induction suf with
  | nil =>
    intro pre q rest _ hr _ _
    rw [laws_toBoxS.l0v_eq, if_neg (nlt_end pre)]
    simp at hr
    simp [hr]
  | cons x suf ih =>
    intro pre q rest hq hr hl hs
    cases rest with
    | nil => simp at hr
    | cons y rest =>
      have hn : pre.length < (pre ++ x :: suf).length := by simp
      have hx : x.f1.length ≤ 1000000000000 ∧ x.f2.length ≤ 1000000000000 := hs x List.mem_cons_self
      rw [laws_toBoxS.l0v_eq, if_pos (lt_mid pre suf x), if_pos (by omega), rdBoxL_mid, toBox_v _ _ _ _ hx.1 hx.2]
      simp only [Option.bind_some]
      rw [up_mid pre x hn hl, ← hq, if_pos (lt_mid q rest y), set_mid]
      rw [mid_snoc pre suf x] at hl ⊢
      rw [show (⟨x.f0, x.f1, x.f2, x.f3⟩ : S67) = toB x from rfl, ih (pre ++ [x]) (q ++ [toB x]) rest (by simp [hq]) (by simpa using hr) hl (fun y hy => hs y (List.mem_cons_of_mem _ hy))]
      simp
theorem toBoxS_v (l : List S64) (hl : l.length ≤ 1000000000000) (hs : ∀ x ∈ l, okB (toB x)) : laws_toBoxS.fv l = some (l.map toB) := by
  rw [laws_toBoxS.fv_eq, if_pos (by omega), if_pos (by omega)]
  have h := toBoxS_l0 l [] [] (List.replicate ((l.length : Int) : Int).toNat z67) rfl (by simp) (by simpa using hl) hs
  simpa using h
theorem eqBox_v (b : S67) (h : okB b) : laws_eqBox.fv b.f0 b.f1 b.f2 b.f3 b.f0 b.f1 b.f2 b.f3 = some true := by
  rw [laws_eqBox.fv_eq, if_pos rfl, eqIntS_v _ _ h.1, eqIntS_v _ _ h.2]
  simp
theorem eqBoxS_l0 (sa : List S67) : ∀ (pre : List S67), (pre ++ sa).length ≤ 1000000000000 → (∀ x ∈ sa, okB x) → laws_eqBoxS.l0v (pre ++ sa) (pre ++ sa) (pre.length : Int) = some true := by
  induction sa with
  | nil =>
    intro pre _ _
    rw [laws_eqBoxS.l0v_eq, if_neg (nlt_end pre)]
  | cons x sa ih =>
    intro pre hl hs
    have hn : pre.length < (pre ++ x :: sa).length := by simp
    rw [laws_eqBoxS.l0v_eq, if_pos (lt_mid pre sa x), if_pos (by omega), if_pos (lt_mid pre sa x), rdBox_mid, eqBox_v x (hs x List.mem_cons_self), up_mid pre x hn hl]
    simp only [Option.bind_some, if_true]
    rw [mid_snoc pre sa x] at hl ⊢
    exact ih (pre ++ [x]) hl (fun y hy => hs y (List.mem_cons_of_mem _ hy))
theorem eqBoxS_v (l : List S67) (hl : l.length ≤ 1000000000000) (hs : ∀ x ∈ l, okB x) : laws_eqBoxS.fv l l = some true := by
  rw [laws_eqBoxS.fv_eq, if_pos rfl]
  exact eqBoxS_l0 l [] (by simpa using hl) hs
end Go.Proofs.Ytdoefkloanpliaa.Plain

/- The marks that a law writes into boxes. Condition: at most 10 to the 12 of each, and the first mark is small. -/
set_option linter.unusedSimpArgs false
set_option linter.unusedVariables false
namespace Go.Proofs.Ytdoefkloanpliaa.Plain
open Go.RowKit Go.Proofs.YtdoefkloanpliaaW.PrintWords Go.Proofs.Ytdoefkloanpliaa.Base Go.Proofs.Ytdoefkloanpliaa.Print

/-- How many marks boxes take. -/
def marksB : List S67 → Nat
  | [] => 0
  | b :: l => b.f1.length + b.f2.length + 2 + marksB l
theorem marksB_sizes (l : List S64) : ∀ n : Int, 0 ≤ sizes szB l n → (marksB (l.map toB) : Int) ≤ n + 2 * l.length := by
  induction l with
  | nil =>
    intro n h
    simp only [sizes] at h
    simp [marksB]
    omega
  | cons x l ih =>
    intro n h
    simp only [sizes] at h
    by_cases hc : n < (szB x : Int)
    · rw [if_pos hc] at h
      omega
    · rw [if_neg hc] at h
      have := ih _ h
      have e1 : (toB x).f1.length = x.f1.length := rfl
      have e2 : (toB x).f2.length = x.f2.length := rfl
      unfold szB at hc this
      simp only [List.map_cons, marksB, List.length_cons, e1, e2]
      omega
theorem marksB_le (l : List S64) (n : Int) (h : 0 ≤ sizeOf1 szB l n) : (marksB (l.map toB) : Int) ≤ 2 * n := by
  unfold sizeOf1 at h
  by_cases hc : n < (l.length : Int)
  · rw [if_pos hc] at h
    omega
  · rw [if_neg hc] at h
    have := marksB_sizes l _ h
    omega
theorem markBoxS_l0 (suf : List S67) : ∀ (pre : List S67) (a : Int), (pre ++ suf).length ≤ 1000000000000 → (∀ x ∈ suf, okB x) → 0 ≤ a → a + marksB suf ≤ 2000000000000000000 →
    laws_markBoxS.l0v (pre ++ suf) a (pre.length : Int) = some (a + marksB suf) := by
  induction suf with
  | nil =>
    intro pre a _ _ _ _
    rw [laws_markBoxS.l0v_eq, if_neg (nlt_end pre)]
    simp [marksB]
  | cons x suf ih =>
    intro pre a hl hs h0 ha
    have hn : pre.length < (pre ++ x :: suf).length := by simp
    have hx := hs x List.mem_cons_self
    simp only [marksB, Int.natCast_add] at ha
    rw [laws_markBoxS.l0v_eq, if_pos (lt_mid pre suf x), if_pos (by omega), rdBox_mid, w64 (x := a + 1) (by omega) (by omega), markIntS_v x.f1 (a + 1) hx.1 (by omega) (by omega)]
    simp only [Option.bind_some]
    rw [markIntS_v x.f2 _ hx.2 (by omega) (by omega)]
    simp only [Option.bind_some]
    rw [w64 (by omega) (by omega), up_mid pre x hn hl]
    rw [mid_snoc pre suf x] at hl ⊢
    rw [ih (pre ++ [x]) _ hl (fun y hy => hs y (List.mem_cons_of_mem _ hy)) (by omega) (by omega)]
    simp only [marksB, Int.natCast_add]
    congr 1
    omega
theorem markBoxS_v (l : List S67) (a : Int) (hl : l.length ≤ 1000000000000) (hs : ∀ x ∈ l, okB x) (h0 : 0 ≤ a) (ha : a + marksB l ≤ 2000000000000000000) : laws_markBoxS.fv l a = some (a + marksB l) := by
  rw [laws_markBoxS.fv_eq]
  simpa using markBoxS_l0 l [] a (by simpa using hl) hs h0 ha
end Go.Proofs.Ytdoefkloanpliaa.Plain

/- Written by a program of this session (limx.py): the equations of what the printed functions come to. No condition. -/
namespace Go.Proofs.Ytdoefkloanpliaa.Print
open Go.RowKit Go.Proofs.YtdoefkloanpliaaW.PrintWords Go.Proofs.YtdoefkloanpliaaW.PrintLast Go.Proofs.Ytdoefkloanpliaa.Base
set_option linter.unusedVariables false
set_option maxRecDepth 20000
noncomputable def laws_FnExactHardenedBoxes.j0v (x0 : List (S64)) (x4 : List Int) (x6 : List Int) (x42 : Bool) : Option (Bool) := Lim fun k => laws_FnExactHardenedBoxes.j0 k x0 x4 x6 x42
noncomputable def laws_FnExactHardenedBoxes.fv (l0 : List (S64)) : Option (Bool) := Lim fun k => laws_FnExactHardenedBoxes.f k l0
theorem laws_FnExactHardenedBoxes.j0_is (x0 : List (S64)) (x4 : List Int) (x6 : List Int) (x42 : Bool) : Is (fun k => laws_FnExactHardenedBoxes.j0 k x0 x4 x6 x42) (laws_FnExactHardenedBoxes.j0v x0 x4 x6 x42) := ⟨fun k => (laws_FnExactHardenedBoxes.mono_l k) x0 x4 x6 x42, rfl⟩
theorem laws_FnExactHardenedBoxes.f_is (l0 : List (S64)) : Is (fun k => laws_FnExactHardenedBoxes.f k l0) (laws_FnExactHardenedBoxes.fv l0) := ⟨fun k => laws_FnExactHardenedBoxes.mono l0 k, rfl⟩
theorem laws_FnExactHardenedBoxes.j0v_eq (x0 : List (S64)) (x4 : List Int) (x6 : List Int) (x42 : Bool) : laws_FnExactHardenedBoxes.j0v x0 x4 x6 x42 = if x42 = true then (some false) else ((laws_markIntS.fv x6 1).bind fun bt373 => ((laws_heldIntS.fv bt373.2 1).bind fun t375 => (if t375 < 0 then (some false) else (if t375 = bt373.1 then ((laws_toBoxS.fv x0).bind fun t376 => ((impl_HardenedBoxes.fv t376).bind fun t379 => ((laws_eqIntS.fv t379 x4).bind fun t382 => (if t382 = true then ((laws_heldIntS.fv bt373.2 1).bind fun t383 => (if t383 < 0 then (some false) else (if t383 = bt373.1 then (some true) else (some false)))) else (some false))))) else (some false))))) := by
  refine Is.step (laws_FnExactHardenedBoxes.j0_is x0 x4 x6 x42).mo (fun k => by rw [laws_FnExactHardenedBoxes.j0]) ?_
  · skip
    repeat' first
    | with_reducible exact impl_HardenedBoxes.f_is _
    | with_reducible exact laws_eqIntS.f_is _ _
    | with_reducible exact laws_heldIntS.f_is _ _
    | with_reducible exact laws_markIntS.f_is _ _
    | with_reducible exact laws_toBoxS.f_is _
    | with_reducible exact Is.now _
    | with_reducible refine Is.ite ?_ ?_
    | with_reducible refine Is.bind ?_ (fun _ => ?_)
theorem laws_FnExactHardenedBoxes.fv_eq (l0 : List (S64)) : laws_FnExactHardenedBoxes.fv l0 = (laws_szBoxS.fv l0 1048576).bind fun t353 => (if t353 < 0 then (some true) else ((laws_toBoxS.fv l0).bind fun t354 => ((spec_HardenedBoxes.fv t354).bind fun t357 => ((laws_toBoxS.fv l0).bind fun t360 => ((impl_HardenedBoxes.fv t360).bind fun t363 => ((laws_eqIntS.fv t363 t357).bind fun t366 => (if t366 = true then ((laws_toBoxS.fv l0).bind fun t367 => ((laws_eqBoxS.fv t360 t367).bind fun t370 => (if t370 = true then ((laws_markBoxS.fv t360 1).bind fun t371 => (if t371 < 0 then (laws_FnExactHardenedBoxes.j0v l0 t357 t363 true) else ((laws_eqIntS.fv t363 t357).bind fun t372 => (laws_FnExactHardenedBoxes.j0v l0 t357 t363 (!t372))))) else (some false)))) else (some false)))))))) := by
  refine Is.lim (g := fun k => laws_FnExactHardenedBoxes.f k l0) ?_
  · unfold laws_FnExactHardenedBoxes.f
    repeat' first
    | with_reducible exact impl_HardenedBoxes.f_is _
    | with_reducible exact laws_FnExactHardenedBoxes.j0_is _ _ _ _
    | with_reducible exact laws_eqBoxS.f_is _ _
    | with_reducible exact laws_eqIntS.f_is _ _
    | with_reducible exact laws_markBoxS.f_is _ _
    | with_reducible exact laws_szBoxS.f_is _ _
    | with_reducible exact laws_toBoxS.f_is _
    | with_reducible exact spec_HardenedBoxes.f_is _
    | with_reducible exact Is.now _
    | with_reducible refine Is.ite ?_ ?_
    | with_reducible refine Is.bind ?_ (fun _ => ?_)
end Go.Proofs.Ytdoefkloanpliaa.Print

/- FnExactHardenedBoxes: whatever the path, the program's HardenedBoxes and the reference's HardenedBoxes return the same, leave the path as it was, and the result shares no memory. No condition. -/
set_option linter.unusedSimpArgs false
set_option linter.unusedVariables false
namespace Go.Proofs.Ytdoefkloanpliaa.Pure
open Go.RowKit Go.Proofs.YtdoefkloanpliaaW.PrintWords Go.Proofs.Ytdoefkloanpliaa.Base Go.Proofs.Ytdoefkloanpliaa.Print Go.Proofs.Ytdoefkloanpliaa.Plain

theorem FnExactHardenedBoxes : laws_FnExactHardenedBoxes.Pure := by
  rintro l ⟨hl, hb⟩
  have hs : ∀ x ∈ l, x.f1.length ≤ 1000000000000000000 ∧ x.f2.length ≤ 1000000000000000000 := fun x hx => by
    obtain ⟨_, ⟨h1, _⟩, ⟨h2, _⟩, _⟩ := hb x hx
    exact ⟨by omega, by omega⟩
  refine ends (g := fun k => laws_FnExactHardenedBoxes.f k l) ?_
  show laws_FnExactHardenedBoxes.fv l = some true
  rw [laws_FnExactHardenedBoxes.fv_eq, szBoxS_v l 1048576 (by omega) (by omega) (by omega) hs]
  simp only [Option.bind_some]
  by_cases hz : sizeOf1 szB l 1048576 < 0
  · rw [if_pos hz]
  · obtain ⟨_, h1, h2⟩ := sizeOf1_le szB l 1048576 (by omega)
    have ht := marksB_le l 1048576 (by omega)
    have hn : l.length ≤ 1000000000000 := by omega
    have hx : ∀ x ∈ l, okB (toB x) := fun x hx => by
      have h3 := h2 x hx
      unfold szB at h3
      exact ⟨by show x.f1.length ≤ _; omega, by show x.f2.length ≤ _; omega⟩
    have hy : ∀ x ∈ l.map toB, okB x := fun x hm => by
      obtain ⟨y, hy, rfl⟩ := List.mem_map.1 hm
      exact hx y hy
    have hm : (l.map toB).length ≤ 1000000000000 := by
      rw [List.length_map]
      exact hn
    have e1 := specBoxes_v (l.map toB) hm hy
    have e2 := implBoxes_v (l.map toB) hm hy
    have hg : (hards 0 (l.map toB)).length ≤ (l.map toB).length := (hards_in (l.map toB) 0).2.2
    generalize hards 0 (l.map toB) = g at hg e1 e2
    have hg1 : g.length ≤ 1000000000000 := by omega
    have n0 : ¬ (1 + (g.length : Int)) < 0 := by omega
    have n1 : ¬ (1 + (marksB (l.map toB) : Int)) < 0 := by omega
    rw [if_neg hz]
    simp only [toBoxS_v l hn hx, e1, e2, Option.bind_some, eqIntS_v g g hg1, eqBoxS_v _ hm hy, decide_true, if_true, markBoxS_v (l.map toB) 1 hm hy (by omega) (by omega), n1, if_false, Bool.not_true, laws_FnExactHardenedBoxes.j0v_eq, Bool.false_eq_true, markIntS_v g 1 hg1 (by omega) (by omega), heldIntS_v g.length 1 hg1 (by omega) (by omega), n0]
end Go.Proofs.Ytdoefkloanpliaa.Pure
